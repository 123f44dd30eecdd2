/- Part 1 of 7 of what the laws of layer 1 share: contracts of functions of the program, each for every argument of its description; no condition beyond it. -/
import Derived.WalkKit
import Derived.Orders
import Derived.KernelRfl
import Derived.Laws.Rows
import Derived.Laws.Tables
import Derived.Deep.AppendSrc
import Derived.Laws.CopyRow
import Derived.Laws.IdiomCopy
import Derived.Test.YtgnepgenefcnpaaGreatDoorProg
set_option linter.unusedVariables false
set_option linter.unusedSimpArgs false
namespace Go.Am
open Go.RowKit
abbrev Env:=Nat->Value
abbrev ck:=Nat->Prop
def j3:Value->Nat
 |.pointer (some a)=>a.block
 |.slice (some a) _ _=>a.block
 |_=>0
inductive Shape where
 |Gy|one|agg (n:Nat)
def Shape.ok:Shape->Value->Prop
 |.Gy,_=>True
 |.one,v=>v.oneCell'=true
 |.agg n,v=>∃cs:Array Value,v=.agg cs/\cs.size=n
structure D where
 p:Env->World->ck->Value->Prop
 nm:List Nat
 sh:Shape
 mono:∀{ε ε':Env} {w w':World} {S S':ck} {v:Value},p ε w S v->(∀r∈nm,ε' r=ε r)->(∀k,S k->k<w.heap.size->S' k/\w'.heap[k]?=w.heap[k]?)->p ε' w' S' v
 ji:∀{ε:Env} {w:World} {S:ck} {v:Value},p ε w S v->sh.ok v
structure Hp where
 p:Env->World->ck->Value->ck->Prop
 nm:List Nat
 mono:∀{ε ε':Env} {w w':World} {S S':ck} {b:Value} {F:ck},p ε w S b F->(∀r∈nm,ε' r=ε r)->(∀k,S k->k<w.heap.size->S' k/\w'.heap[k]?=w.heap[k]?)->(∀k,F k->w'.heap[k]?=w.heap[k]?)->p ε' w' S' b F
structure nH(B:Nat)(L:ck)(w w':World):Prop where
 os:w'.os=w.os
 tape:w'.tape=w.tape
 output:w'.output=w.output
 size:w.heap.size<=w'.heap.size
 block:∀k,k<B->¬L k->w'.heap[k]?=w.heap[k]?
theorem nH.trans{B:Nat}{L:ck}{a b c:World}(h:nH B L a b)(k:nH B L b c):nH B L a c:=
 ⟨k.os.trans h.os,k.tape.trans h.tape,k.output.trans h.output,Nat.le_trans h.size k.size,fun i hi hl=>(k.block i hi hl).trans (h.block i hi hl)⟩
theorem nH.of{B:Nat}{L:ck}{a b:World}(h:Below B a b):nH B L a b:=⟨h.os,h.tape,h.output,h.size,fun k hk _=>h.block k hk⟩
structure Ctx where
 A:ck
 base:Nat
 w0:World
 n:Nat
 L:ck
def al(c:Ctx)(H:Nat->Option Hp)(φ:Nat->ck):ck:=fun k=>(c.A k\/c.base<=k\/c.L k)/\∀r,H r≠none->¬φ r k
structure cd(c:Ctx)(T:Nat->Option D)(H:Nat->Option Hp)(a:Act)(w:World)(ε:Env)(φ:Nat->ck):Prop where
 t:∀t d,T t=some d->d.p ε w (al c H φ) (a.tmps.getD t undef)
 tn:∀t d,T t=some d->∀r∈d.nm,H r≠none
 h:∀r h,H r=some h->h.p ε w (al c H φ) (ε r) (φ r)
 hn:∀r h,H r=some h->∀r'∈h.nm,H r'≠none
 lo:∀r,H r≠none->∀k,φ r k->(c.base<=k\/c.L k)/\k<w.heap.size
 dj:∀r r',H r≠none->H r'≠none->r≠r'->∀k,φ r k->¬φ r' k
 pP:nH c.base c.L c.w0 w
 bs:c.base=c.w0.heap.size
 sz:a.tmps.size=c.n
 df:a.defers=[]
def Sat(c:Ctx)(T:Nat->Option D)(H:Nat->Option Hp)(a:Act)(w:World):Prop:=∃ε φ,cd c T H a w ε φ
theorem Sat.ext{c:Ctx}{T T':Nat->Option D}{H H':Nat->Option Hp}{a:Act}{w:World}(h:Sat c T H a w)(hT:∀t,T' t=T t)(hH:∀r,H' r=H r):Sat c T' H' a w:=by
 have e1:T'=T:=funext hT;have e2:H'=H:=funext hH;subst e1;subst e2;exact h
theorem cd.grow{c:Ctx}{T:Nat->Option D}{H:Nat->Option Hp}{a:Act}{w w':World}{ε:Env}{φ:Nat->ck}(h:cd c T H a w ε φ)(hb:Below w.heap.size w w'):cd c T H a w' ε φ where
 t:=fun t d ht=>d.mono (h.t t d ht) (fun _ _=>rfl) (fun k hk hlt=>⟨hk,hb.block k hlt⟩)
 tn:=h.tn
 h:=fun r x hr=>x.mono (h.h r x hr) (fun _ _=>rfl) (fun k hk hlt=>⟨hk,hb.block k hlt⟩) (fun k hk=>hb.block k (h.lo r (by simp[hr]) k hk).2)
 hn:=h.hn
 lo:=fun r hr k hk=>⟨(h.lo r hr k hk).1,Nat.lt_of_lt_of_le (h.lo r hr k hk).2 hb.size⟩
 dj:=h.dj
 pP:=h.pP.trans (.of (hb.mono (by rw[h.bs];exact h.pP.size)))
 bs:=h.bs
 sz:=h.sz
 df:=h.df
def fY(T:Nat->Option D)(dst:Option Nat)(d:D):Nat->Option D:=
 match dst with
 |none=>T
 |some t=>fun t'=>if t'=t then some d else T t'
theorem cd.fV{c:Ctx}{T:Nat->Option D}{H:Nat->Option Hp}{a:Act}{w:World}{ε:Env}{φ:Nat->ck}(h:cd c T H a w ε φ):c.base<=w.heap.size:=by
 rw[h.bs];exact h.pP.size
theorem cd.put{c:Ctx}{T:Nat->Option D}{H:Nat->Option Hp}{a:Act}{w:World}{ε:Env}{φ:Nat->ck}(h:cd c T H a w ε φ){dst:Option Nat}{v:Value}{d:D}
  (hd:∀t,dst=some t->t<c.n)(hv:d.p ε w (al c H φ) v)(hn:∀r∈d.nm,H r≠none):cd c (fY T dst d) H (a.put dst v) w ε φ:=by
 cases dst with
 |none=>exact h
 |some t0=>
  refine{h with t:=?_,tn:=?_,sz:=by simpa [Act.put]using h.sz,df:=h.df}
  ·intro t d' ht;simp only[fY]at ht
   split at ht
   ·rename_i e;subst e;injection ht with ht;subst ht;have:t<a.tmps.size:=by rw[h.sz];exact hd t rfl
    simpa [Act.put,this]using hv
   ·rename_i e;have:=h.t t d' ht;simpa [Act.put,Array.getElem?_setIfInBounds_ne (Ne.symm e)]using this
  ·intro t d' ht;simp only[fY]at ht
   split at ht
   ·injection ht with ht;subst ht;exact hn
   ·exact h.tn t d' ht
def aM:List (Nat×D)->Nat->Option D
 |[],_=>none
 |(t',d)::T,t=>match Nat.beq t t' with|true=>some d|false=>aM T t
def af:List (Nat×Hp)->Nat->Option Hp
 |[],_=>none
 |(t',d)::T,t=>match Nat.beq t t' with|true=>some d|false=>af T t
def bg(T:List (Nat×D)):Option Nat->D->List (Nat×D)
 |none,_=>T
 |some t,d=>(t,d)::T
theorem iH(T:List (Nat×D))(dst:Option Nat)(d:D):fY (aM T) dst d=aM (bg T dst d):=by
 funext t
 cases dst with
 |none=>rfl
 |some t0=>
  simp only[fY,bg,aM];by_cases e:t=t0
  ·subst e;simp
  ·have:Nat.beq t t0=false:=by
    cases hb:Nat.beq t t0 with
    |false=>rfl
    |true=>exact absurd (Nat.eq_of_beq_eq_true hb) e
   simp[e,this]
def bf(H:Nat->Option Hp)(l:List (Nat×Hp)):Nat->Option Hp:=fun r=>match af l r with|some h=>some h|none=>H r
theorem bq(l H:List (Nat×Hp)):bf (af H) l=af (l++H):=by
 funext r
 induction l with
 |nil=>rfl
 |cons x l ih=>
  obtain⟨r0,h⟩:=x;simp only[bf,af,List.cons_append]at ih|-
  cases Nat.beq r r0 with
  |true=>rfl
  |false=>exact ih
theorem xT(H:Nat->Option Hp):bf H []=H:=rfl
structure Spec where
 ins:List (Nat×D)
 cY:List (Nat×Hp)
 out:D
 cZ:List (Nat×Hp)
 news:List Nat
def fq(T:Nat->Option D):List (Nat×D)->Prop
 |[]=>True
 |(t,d)::l=>T t=some d/\fq T l
def p9(H:Nat->Option Hp):List (Nat×Hp)->Prop
 |[]=>True
 |(t,d)::l=>H t=some d/\p9 H l
def nj(H:Nat->Option Hp):List Nat->Prop
 |[]=>True
 |r::l=>H r=none/\nj H l
def uh(n:Nat)(o:Oper):Bool:=match o.dst with|none=>true|some t=>Nat.blt t n
def qp(P:Program)(ops:Array Oper)(c:Ctx)(o:Oper)(sp:Spec):Prop:=
 uh c.n o=true->∀T H,fq T sp.ins->p9 H sp.cY->nj H sp.news->∀a w,Sat c T H a w->∀(Q:Exit->Act->World->Prop) (K:Act->World->Prop),
  (∀a' w',Sat c (fY T o.dst sp.out) (bf H sp.cZ) a' w'->K a' w')->
  (if Region.wanted o (yielded ops a.tmps)then o.wp P a w K Q else K (a.put o.dst undef) w)
inductive ai(P:Program)(ops:Array Oper)(c:Ctx):List Oper->List (Nat×D)->List (Nat×Hp)->List Spec->List (Nat×D)->List (Nat×Hp)->Prop where
 |nil {T H}:ai P ops c [] T H [] T H
 |cons {o os T H sp sps T' H'} (hs:qp P ops c o sp) (hi:fq (aM T) sp.ins) (hh:p9 (af H) sp.cY) (hn:nj (af H) sp.news)
   (hr:ai P ops c os (bg T o.dst sp.out) (sp.cZ++H) sps T' H'):ai P ops c (o::os) T H (sp::sps) T' H'
def fb(n:Nat):List Oper->Bool
 |[]=>true
 |o::l=>match uh n o with|true=>fb n l|false=>false
theorem nR{n:Nat}{o:Oper}{l:List Oper}(h:fb n (o::l)=true):uh n o=true/\fb n l=true:=by
 simp only[fb]at h
 split at h
 ·rename_i e;exact⟨e,h⟩
 ·cases h
theorem ai.wp{P:Program}{ops:Array Oper}{c:Ctx}{l:List Oper}{T:List (Nat×D)}{H:List (Nat×Hp)}{sps:List Spec}{T':List (Nat×D)}{H':List (Nat×Hp)}
  (h:ai P ops c l T H sps T' H')(hd:fb c.n l=true){Q:Exit->Act->World->Prop}(hQ:∀a w,Sat c (aM T') (af H') a w->Q .normal a w):
  ∀a w,Sat c (aM T) (af H) a w->wpList P ops Q l a w:=by
 induction h with
 |nil=>exact fun a w hs=>hQ a w hs
 |@cons o os T H sp sps T' H' hs hi hh hn _ ih=>
  intro a w hsat;obtain⟨h1,h2⟩:=nR hd;have:=hs h1 (aM T) (af H) hi hh hn a w hsat Q (wpList P ops Q os) (fun a' w' hs'=>ih h2 hQ a' w' (by rw[iH,bq]at hs';exact hs'));unfold wpList
  split
  ·rename_i hw;rw[if_pos hw]at this;exact .inl this
  ·rename_i hw;rw[if_neg hw]at this;exact this
def Ok(P:Program)(c:Ctx)(T:List (Nat×D))(H:List (Nat×Hp))(x:Code)(Q:Exit->Act->World->Prop):Prop:=
 ∀a w,Sat c (aM T) (af H) a w->x.wp P Q a w
section
variable {P:Program} {c:Ctx} {T T':List (Nat×D)} {H H':List (Nat×Hp)} {Q:Exit->Act->World->Prop} {x y:Code} {id:Nat} {sps:List Spec}
theorem Ok.region{l:List Oper}(h:ai P l.toArray c l T H sps T' H')(hd:fb c.n l=true)(hQ:∀a w,Sat c (aM T') (af H') a w->Q .normal a w):Ok P c T H (.region id l.toArray false) Q:=
 fun a w hs=>wp_region_lit (h.wp hd hQ a w hs)
theorem Ok.al{l:List Oper}(h:ai P l.toArray c l T H sps T' H')(hd:fb c.n l=true)(hy:Ok P c T' H' y Q):Ok P c T H (.seq (.region id l.toArray false) y) Q:=
 fun a w hs=>wp_seq (Ok.region h hd (fun a' w' hs'=>hy a' w' hs') a w hs)
theorem Ok.seq{K:Act->World->Prop}(h:Ok P c T H x (Exit.then K Q))(hy:∀a w,K a w->y.wp P Q a w):Ok P c T H (.seq x y) Q:=
 fun a w hs=>wp_seq (wp_mono (h a w hs) (fun e a' w' q=>by cases e<;>first|exact q|exact hy _ _ q))
end
def bN(ε:Env)(w:World)(S:ck):List D->List Value->Prop
 |[],[]=>True
 |d::l,v::vs=>d.p ε w S v/\bN ε w S l vs
 |_,_=>False
def bD:List D->List Nat
 |[]=>[]
 |d::l=>d.nm++bD l
theorem aL{ε:Env}{w:World}{S:ck}:∀{l:List D} {vs:List Value},bN ε w S l vs->vs.length=l.length
 |[],[],_=>rfl
 |_::_,_::_,h=>by simp[aL h.2]
 |[],_::_,h=>h.elim
 |_::_,[],h=>h.elim
theorem bF{ε ε':Env}{w w':World}{S S':ck}(hS:∀k,S k->k<w.heap.size->S' k/\w'.heap[k]?=w.heap[k]?):∀{l:List D} {vs:List Value},bN ε w S l vs->(∀r∈bD l,ε' r=ε r)->bN ε' w' S' l vs
 |[],[],_,_=>trivial
 |d::l,_::_,h,he=>⟨d.mono h.1 (fun r hr=>he r (by simp[bD,hr])) hS,bF hS h.2 (fun r hr=>he r (by simp[bD,hr]))⟩
 |[],_::_,h,_=>h.elim
 |_::_,[],h,_=>h.elim
theorem fP{ε:Env}{w:World}{S:ck}:∀{l:List D} {vs:List Value} {i:Nat} {d:D},bN ε w S l vs->l[i]?=some d->∃v,vs[i]?=some v/\d.p ε w S v
 |d::l,v::vs,0,d',h,hi=>by simp at hi;subst hi;exact⟨v,rfl,h.1⟩
 |d::l,v::vs,i+1,d',h,hi=>by simpa using fP (i:=i) h.2 (by simpa using hi)
 |[],_::_,_,_,h,_=>h.elim
 |_::_,[],_,_,h,_=>h.elim
 |[],[],_,_,_,hi=>by simp at hi
theorem eP{ε:Env}{w:World}{S:ck}:∀{l:List D} {vs:List Value} (n:Nat),bN ε w S l vs->bN ε w S (l.take n) (vs.take n)
 |[],[],n,_=>by simp[bN]
 |d::l,v::vs,0,_=>by simp[bN]
 |d::l,v::vs,n+1,h=>⟨h.1,eP n h.2⟩
 |[],_::_,_,h=>h.elim
 |_::_,[],_,h=>h.elim
theorem fl{ε:Env}{w:World}{S:ck}:∀{l:List D} {vs:List Value} (n:Nat),bN ε w S l vs->bN ε w S (l.drop n) (vs.drop n)
 |[],[],n,_=>by simp[bN]
 |d::l,v::vs,0,h=>h
 |d::l,v::vs,n+1,h=>fl n h.2
 |[],_::_,_,h=>h.elim
 |_::_,[],_,h=>h.elim
theorem bR{ε:Env}{w:World}{S:ck}:∀{l m:List D} {vs us:List Value},bN ε w S l vs->bN ε w S m us->bN ε w S (l++m) (vs++us)
 |[],_,[],_,_,h=>h
 |_::_,_,_::_,_,h,h'=>⟨h.1,bR h.2 h'⟩
 |[],_,_::_,_,h,_=>h.elim
 |_::_,_,[],_,h,_=>h.elim
theorem uE{ε:Env}{w:World}{S:ck}{d:D}{v:Value}(hd:d.p ε w S v):∀{l:List D} {vs:List Value} (i:Nat),bN ε w S l vs->bN ε w S (l.set i d) (vs.set i v)
 |[],[],_,_=>trivial
 |_::_,_::_,0,h=>⟨hd,h.2⟩
 |_::_,_::_,i+1,h=>⟨h.1,uE hd i h.2⟩
 |[],_::_,_,h=>h.elim
 |_::_,[],_,h=>h.elim
theorem bG{r:Nat}:∀{l:List D},r∈bD l↔∃d∈l,r∈d.nm
 |[]=>by simp[bD]
 |d::l=>by simp[bD,bG (l:=l)]
namespace D
def any:D:={p:=fun _ _ _ _=>True,nm:=[],sh:=.Gy,mono:=fun _ _ _=>trivial,ji:=fun _=>trivial}
def int(k:IntKind)(n:Int):D:={p:=fun _ _ _ v=>v=.int k n,nm:=[],sh:=.one,mono:=fun h _ _=>h,ji:=fun e=>by subst e;rfl}
def bool(b:Bool):D:={p:=fun _ _ _ v=>v=.bool b,nm:=[],sh:=.one,mono:=fun h _ _=>h,ji:=fun e=>by subst e;rfl}
def str(s:ByteArray):D:={p:=fun _ _ _ v=>v=.string s,nm:=[],sh:=.one,mono:=fun h _ _=>h,ji:=fun e=>by subst e;rfl}
def nil:D:={p:=fun _ _ _ v=>v=.slice none 0 0,nm:=[],sh:=.one,mono:=fun h _ _=>h,ji:=fun e=>by subst e;rfl}
def lit(u:Value):D:={p:=fun _ _ _ v=>v=u,nm:=[],sh:=.Gy,mono:=fun h _ _=>h,ji:=fun _=>trivial}
def agg(l:List D):D where
 p:=fun ε w S v=>∃cs:List Value,v=.agg cs.toArray/\(∀u∈cs,u.oneCell'=true)/\bN ε w S l cs
 nm:=bD l
 sh:=.agg l.length
 mono:=fun⟨cs,e,h1,h⟩ he hS=>⟨cs,e,h1,bF hS h he⟩
 ji:=fun⟨cs,e,_,h⟩=>⟨cs.toArray,e,by simpa using aL h⟩
def gV(l:List D):D where
 p:=fun ε w S v=>∃cs:List Value,v=.tuple cs.toArray/\bN ε w S l cs
 nm:=bD l
 sh:=.Gy
 mono:=fun⟨cs,e,h⟩ he hS=>⟨cs,e,bF hS h he⟩
 ji:=fun _=>trivial
def ref(r off:Nat):D where
 p:=fun ε _ _ v=>v=.pointer (some ⟨j3 (ε r),off,none⟩)
 nm:=[r]
 sh:=.one
 mono:=fun h he _=>by rw[he _ (by simp)];exact h
 ji:=fun e=>by subst e;rfl
def own(r:Nat):D where
 p:=fun ε _ _ v=>v=ε r/\v.oneCell'=true
 nm:=[r]
 sh:=.one
 mono:=fun h he _=>by rw[he _ (by simp)];exact h
 ji:=fun h=>h.2
def IZ:Value->Nat
 |.slice _ _ c=>c
 |_=>0
def cut(r n:Nat):D where
 p:=fun ε _ _ v=>∃cap,v=.slice (some ⟨j3 (ε r),0,none⟩) n cap/\n<=cap/\cap=IZ (ε r)
 nm:=[r]
 sh:=.one
 mono:=fun h he _=>by rw[he _ (by simp)];exact h
 ji:=fun⟨_,e,_⟩=>by subst e;rfl
end D
def B4:Value->D
 |.int k n=>.int k n
 |.bool b=>.bool b
 |.string s=>.str s
 |.slice none 0 0=>.nil
 |v=>.lit v
def ev(T:List (Nat×D)):Operand->Option D
 |.tmp t=>aM T t
 |.const v=>some (B4 v)
 |.func f=>some (.lit (.func (.func f) #[] #[]))
 |.global g=>some (.lit (.pointer (some ⟨g,0,none⟩)))
theorem FQ(ε:Env)(w:World)(S:ck)(v:Value):(B4 v).p ε w S v:=by
 unfold B4
 split<;>rfl
theorem DF(v:Value):(B4 v).nm=[]:=by
 unfold B4
 split<;>rfl
def eN:Operand->D->List (Nat×D)
 |.tmp t,d=>[(t,d)]
 |_,_=>[]
def Hv:Operand->D->Prop
 |.tmp _,_=>True
 |.const v,d=>d=B4 v
 |.func f,d=>d=.lit (.func (.func f) #[] #[])
 |.global g,d=>d=.lit (.pointer (some ⟨g,0,none⟩))
theorem aw{T:List (Nat×D)}{x:Operand}{d:D}(h:ev T x=some d):fq (aM T) (eN x d)/\Hv x d:=by
 cases x<;>simp[ev]at h
 ·exact⟨⟨h,trivial⟩,trivial⟩
 ·exact⟨trivial,h.symm⟩
 ·exact⟨trivial,h.symm⟩
 ·exact⟨trivial,h.symm⟩
theorem aU{T:Nat->Option D}:∀{l m:List (Nat×D)},fq T (l++m)↔fq T l/\fq T m
 |[],m=>by simp[fq]
 |(t,d)::l,m=>by simp[fq,aU (l:=l),and_assoc]
theorem cd.ev{c:Ctx}{T:Nat->Option D}{H:Nat->Option Hp}{a:Act}{w:World}{ε:Env}{φ:Nat->ck}(h:cd c T H a w ε φ){x:Operand}{d:D}
  (hi:fq T (eN x d))(hc:Hv x d):d.p ε w (al c H φ) (a.eval x)/\∀r∈d.nm,H r≠none:=by
 cases x with
 |tmp t=>exact⟨h.t t d hi.1,h.tn t d hi.1⟩
 |const v=>simp only[Hv]at hc;subst hc;exact⟨FQ _ _ _ _,by simp[DF]⟩
 |func f=>simp only[Hv]at hc;subst hc;exact⟨rfl,by simp[D.lit]⟩
 |global g=>simp only[Hv]at hc;subst hc;exact⟨rfl,by simp[D.lit]⟩
theorem cJ{T:Nat->Option D}:∀{xs:List (Operand×D)},fq T (xs.flatMap fun x=>eN x.1 x.2)->∀x∈xs,fq T (eN x.1 x.2)
 |[],_,x,h=>by cases h
 |y::ys,hi,x,h=>by
  simp only[List.flatMap_cons,aU]at hi;rcases List.mem_cons.1 h with rfl|h
  ·exact hi.1
  ·exact cJ hi.2 x h
theorem eI{T:List (Nat×D)}:∀{xs:List (Operand×D)},(∀x∈xs,ev T x.1=some x.2)->fq (aM T) (xs.flatMap fun x=>eN x.1 x.2)
 |[],_=>trivial
 |y::ys,h=>by
  simp only[List.flatMap_cons,aU];exact⟨(aw (h y (by simp))).1,eI (fun x hx=>h x (by simp[hx]))⟩
theorem cU{n:Nat}{o:Oper}(hd:uh n o=true):∀t,o.dst=some t->t<n:=by
 intro t ht;simp only[uh,ht,Nat.blt_eq]at hd;exact hd
theorem a_{o:Oper}(hg:o.guard=none)(y:Nat->Option Bool):Region.wanted o y=true:=by simp[Region.wanted,hg]
section
variable {P:Program} {ops os:List Oper} {c:Ctx} {T T':List (Nat×D)} {H H':List (Nat×Hp)} {sps:List Spec} {o:Oper}
theorem qp.pure{ops:Array Oper}{xs:List (Operand×D)}{d:D}(hg:o.guard=none)(hc:∀x∈xs,Hv x.1 x.2)
  (hnm:∀r∈d.nm,∃x∈xs,r∈x.2.nm)
  (hrun:∀(ε:Env) (w:World) (S:ck) (a:Act),(∀x∈xs,x.2.p ε w S (a.eval x.1))->∃v,(execOp a.eval o).run P w=.ok (.value v) w/\d.p ε w S v):
  qp P ops c o {ins:=xs.flatMap fun x=>eN x.1 x.2,cY:=[],out:=d,cZ:=[],news:=[]}:=by
 intro hd T H hi _ _ a w ⟨ε,φ,hs⟩ Q K hK;rw[if_pos (a_ hg _)];have hx:∀x∈xs,fq T (eN x.1 x.2):=cJ hi;obtain⟨v,hr,hv⟩:=hrun ε w (al c H φ) a (fun x h=>(hs.ev (hx x h) (hc x h)).1);simp only[Oper.wp,hr,Oper.upon];refine hK _ _ ⟨ε,φ,?_⟩;rw[xT];refine hs.put ?_ hv ?_
 ·exact cU hd
 ·intro r hr;obtain⟨x,hxm,hrx⟩:=hnm r hr;exact(hs.ev (hx x hxm) (hc x hxm)).2 r hrx
def ps(xs:List (Operand×D))(d:D):Spec:={ins:=xs.flatMap fun x=>eN x.1 x.2,cY:=[],out:=d,cZ:=[],news:=[]}
theorem ai.pure{ops:Array Oper}(xs:List (Operand×D)){d:D}(hg:o.guard=none)(he:∀x∈xs,ev T x.1=some x.2)
  (hnm:∀r∈d.nm,∃x∈xs,r∈x.2.nm)
  (hrun:∀(ε:Env) (w:World) (S:ck) (a:Act),(∀x∈xs,x.2.p ε w S (a.eval x.1))->∃v,(execOp a.eval o).run P w=.ok (.value v) w/\d.p ε w S v)
  (hr:ai P ops c os (bg T o.dst d) H sps T' H'):
  ai P ops c (o::os) T H (ps xs d::sps) T' H':=
 .cons (qp.pure hg (fun x hx=>(aw (he x hx)).2) hnm hrun) (eI he) trivial trivial hr
variable {ops:Array Oper} {dst:Option Nat} {ty:TypeId} {pos:String} {aft:Array Edge}
theorem ai.mv{x:Operand}{d:D}(h:ev T x=some d)(hr:ai P ops c os (bg T dst d) H sps T' H'):
  ai P ops c (⟨dst,.move x,ty,pos,aft,none⟩::os) T H (ps [(x,d)] d::sps) T' H':=
 .pure [(x,d)] rfl (by simpa using h) (fun r hr=>⟨(x,d),by simp,hr⟩) (fun ε w S a hx=>⟨_,rfl,hx (x,d) (by simp)⟩) hr
theorem ai.ao{x:Operand}{d:D}(h:ev T x=some d)(hr:ai P ops c os (bg T dst d) H sps T' H'):
  ai P ops c (⟨dst,.assign x,ty,pos,aft,none⟩::os) T H (ps [(x,d)] d::sps) T' H':=
 .pure [(x,d)] rfl (by simpa using h) (fun r hr=>⟨(x,d),by simp,hr⟩) (fun ε w S a hx=>⟨_,rfl,hx (x,d) (by simp)⟩) hr
theorem ai.ext{x:Operand}{i:Nat}{l:List D}{d:D}(h:ev T x=some (.gV l))(hi:l[i]?=some d)(hr:ai P ops c os (bg T dst d) H sps T' H'):
  ai P ops c (⟨dst,.extract x i,ty,pos,aft,none⟩::os) T H (ps [(x,.gV l)] d::sps) T' H':=
 .pure [(x,.gV l)] rfl (by simpa using h) (fun r hr=>⟨(x,.gV l),by simp,(bG (l:=l)).2 ⟨d,List.mem_of_getElem? hi,hr⟩⟩) (fun ε w S a hx=>by
  obtain⟨cs,e,hl⟩:=hx (x,.gV l) (by simp);obtain⟨v,hv,hp⟩:=fP hl hi;dsimp only at e;exact⟨v,by simp[execOp,e,Instr.extract,hv],hp⟩) hr
end
def only(b:Nat):ck:=fun k=>k=b
def Hp.box(ty:TypeId)(l:List D):Hp where
 p:=fun ε w S b F=>F=only (j3 b)/\∃cs:List Value,w.heap[j3 b]?=some (.cells cs.toArray ty (0,0))/\(∀u∈cs,u.oneCell'=true)/\bN ε w S l cs
 nm:=bD l
 mono:=fun⟨e,cs,hb,h1,h⟩ he hS hF=>⟨e,cs,(hF _ (by rw[e];rfl)).trans hb,h1,bF hS h he⟩
def db{α:Type}(f:Nat->α)(r:Nat)(x:α):Nat->α:=fun k=>if k=r then x else f k
theorem aq{α:Type}(f:Nat->α)(r:Nat)(x:α):db f r x r=x:=by simp[db]
theorem aB{α:Type}(f:Nat->α){r k:Nat}(x:α)(h:k≠r):db f r x k=f k:=by simp[db,h]
theorem bu(H:Nat->Option Hp)(r:Nat)(h:Hp):bf H [(r,h)]=db H r (some h):=by
 funext k
 simp only[bf,af,db];by_cases e:k=r
 ·subst e;simp
 ·have:Nat.beq k r=false:=by
   cases hb:Nat.beq k r with
   |false=>rfl
   |true=>exact absurd (Nat.eq_of_beq_eq_true hb) e
  simp[e,this]
section
variable {c:Ctx} {T:Nat->Option D} {H:Nat->Option Hp} {a:Act} {w w':World} {ε:Env} {φ:Nat->ck}
theorem cd.lB(h:cd c T H a w ε φ){r:Nat}{x:Hp}{b:Value}{F:ck}(hr:H r=none)(hb:Below w.heap.size w w')(hF:∀k,F k->w.heap.size<=k/\k<w'.heap.size)
  (hx:x.p (db ε r b) w' (al c (bf H [(r,x)]) (db φ r F)) b F)(hn:∀r'∈x.nm,H r'≠none):cd c T (bf H [(r,x)]) a w' (db ε r b) (db φ r F):=by
 rw[bu]at hx|-;have live:∀r',H r'≠none->r'≠r:=fun r' h' e=>h' (e▸hr);have hreg:∀k,al c H φ k->k<w.heap.size->al c (db H r (some x)) (db φ r F) k/\w'.heap[k]?=w.heap[k]?:=by
  intro k hk hlt;refine⟨⟨hk.1,fun r' hr'=>?_⟩,hb.block k hlt⟩;by_cases e:r'=r
  ·subst e;rw[aq];intro hf;have:=(hF k hf).1;omega
  ·rw[aB _ _ e];exact hk.2 r' (by rwa [aB _ _ e]at hr')
 have up:∀r',H r'≠none->db H r (some x) r'≠none:=fun r' h'=>by rw[aB _ _ (live r' h')];exact h'
 constructor
 ·exact fun t d ht=>d.mono (h.t t d ht) (fun r' hr'=>aB _ _ (live r' (h.tn t d ht r' hr'))) hreg
 ·exact fun t d ht r' hr'=>up r' (h.tn t d ht r' hr')
 ·intro r' y hy;by_cases e:r'=r
  ·subst e;rw[aq]at hy;injection hy with hy;subst hy;rw[aq,aq];exact hx
  ·rw[aB _ _ e]at hy;rw[aB _ _ e,aB _ _ e];exact y.mono (h.h r' y hy) (fun r2 h2=>aB _ _ (live r2 (h.hn r' y hy r2 h2))) hreg (fun k hk=>hb.block k (h.lo r' (by simp[hy]) k hk).2)
 ·intro r' y hy r2 h2;by_cases e:r'=r
  ·subst e;rw[aq]at hy;injection hy with hy;subst hy;exact up r2 (hn r2 h2)
  ·rw[aB _ _ e]at hy;exact up r2 (h.hn r' y hy r2 h2)
 ·intro r' hr' k hk;by_cases e:r'=r
  ·subst e;rw[aq]at hk;exact⟨.inl (Nat.le_trans h.fV (hF k hk).1),(hF k hk).2⟩
  ·rw[aB _ _ e]at hk hr';have:=h.lo r' hr' k hk;exact⟨this.1,Nat.lt_of_lt_of_le this.2 hb.size⟩
 ·intro r1 r2 h1 h2 hne k hk;by_cases e1:r1=r
  ·subst e1;rw[aq]at hk;have e2:r2≠r1:=Ne.symm hne;rw[aB _ _ e2]at h2|-;intro hk2;have:=(h.lo r2 h2 k hk2).2;have:=(hF k hk).1;omega
  ·rw[aB _ _ e1]at hk h1;by_cases e2:r2=r
   ·subst e2;rw[aq];intro hk2;have:=(h.lo r1 h1 k hk).2;have:=(hF k hk2).1;omega
   ·rw[aB _ _ e2]at h2|-;exact h.dj r1 r2 h1 h2 hne k hk
 ·exact h.pP.trans (.of (hb.mono (by rw[h.bs];exact h.pP.size)))
 ·exact h.bs
 ·exact h.sz
 ·exact h.df
theorem cd.tf(h:cd c T H a w ε φ){r:Nat}{x y:Hp}(hr:H r=some x)(hsz:w'.heap.size=w.heap.size)(ho:w'.os=w.os)(htp:w'.tape=w.tape)(hop:w'.output=w.output)
  (hb:∀k,¬φ r k->w'.heap[k]?=w.heap[k]?)(hy:y.p ε w' (al c H φ) (ε r) (φ r))(hn:∀r'∈y.nm,H r'≠none):cd c T (bf H [(r,y)]) a w' ε φ:=by
 rw[bu];have hl:∀r',db H r (some y) r'≠none↔H r'≠none:=by
  intro r';by_cases e:r'=r
  ·subst e;simp[aq,hr]
  ·rw[aB _ _ e]
 have hreg:al c (db H r (some y)) φ=al c H φ:=by
  funext k
  simp only[al];apply propext
  constructor
  ·exact fun⟨h1,h2⟩=>⟨h1,fun r' hr'=>h2 r' ((hl r').2 hr')⟩
  ·exact fun⟨h1,h2⟩=>⟨h1,fun r' hr'=>h2 r' ((hl r').1 hr')⟩
 have hS:∀k,al c H φ k->k<w.heap.size->al c H φ k/\w'.heap[k]?=w.heap[k]?:=fun k hk _=>⟨hk,hb k (hk.2 r (by simp[hr]))⟩
 constructor
 ·rw[hreg];exact fun t d ht=>d.mono (h.t t d ht) (fun _ _=>rfl) hS
 ·exact fun t d ht r' hr'=>(hl r').2 (h.tn t d ht r' hr')
 ·rw[hreg];intro r' z hz;by_cases e:r'=r
  ·subst e;rw[aq]at hz;injection hz with hz;subst hz;exact hy
  ·rw[aB _ _ e]at hz;exact z.mono (h.h r' z hz) (fun _ _=>rfl) hS (fun k hk=>hb k (h.dj r' r (by simp[hz]) (by simp[hr]) e k hk))
 ·intro r' z hz r2 h2;by_cases e:r'=r
  ·subst e;rw[aq]at hz;injection hz with hz;subst hz;exact(hl r2).2 (hn r2 h2)
  ·rw[aB _ _ e]at hz;exact(hl r2).2 (h.hn r' z hz r2 h2)
 ·intro r' hr' k hk;have:=h.lo r' ((hl r').1 hr') k hk;exact⟨this.1,by rw[hsz];exact this.2⟩
 ·exact fun r1 r2 h1 h2=>h.dj r1 r2 ((hl r1).1 h1) ((hl r2).1 h2)
 ·exact h.pP.trans ⟨ho,htp,hop,Nat.le_of_eq hsz.symm,fun k hk hl=>hb k (fun hf=>by
   rcases(h.lo r (by simp[hr]) k hf).1 with h1|h1
   ·omega
   ·exact hl h1)⟩
 ·exact h.bs
 ·exact h.sz
 ·exact h.df
end
def lay(P:Program)(t:TypeId):Option (Option Nat):=
 match P.underlying t,P.info? t with
 |some (.struct _),some i=>some (some i.size)
 |some (.array _ _),some i=>some (some i.size)
 |some _,some i=>if i.size=1 then some none else none
 |_,_=>none
def wa(P:Program)(s:TypeId)(k:Nat):Option Nat:=
 match P.underlying s with
 |some (.struct fs)=>match fs[k]?with
  |some f=>match P.info? f.type with
   |some i=>if i.size=0 then none else some f.offset
   |none=>none
  |none=>none
 |_=>none
theorem iT{P:Program}{t:TypeId}(h:lay P t=some none)(w:World):(isAgg t).run P w=.ok false w/\(sizeOf t).run P w=.ok 1 w:=by
 unfold lay at h
 split at h<;>try (first|cases h|skip)
 rename_i d i hns hna hu hi
 split at h
 ·rename_i hs
  constructor
  ·unfold isAgg;rw[Sem.run_bind,run_underlying hu w];cases d<;>first|rfl|exact absurd rfl (hns _)|exact absurd rfl (hna _ _)
  ·simp[sizeOf,typeInfo,hi,hs]
 ·cases h
theorem gI{P:Program}{t:TypeId}{n:Nat}(h:lay P t=some (some n))(w:World):(isAgg t).run P w=.ok true w/\(sizeOf t).run P w=.ok n w:=by
 unfold lay at h
 split at h
 ·rename_i fs i hu hi;injection h with h;injection h with h;refine⟨?_,by simp[sizeOf,typeInfo,hi,h]⟩;unfold isAgg;rw[Sem.run_bind,run_underlying hu w];rfl
 ·rename_i _ _ i hu hi;injection h with h;injection h with h;refine⟨?_,by simp[sizeOf,typeInfo,hi,h]⟩;unfold isAgg;rw[Sem.run_bind,run_underlying hu w];rfl
 ·split at h<;>cases h
 ·cases h
theorem Fq{P:Program}{s:TypeId}{k off:Nat}(h:wa P s k=some off)(b o:Nat)(w:World):
  (Instr.fieldAt s (.pointer (some ⟨b,o,none⟩)) k).run P w=.ok (.pointer (some ⟨b,o+off,none⟩)) w:=by
 unfold wa at h
 split at h<;>try cases h
 rename_i fs hu
 split at h<;>try cases h
 rename_i f hf
 split at h<;>try cases h
 rename_i i hi
 split at h
 ·cases h
 ·rename_i hs;injection h with h;unfold Instr.fieldAt;simp only[Sem.run_bind,run_underlying hu w,Result.andThen_ok,hf,Instr.sureAddr,Sem.run_pure,fieldPlace,sizeOf,typeInfo,run_program,hi,hs,if_false,h]
  congr 4
  unfold Addr.add;split<;>simp_all
theorem iL{w:World}{b:Nat}{cs:List Value}{ty:TypeId}(hb:w.heap[b]?=some (.cells cs.toArray ty (0,0)))(i:Nat):w.cell? ⟨b,i,none⟩=cs[i]?:=by
 simp[World.cell?,hb]
theorem gS(b o j:Nat):(⟨b,o,none⟩:Addr).add j=⟨b,o+j,none⟩:=by unfold Addr.add;split<;>simp_all
theorem ia(w:World)(o:Obj):(w.alloc o).heap[w.heap.size]?=some o:=by show(w.heap.push o)[w.heap.size]?=_;simp
theorem cd.Gc{c:Ctx}{T:Nat->Option D}{H:Nat->Option Hp}{a:Act}{w:World}{ε:Env}{φ:Nat->ck}(hs:cd c T H a w ε φ){r:Nat}(t:TypeId){l:List D}{cs:List Value}
  (hn:H r=none)(h1:∀u∈cs,u.oneCell'=true)(hl:bN ε w (al c H φ) l cs)(hnm:∀r'∈bD l,H r'≠none):
  cd c T (bf H [(r,.box t l)]) a (w.alloc (.cells cs.toArray t)) (db ε r (.pointer (some ⟨w.heap.size,0,none⟩))) (db φ r (only w.heap.size)):=by
 refine hs.lB (x:=.box t l) (b:=.pointer (some ⟨w.heap.size,0,none⟩)) (F:=only w.heap.size) (w':=w.alloc (.cells cs.toArray t)) hn ((Below.refl _ _).alloc (Nat.le_refl _) _) (fun k hk=>by simp only[only]at hk;subst hk;simp)
  ⟨rfl,cs,ia _ _,h1,bF ?_ hl ?_⟩ hnm
 ·intro k hk hlt;refine⟨⟨hk.1,fun r' hr'=>?_⟩,Below.heap_alloc _ _ _ hlt⟩;rw[bu]at hr';by_cases e':r'=r
  ·subst e';rw[aq];intro hf';simp only[only]at hf';omega
  ·rw[aB _ _ e']at hr'|-;exact hk.2 r' hr'
 ·intro r' hr';exact aB _ _ (fun e'=>by subst e';exact hnm r' hr' hn)
section
variable {P:Program} {os:List Oper} {c:Ctx} {T T':List (Nat×D)} {H H':List (Nat×Hp)} {sps:List Spec}
variable {ops:Array Oper} {dst:Option Nat} {ty:TypeId} {pos:String} {aft:Array Edge}
def bs(xs:List (Operand×D))(r:Nat)(t:TypeId)(l:List D):Spec:={ins:=xs.flatMap fun x=>eN x.1 x.2,cY:=[],out:=.ref r 0,cZ:=[(r,.box t l)],news:=[r]}
theorem ai.new{r:Nat}{o:Oper}(xs:List (Operand×D))(t:TypeId)(l:List D)(hg:o.guard=none)(hdst:o.dst=some r)(he:∀x∈xs,ev T x.1=some x.2)(hf:af H r=none)
  (hnm:∀r∈bD l,∃x∈xs,r∈x.2.nm)
  (hrun:∀(ε:Env) (w:World) (S:ck) (a:Act),(∀x∈xs,x.2.p ε w S (a.eval x.1))->
   ∃cs:List Value,(execOp a.eval o).run P w=.ok (.value (.pointer (some ⟨w.heap.size,0,none⟩))) (w.alloc (.cells cs.toArray t))/\(∀u∈cs,u.oneCell'=true)/\bN ε w S l cs)
  (hr:ai P ops c os ((r,.ref r 0)::T) ((r,.box t l)::H) sps T' H'):ai P ops c (o::os) T H (bs xs r t l::sps) T' H':=by
 refine .cons (sp:=bs xs r t l) ?_ (eI he) trivial ⟨hf,trivial⟩ (by rw[hdst];exact hr);intro hd T0 H0 hi _ hn a w ⟨ε,φ,hs⟩ Q K hK;rw[if_pos (a_ hg _)];have hx:∀x∈xs,fq T0 (eN x.1 x.2):=cJ hi;obtain⟨cs,hrn,h1,hl⟩:=hrun ε w (al c H0 φ) a (fun x h=>(hs.ev (hx x h) (aw (he x h)).2).1);simp only[Oper.wp,hrn,Oper.upon];refine hK _ _ ⟨db ε r (.pointer (some ⟨w.heap.size,0,none⟩)),db φ r (only w.heap.size),?_⟩;have hN:=hs.Gc t hn.1 h1 hl (fun r' hr'=>by
  obtain⟨x,hxm,hrx⟩:=hnm r' hr';exact(hs.ev (hx x hxm) (aw (he x hxm)).2).2 r' hrx)
 rw[hdst];exact hN.put (dst:=some r) (v:=.pointer (some ⟨w.heap.size,0,none⟩)) (d:=.ref r 0) (by rw[←hdst];exact cU hd) (by simp[D.ref,aq,j3]) (by simp[D.ref,bu,aq])
theorem ai.j8{t r:Nat}{x:Operand}{l:List D}(h:ev T x=some (.agg l))(hf:af H r=none)
  (hr:ai P ops c os ((r,.ref r 0)::T) ((r,.box t l)::H) sps T' H'):
  ai P ops c (⟨some r,.box t x,ty,pos,aft,none⟩::os) T H (bs [(x,.agg l)] r t l::sps) T' H':=
 .new [(x,.agg l)] t l rfl rfl (by simpa using h) hf (fun r hr=>⟨(x,.agg l),by simp,hr⟩) (fun ε w S a hx=>by
  obtain⟨cs,e,h1,hl⟩:=hx (x,.agg l) (by simp);dsimp only at e;exact⟨cs,by simp only[execOp,Instr.box,newVar,newRow,Value.cells,e];rfl,h1,hl⟩) hr
theorem qO:∀{v:Value},v.oneCell'=true->v.cells=#[v]:=by
 intro v h;cases v<;>first|rfl|cases h
theorem ai.Jr{t r:Nat}{x:Operand}{d:D}(h:ev T x=some d)(hsh:d.sh=.one)(hf:af H r=none)
  (hr:ai P ops c os ((r,.ref r 0)::T) ((r,.box t [d])::H) sps T' H'):
  ai P ops c (⟨some r,.box t x,ty,pos,aft,none⟩::os) T H (bs [(x,d)] r t [d]::sps) T' H':=
 .new [(x,d)] t [d] rfl rfl (by simpa using h) hf (fun r hr=>⟨(x,d),by simp,by simpa [bD]using hr⟩) (fun ε w S a hx=>by
  have hp:=hx (x,d) (by simp);have ho:(a.eval x).oneCell'=true:=by have:=d.ji hp;rw[hsh]at this;exact this
  exact⟨[a.eval x],by simp only[execOp,Instr.box,newVar,newRow,qO ho];rfl,by simpa using ho,hp,trivial⟩) hr
def Bu(P:Program)(t:TypeId):Option (List D):=
 match P.info? t with
 |some i=>match i.zero with
  |some v=>if v.cells.all (·.oneCell')then some (v.cells.toList.map B4)else none
  |none=>none
 |none=>none
theorem jb(ε:Env)(w:World)(S:ck):∀vs:List Value,bN ε w S (vs.map B4) vs
 |[]=>trivial
 |_::vs=>⟨FQ _ _ _ _,jb ε w S vs⟩
theorem wN:∀vs:List Value,bD (vs.map B4)=[]
 |[]=>rfl
 |_::vs=>by simp[bD,DF,wN vs]
def rs(x:Operand)(d:D)(r:Nat)(h:Hp)(out:D):Spec:={ins:=eN x d,cY:=[(r,h)],out:=out,cZ:=[],news:=[]}
theorem ai.Jq{t tb r off:Nat}{x:Operand}{l:List D}{d:D}(h:ev T x=some (.ref r off))(hh:af H r=some (.box tb l))
  (hd:∀(ε:Env) (w:World) (S:ck) (b:Nat) (cs:List Value),w.heap[b]?=some (.cells cs.toArray tb (0,0))->(∀u∈cs,u.oneCell'=true)->bN ε w S l cs->
   ∃v,(loadVar t ⟨b,off,none⟩).run P w=.ok v w/\d.p ε w S v)(hnm:∀r'∈d.nm,r'∈bD l)
  (hr:ai P ops c os (bg T dst d) H sps T' H'):ai P ops c (⟨dst,.load t x,ty,pos,aft,none⟩::os) T H (rs x (.ref r off) r (.box tb l) d::sps) T' H':=by
 refine .cons (sp:=rs x (.ref r off) r (.box tb l) d) ?_ (aw h).1 ⟨hh,trivial⟩ trivial hr;intro hdst T0 H0 hi cY _ a w ⟨ε,φ,hs⟩ Q K hK;rw[if_pos (a_ rfl _)];have hx:=(hs.ev hi (aw h).2).1;obtain⟨eF,cs,hb,h1,hc⟩:=hs.h r _ cY.1;obtain⟨v,hv,hp⟩:=hd ε w _ (j3 (ε r)) cs hb h1 hc;have hrun:(execOp a.eval ⟨dst,.load t x,ty,pos,aft,none⟩).run P w=.ok (.value v) w:=by
  have hx':a.eval x=.pointer (some ⟨j3 (ε r),off,none⟩):=hx;simp only[execOp,Instr.loadAt,hx',Instr.sureAddr,Sem.run_bind,Sem.run_pure,Result.andThen_ok,hv]
 simp only[Oper.wp,hrun,Oper.upon];exact hK _ _ ⟨ε,φ,hs.put (cU hdst) hp (fun r' hr'=>hs.hn r _ cY.1 r' (hnm r' hr'))⟩
theorem ai.JF{t tb r off:Nat}{x:Operand}{l:List D}{d:D}(h:ev T x=some (.ref r off))(hh:af H r=some (.box tb l))(hl:lay P t=some none)(hd:l[off]?=some d)
  (hr:ai P ops c os (bg T dst d) H sps T' H'):ai P ops c (⟨dst,.load t x,ty,pos,aft,none⟩::os) T H (rs x (.ref r off) r (.box tb l) d::sps) T' H':=
 .Jq h hh (fun ε w S b cs hb h1 hc=>by
  obtain⟨v,hv,hp⟩:=fP hc hd;refine⟨v,?_,hp⟩;simp only[loadVar,Sem.run_bind,(iT hl w).1,Result.andThen_ok,Bool.false_eq_true,if_false,run_load,iL hb,hv]) (fun r' hr'=>bG.2 ⟨d,List.mem_of_getElem? hd,hr'⟩) hr
theorem ai.Ju{t tb r off n:Nat}{x:Operand}{l:List D}(h:ev T x=some (.ref r off))(hh:af H r=some (.box tb l))(hl:lay P t=some (some n))(hn:Nat.ble (off+n) l.length=true)
  (hr:ai P ops c os (bg T dst (.agg ((l.drop off).take n))) H sps T' H'):ai P ops c (⟨dst,.load t x,ty,pos,aft,none⟩::os) T H (rs x (.ref r off) r (.box tb l) (.agg ((l.drop off).take n))::sps) T' H':=
 .Jq h hh (fun ε w S b cs hb h1 hc=>by
  have hlen:=aL hc;have hn':=Nat.le_of_ble_eq_true hn;have hq:((cs.drop off).take n).length=n:=by simp;omega
  have hld:=run_loadCells_list (P:=P) w ⟨b,off,none⟩ ((cs.drop off).take n) (fun j v hv=>by
   have hj:j<n:=by have:=(List.getElem?_eq_some_iff.1 hv).1;omega
   rw[gS,iL hb];rw[List.getElem?_take_of_lt hj,List.getElem?_drop]at hv;exact hv)
  rw[hq]at hld;refine⟨.agg ((cs.drop off).take n).toArray,?_,(cs.drop off).take n,rfl,fun u hu=>h1 u (List.mem_of_mem_drop (List.mem_of_mem_take hu)),eP n (fl off hc)⟩;simp only[loadVar,Sem.run_bind,(gI hl w).1,(gI hl w).2,Result.andThen_ok,if_true,hld,Sem.run_pure]) (fun r' hr'=>by
   obtain⟨d,hd,hr''⟩:=bG.1 (show r'∈bD ((l.drop off).take n)from hr');exact bG.2 ⟨d,List.mem_of_mem_drop (List.mem_of_mem_take hd),hr''⟩) hr
theorem ai.fa{s k r off o':Nat}{x:Operand}(h:ev T x=some (.ref r off))(hf:wa P s k=some o')
  (hr:ai P ops c os (bg T dst (.ref r (off+o'))) H sps T' H'):ai P ops c (⟨dst,.fieldAddr s x k,ty,pos,aft,none⟩::os) T H (ps [(x,.ref r off)] (.ref r (off+o'))::sps) T' H':=
 .pure [(x,.ref r off)] rfl (by simpa using h) (fun r' hr'=>⟨(x,.ref r off),by simp,hr'⟩) (fun ε w S a hx=>by
  have hx':a.eval x=.pointer (some ⟨j3 (ε r),off,none⟩):=hx (x,.ref r off) (by simp);exact⟨_,by simp only[execOp,hx',Sem.run_bind,Fq hf,Result.andThen_ok];rfl,rfl⟩) hr
def ws(x:Operand)(d:D)(y:Operand)(e:D)(r:Nat)(h h':Hp):Spec:={ins:=eN x d++eN y e,cY:=[(r,h)],out:=.any,cZ:=[(r,h')],news:=[]}
theorem fE(w:World)(g:Nat)(cs:Array Value)(k:Nat)(h:k≠g):(w.setRow g cs).heap[k]?=w.heap[k]?:=by
 simp only[World.setRow,Array.getElem?_modify];rw[if_neg (by omega)]
theorem ai.Jd{t tb r off n:Nat}{x y:Operand}{l m:List D}{e:D}(h:ev T x=some (.ref r off))(hy:ev T y=some e)(hh:af H r=some (.box tb l))
  (hsz:∀w,(sizeOf t).run P w=.ok n w)(hn:Nat.ble (off+n) l.length=true)
  (hv:∀(ε:Env) (w:World) (S:ck) (v:Value),e.p ε w S v->∃vs:List Value,v.cells.toList=vs/\vs.length=n/\(∀u∈vs,u.oneCell'=true)/\bN ε w S m vs)(hnm:∀r'∈bD m,r'∈e.nm)
  (hr:ai P ops c os (bg T dst .any) ((r,.box tb (l.take off++m++l.drop (off+n)))::H) sps T' H'):
  ai P ops c (⟨dst,.store t x y,ty,pos,aft,none⟩::os) T H (ws x (.ref r off) y e r (.box tb l) (.box tb (l.take off++m++l.drop (off+n)))::sps) T' H':=by
 refine .cons (sp:=ws x (.ref r off) y e r (.box tb l) (.box tb (l.take off++m++l.drop (off+n)))) ?_ (aU.2 ⟨(aw h).1,(aw hy).1⟩) ⟨hh,trivial⟩ trivial hr;intro hdst T0 H0 hi cY _ a w ⟨ε,φ,hs⟩ Q K hK;rw[if_pos (a_ rfl _)];obtain⟨hi1,hi2⟩:=aU.1 hi;have hx:a.eval x=.pointer (some ⟨j3 (ε r),off,none⟩):=(hs.ev hi1 (aw h).2).1;obtain⟨hp,hpn⟩:=hs.ev hi2 (aw hy).2;obtain⟨vs,hvs,hvl,hv1,hvm⟩:=hv ε w _ _ hp;obtain⟨eF,cs,hb,h1,hc⟩:=hs.h r _ cY.1;have hlen:=aL hc;have hn':=Nat.le_of_ble_eq_true hn;have hst:=run_storeCells_at (P:=P) (j3 (ε r)) off tb vs 0 cs.toArray w hb (by simp;omega) hv1;simp only[Nat.add_zero,hvl]at hst;have hrun:(execOp a.eval ⟨dst,.store t x y,ty,pos,aft,none⟩).run P w=.ok .skip (w.setRow (j3 (ε r)) (cs.take off++vs++cs.drop (off+n)).toArray):=by
  have hsize:(a.eval y).cells.size=n:=by rw[←hvl,←hvs,Array.length_toList]
  simp only[execOp,Instr.storeAt,hx,Instr.sureAddr,Sem.run_bind,Sem.run_pure,Result.andThen_ok,storeVar,hsz w,hsize,ne_eq,not_true_eq_false,if_false,hvs,hst]
 simp only[Oper.wp,hrun,Oper.upon];have hS:=hs.tf (w':=w.setRow (j3 (ε r)) (cs.take off++vs++cs.drop (off+n)).toArray) (y:=.box tb (l.take off++m++l.drop (off+n))) cY.1 (by simp[World.setRow]) rfl rfl rfl
  (fun k hk=>fE _ _ _ _ (fun e'=>hk (by rw[eF,e'];rfl)))
  ⟨eF,cs.take off++vs++cs.drop (off+n),setRow_heap w (j3 (ε r)) cs.toArray _ tb _ hb,(by
   intro u hu;simp only[List.mem_append]at hu;rcases hu with(hu|hu)|hu
   ·exact h1 u (List.mem_of_mem_take hu)
   ·exact hv1 u hu
   ·exact h1 u (List.mem_of_mem_drop hu)),by
   refine bF ?_ (bR (bR (eP off hc) hvm) (fl (off+n) hc)) (fun _ _=>rfl);intro k hk _;exact⟨hk,fE _ _ _ _ (fun e'=>hk.2 r (by simp[cY.1]) (by rw[eF,e'];rfl))⟩⟩
  (by
   intro r' hr';obtain⟨d,hd,hr''⟩:=bG.1 (show r'∈bD (l.take off++m++l.drop (off+n))from hr');simp only[List.mem_append]at hd;rcases hd with(hd|hd)|hd
   ·exact hs.hn r _ cY.1 r' (bG.2 ⟨d,List.mem_of_mem_take hd,hr''⟩)
   ·exact hpn r' (hnm r' (bG.2 ⟨d,hd,hr''⟩))
   ·exact hs.hn r _ cY.1 r' (bG.2 ⟨d,List.mem_of_mem_drop hd,hr''⟩))
 exact hK _ _ ⟨ε,φ,hS.put (d:=.any) (cU hdst) trivial (fun _ h=>by cases h)⟩
theorem ai.JA{t tb r off:Nat}{x y:Operand}{l:List D}{e:D}(h:ev T x=some (.ref r off))(hy:ev T y=some e)(hh:af H r=some (.box tb l))(hl:lay P t=some none)(hsh:e.sh=.one)
  (hn:Nat.ble (off+1) l.length=true)
  (hr:ai P ops c os (bg T dst .any) ((r,.box tb (l.take off++[e]++l.drop (off+1)))::H) sps T' H'):
  ai P ops c (⟨dst,.store t x y,ty,pos,aft,none⟩::os) T H (ws x (.ref r off) y e r (.box tb l) (.box tb (l.take off++[e]++l.drop (off+1)))::sps) T' H':=
 .Jd h hy hh (fun w=>(iT hl w).2) hn (fun ε w S v hp=>by
  have ho:v.oneCell'=true:=by have:=e.ji hp;rw[hsh]at this;exact this
  exact⟨[v],by rw[qO ho],rfl,by simpa using ho,hp,trivial⟩) (fun r' hr'=>by simpa [bD]using hr') hr
theorem ai.JD{t tb r off n:Nat}{x y:Operand}{l m:List D}(h:ev T x=some (.ref r off))(hy:ev T y=some (.agg m))(hh:af H r=some (.box tb l))(hl:lay P t=some (some n))(hm:Nat.beq m.length n=true)
  (hn:Nat.ble (off+n) l.length=true)
  (hr:ai P ops c os (bg T dst .any) ((r,.box tb (l.take off++m++l.drop (off+n)))::H) sps T' H'):
  ai P ops c (⟨dst,.store t x y,ty,pos,aft,none⟩::os) T H (ws x (.ref r off) y (.agg m) r (.box tb l) (.box tb (l.take off++m++l.drop (off+n)))::sps) T' H':=
 .Jd h hy hh (fun w=>(gI hl w).2) hn (fun ε w S v ⟨cs,e,h1,hc⟩=>⟨cs,by rw[e];simp[Value.cells],by rw[aL hc];exact Nat.eq_of_beq_eq_true hm,h1,hc⟩) (fun r' hr'=>hr') hr
end
def ε0:Env:=fun _=>undef
def oR(P:Program)(f:FuncId):Bool:=
 match P.funcs[f]?with
 |some fn=> !(fn.name== "runtime.NumGoroutine")&&fn.body.isSome
 |none=>false
structure lO(P:Program)(f:FuncId)(ds:List D)(d:D):Prop where
 ok:oR P f=true
 bD:bD ds=[]
 nm:d.nm=[]
 calls:∀(A:ck) (w:World) (vs:List Value),bN ε0 w A ds vs->Calls P f vs.toArray w (fun e w'=>∃v,e=.returned v/\d.p ε0 w' (fun k=>A k\/w.heap.size<=k) v/\Below w.heap.size w w')
def Le(d d':D):Prop:=(∀ε w S v,d.p ε w S v->d'.p ε w S v)/\∀r∈d'.nm,r∈d.nm
theorem Le.refl(d:D):Le d d:=⟨fun _ _ _ _ h=>h,fun _ h=>h⟩
theorem lO.out{P:Program}{f:FuncId}{ds:List D}{d d':D}(h:lO P f ds d)(hd:Le d d'):lO P f ds d' where
 ok:=h.ok
 bD:=h.bD
 nm:=by
  cases e:d'.nm with
  |nil=>rfl
  |cons r l=>have:=hd.2 r (by simp[e]);rw[h.nm]at this;cases this
 calls:=fun A w vs hv=>(h.calls A w vs hv).mono (fun _ _ ⟨v,e,hp,hb⟩=>⟨v,e,hd.1 _ _ _ _ hp,hb⟩)
def zg(T:List (Nat×D)):List Operand->List D->Prop
 |[],[]=>True
 |x::xs,d::ds=>ev T x=some d/\zg T xs ds
 |_,_=>False
theorem gM{T:List (Nat×D)}:∀{xs:List Operand} {ds:List D},zg T xs ds->∀x∈xs.zip ds,ev T x.1=some x.2
 |[],[],_,x,h=>by cases h
 |y::ys,d::ds,h,x,hx=>by
  rcases List.mem_cons.1 hx with rfl|hx
  ·exact h.1
  ·exact gM h.2 x hx
 |[],_::_,h,_,_=>h.elim
 |_::_,[],h,_,_=>h.elim
theorem jd{T:List (Nat×D)}{ε:Env}{w:World}{S:ck}{a:Act}:∀{xs:List Operand} {ds:List D},zg T xs ds->(∀x∈xs.zip ds,x.2.p ε w S (a.eval x.1))->bN ε w S ds (xs.map a.eval)
 |[],[],_,_=>trivial
 |y::ys,d::ds,h,hx=>⟨hx (y,d) (by simp),jd h.2 (fun x hx'=>hx x (by simp[hx']))⟩
 |[],_::_,h,_=>h.elim
 |_::_,[],h,_=>h.elim
section
variable {P:Program} {os:List Oper} {c:Ctx} {T T':List (Nat×D)} {H H':List (Nat×Hp)} {sps:List Spec}
variable {ops:Array Oper} {dst:Option Nat} {ty:TypeId} {pos:String} {aft:Array Edge}
theorem oc{f:FuncId}{xs:List Operand}{ats:Array TypeId}(hok:oR P f=true)(a:Act)(w:World):
  (execOp a.eval ⟨dst,.call {callee:=.value (.func f),args:=xs.toArray,argTypes:=ats},ty,pos,aft,none⟩).run P w=.ok (.enter f (xs.map a.eval).toArray) w:=by
 unfold oR at hok;cases hf:P.funcs[f]?with
 |none=>simp[hf]at hok
 |some fn=>
  simp only[hf,Bool.and_eq_true,Bool.not_eq_true']at hok;simp only[execOp,resolve,Act.eval,Deferred.ofValue,Sem.run_bind,Sem.run_pure,Result.andThen_ok,invoke,callFunc,run_program,hf,hok.1,Bool.false_eq_true,if_false];have hb:fn.body.isNone=false:=by cases h:fn.body<;>simp_all
  simp[hb]
theorem ai.call{f:FuncId}{xs:List Operand}{ats:Array TypeId}{ds:List D}{d:D}(hc:lO P f ds d)(he:zg T xs ds)
  (hr:ai P ops c os (bg T dst d) H sps T' H'):
  ai P ops c (⟨dst,.call {callee:=.value (.func f),args:=xs.toArray,argTypes:=ats},ty,pos,aft,none⟩::os) T H (ps (xs.zip ds) d::sps) T' H':=by
 refine .cons (sp:=ps (xs.zip ds) d) ?_ (eI (gM he)) trivial trivial hr;intro hdst T0 H0 hi _ _ a w ⟨ε,φ,hs⟩ Q K hK;rw[if_pos (a_ rfl _)];have hx:∀x∈xs.zip ds,fq T0 (eN x.1 x.2):=cJ hi;have hall:=jd he (fun x h=>(hs.ev (hx x h) (aw (gM he x h)).2).1);have hall0:bN ε0 w (al c H0 φ) ds (xs.map a.eval):=bF (fun k hk _=>⟨hk,rfl⟩) hall (by rw[hc.bD];intro r h;cases h);simp only[Oper.wp,oc hc.ok,Oper.upon];refine(hc.calls (al c H0 φ) w _ hall0).mono ?_;rintro e w' ⟨v,rfl,hp,hb⟩;have hg:=hs.grow hb;refine hK _ _ ⟨ε,φ,hg.put (d:=d) (cU hdst) ?_ (by rw[hc.nm];intro r h;cases h)⟩;refine d.mono hp (by rw[hc.nm];intro r h;cases h) (fun k hk hlt=>⟨?_,rfl⟩);rcases hk with hk|hk
 ·exact hk
 ·exact⟨.inr (.inl (Nat.le_trans hs.fV hk)),fun r hr' hf=>by have:=(hs.lo r hr' k hf).2;omega⟩
end
def D3(c:Ctx)(d:D):Ending->World->Prop:=fun e w=>∃v,e=.returned v/\d.p ε0 w (fun k=>c.A k\/c.base<=k\/c.L k) v/\nH c.base c.L c.w0 w
def frame:Nat->List D->List (Nat×D)
 |_,[]=>[]
 |i,d::ds=>(i,d)::frame (i+1) ds
theorem fo{ε:Env}{w:World}{S:ck}:∀{ds:List D} {vs:List Value} {i t:Nat} {d:D},bN ε w S ds vs->aM (frame i ds) t=some d->∃j v,t=i+j/\vs[j]?=some v/\d.p ε w S v/\d∈ds
 |[],_,_,_,_,_,h=>by cases h
 |d0::ds,v::vs,i,t,d,ha,h=>by
  simp only[frame,aM]at h
  cases hb:Nat.beq t i with
  |true=>
   rw[hb]at h;injection h with h;subst h;exact⟨0,v,by simpa using Nat.eq_of_beq_eq_true hb,rfl,ha.1,by simp⟩
  |false=>
   rw[hb]at h;obtain⟨j,v',e,hv,hp,hm⟩:=fo ha.2 h;exact⟨j+1,v',by omega,by simpa using hv,hp,by simp[hm]⟩
 |_::_,[],_,_,_,ha,_=>ha.elim
theorem lO.of{P:Program}{f:FuncId}{fn:Func}{x:Code}{ds:List D}{d:D}(hf:P.funcs[f]?=some fn)(hb:fn.body=some x)(hok:oR P f=true)(hn:Am.bD ds=[])(hd:d.nm=[])
  (hl:Nat.ble ds.length fn.ntmps=true)(h:∀A w0,Ok P ⟨A,w0.heap.size,w0,fn.ntmps,fun _=>False⟩ (frame 0 ds) [] x (bodyPost P fn (D3 ⟨A,w0.heap.size,w0,fn.ntmps,fun _=>False⟩ d))):lO P f ds d where
 ok:=hok
 bD:=hn
 nm:=hd
 calls:=by
  intro A w vs hv;refine(calls_of_wp hf hb (h A w _ _ ⟨ε0,fun _ _=>False,?_⟩)).mono (fun e w' ⟨v,e',hp,hb'⟩=>⟨v,e',d.mono hp (by rw[hd];intro r h;cases h) (fun k hk _=>⟨hk.elim .inl (fun h=>h.elim .inr False.elim),rfl⟩),
   ⟨hb'.os,hb'.tape,hb'.output,hb'.size,fun k hk=>hb'.block k hk (fun h=>h)⟩⟩)
  have hlen:=aL hv;have hl':=Nat.le_of_ble_eq_true hl
  constructor
  ·intro t d' ht;obtain⟨j,v,e,hj,hp,_⟩:=fo hv ht;have hjl:j<vs.length:=(List.getElem?_eq_some_iff.1 hj).1;have:(vs.toArray++Array.replicate (fn.ntmps-vs.toArray.size) undef).getD t undef=v:=by
    simp only[Nat.zero_add]at e;subst e;simp[Array.getD_eq_getD_getElem?,Array.getElem?_append,hjl];have:=(List.getElem?_eq_some_iff.1 hj).2;exact this
   rw[this];exact d'.mono hp (fun _ _=>rfl) (fun k hk _=>⟨⟨.inl hk,fun _ hr=>absurd rfl hr⟩,rfl⟩)
  ·intro t d' ht r hr;obtain⟨_,_,_,_,_,hm⟩:=fo hv ht;have:r∈Am.bD ds:=bG.2 ⟨d',hm,hr⟩;rw[hn]at this;cases this
  ·intro r y hy;cases hy
  ·intro r y hy;cases hy
  ·intro r hr;exact absurd rfl hr
  ·intro r _ hr;exact absurd rfl hr
  ·exact .of (Below.refl _ _)
  ·rfl
  ·simp[hlen];omega
  ·rfl
def HU(tmps:Array Value):ResultVar->Sem Value
 |.tmp t=>pure (tmps.getD t undef)
 |.cell a t=>do loadVar t (←asAddr (tmps.getD a undef))
theorem fp(fn:Func)(tmps:Array Value):results fn tmps=(do
  let vs←fn.results.mapM (HU tmps)
  pure (if h:vs.size=1 then vs[0]else .tuple vs)):=by
 unfold results
 congr 2
def RV(P:Program)(c:Ctx)(T:List (Nat×D))(H:List (Nat×Hp))(x:ResultVar)(d:D):Prop:=
 ∀a w ε φ,cd c (aM T) (af H) a w ε φ->∃v,(HU a.tmps x).run P w=.ok v w/\d.p ε w (al c (af H) φ) v
section
variable {P:Program} {c:Ctx} {T:List (Nat×D)} {H:List (Nat×Hp)}
theorem RV.tmp{t:Nat}{d:D}(h:aM T t=some d):RV P c T H (.tmp t) d:=fun _ _ _ _ hs=>⟨_,rfl,hs.t t d h⟩
theorem RV.agg{b ty tb r n:Nat}{l:List D}(h:aM T b=some (.ref r 0))(hh:af H r=some (.box tb l))(hl:lay P ty=some (some n))(hn:Nat.beq n l.length=true):RV P c T H (.cell b ty) (.agg l):=by
 intro a w ε φ hs;have hx:a.tmps.getD b undef=.pointer (some ⟨j3 (ε r),0,none⟩):=hs.t b _ h;obtain⟨_,cs,hb,h1,hc⟩:=hs.h r _ hh;have hlen:=aL hc;have hn':=Nat.eq_of_beq_eq_true hn;have hld:=run_loadCells_list (P:=P) w ⟨j3 (ε r),0,none⟩ cs (fun j v hv=>by rw[gS,iL hb,Nat.zero_add];exact hv);rw[hlen,←hn']at hld;refine⟨.agg cs.toArray,?_,cs,rfl,h1,hc⟩;simp only[HU,hx,asAddr,Sem.run_bind,Sem.run_pure,Result.andThen_ok,loadVar,(gI hl w).1,(gI hl w).2,if_true,hld]
theorem D3.of{a:Act}{w:World}{ε:Env}{φ:Nat->ck}{d d':D}{v:Value}(hs:cd c (aM T) (af H) a w ε φ)(hp:d'.p ε w (al c (af H) φ) v)(hle:Le d' d)(hn:d.nm=[]):D3 c d (.returned v) w:=
 ⟨v,rfl,d.mono (hle.1 _ _ _ _ hp) (by rw[hn];intro r h;cases h) (fun _ hk _=>⟨hk.1,rfl⟩),hs.pP⟩
theorem Ok.qR{fn:Func}{x:ResultVar}{d d':D}(hx:fn.results=#[x])(h:RV P c T H x d')(hle:Le d' d)(hn:d.nm=[]):Ok P c T H .ret (bodyPost P fn (D3 c d)):=by
 intro a w ⟨ε,φ,hs⟩;obtain⟨v,hv,hp⟩:=h a w ε φ hs;refine wp_ret ⟨hs.df,v,?_,D3.of hs hp hle hn⟩;rw[fp,hx];simp[hv]
theorem Ok.EC{fn:Func}{x y:ResultVar}{d e:D}{l:D}(hx:fn.results=#[x,y])(h:RV P c T H x d)(k:RV P c T H y e)(hle:Le (.gV [d,e]) l)(hn:l.nm=[]):Ok P c T H .ret (bodyPost P fn (D3 c l)):=by
 intro a w ⟨ε,φ,hs⟩;obtain⟨v,hv,hp⟩:=h a w ε φ hs;obtain⟨u,hu,hq⟩:=k a w ε φ hs;refine wp_ret ⟨hs.df,.tuple #[v,u],?_,D3.of (d':=.gV [d,e]) hs ⟨[v,u],rfl,hp,hq,trivial⟩ hle hn⟩;rw[fp,hx];simp[hv,hu]
theorem Ok.rA{fn:Func}{x:ResultVar}{d d':D}{Q:Exit->Act->World->Prop}(hQ:∀a w,bodyPost P fn (D3 c d) .ret a w->Q .ret a w)(hx:fn.results=#[x])(h:RV P c T H x d')(hle:Le d' d)(hn:d.nm=[]):Ok P c T H .ret Q:=by
 intro a w ⟨ε,φ,hs⟩;obtain⟨v,hv,hp⟩:=h a w ε φ hs;refine wp_ret (hQ _ _ ⟨hs.df,v,?_,D3.of hs hp hle hn⟩);rw[fp,hx];simp[hv]
theorem Ok.DV{fn:Func}{x y:ResultVar}{d e:D}{l:D}{Q:Exit->Act->World->Prop}(hQ:∀a w,bodyPost P fn (D3 c l) .ret a w->Q .ret a w)(hx:fn.results=#[x,y])(h:RV P c T H x d)(k:RV P c T H y e)(hle:Le (.gV [d,e]) l)(hn:l.nm=[]):Ok P c T H .ret Q:=by
 intro a w ⟨ε,φ,hs⟩;obtain⟨v,hv,hp⟩:=h a w ε φ hs;obtain⟨u,hu,hq⟩:=k a w ε φ hs;refine wp_ret (hQ _ _ ⟨hs.df,.tuple #[v,u],?_,D3.of (d':=.gV [d,e]) hs ⟨[v,u],rfl,hp,hq,trivial⟩ hle hn⟩);rw[fp,hx];simp[hv,hu]
end
end Go.Am
namespace Go.Am
def nr(T:Nat->Option D)(E:Nat->Bool):Nat->List (Oper×Spec)->Nat->Option D
 |_,[]=>T
 |k,(o,sp)::l=>nr (match E k with|true=>fY T o.dst sp.out|false=>T) E (k+1) l
def mj(H:Nat->Option Hp)(E:Nat->Bool):Nat->List (Oper×Spec)->Nat->Option Hp
 |_,[]=>H
 |k,(_,sp)::l=>mj (match E k with|true=>bf H sp.cZ|false=>H) E (k+1) l
def fX:Nat->Bool:=fun _=>true
theorem pw(T:Nat->Option D)(E:Nat->Bool):∀(k:Nat) (l m:List (Oper×Spec)),nr T E k (l++m)=nr (nr T E k l) E (k+l.length) m
 |k,[],m=>by simp[nr]
 |k,(o,sp)::l,m=>by
  simp only[List.cons_append,nr,List.length_cons];rw[pw _ E (k+1) l m,show k+1+l.length=k+(l.length+1)by omega]
theorem o_(H:Nat->Option Hp)(E:Nat->Bool):∀(k:Nat) (l m:List (Oper×Spec)),mj H E k (l++m)=mj (mj H E k l) E (k+l.length) m
 |k,[],m=>by simp[mj]
 |k,(o,sp)::l,m=>by
  simp only[List.cons_append,mj,List.length_cons];rw[o_ _ E (k+1) l m,show k+1+l.length=k+(l.length+1)by omega]
theorem pJ{t:Nat}{E:Nat->Bool}:∀{l:List (Oper×Spec)} {k:Nat} {T:Nat->Option D},(∀j x,l[j]?=some x->E (k+j)=true->x.1.dst≠some t)->nr T E k l t=T t
 |[],_,_,_=>rfl
 |(o,sp)::l,k,T,h=>by
  simp only[nr];rw[pJ (fun j x hj he=>h (j+1) x (by simpa using hj) (by rwa [show k+(j+1)=k+1+j by omega]))]
  cases hE:E k with
  |false=>rfl
  |true=>
   have:=h 0 (o,sp) rfl (by simpa using hE)
   cases hd:o.dst with
   |none=>simp[fY]
   |some t'=>simp only[fY];rw[if_neg];intro e;subst e;exact this hd
theorem p8{t:Nat}{E:Nat->Bool}:∀{l:List (Oper×Spec)} {k:Nat} {H:Nat->Option Hp},(∀j x,l[j]?=some x->E (k+j)=true->af x.2.cZ t=none)->mj H E k l t=H t
 |[],_,_,_=>rfl
 |(o,sp)::l,k,H,h=>by
  simp only[mj];rw[p8 (fun j x hj he=>h (j+1) x (by simpa using hj) (by rwa [show k+(j+1)=k+1+j by omega]))]
  cases hE:E k with
  |false=>rfl
  |true=>
   have:=h 0 (o,sp) rfl (by simpa using hE);simp only[bf,this]
theorem oi{t:Nat}{E E':Nat->Bool}:∀{l:List (Oper×Spec)} {k:Nat} {T T':Nat->Option D},T t=T' t->(∀j x,l[j]?=some x->x.1.dst=some t->E (k+j)=E' (k+j))->nr T E k l t=nr T' E' k l t
 |[],_,_,_,h,_=>h
 |(o,sp)::l,k,T,T',h,hE=>by
  simp only[nr];refine oi ?_ (fun j x hj hd=>by have:=hE (j+1) x (by simpa using hj) hd;rwa [show k+(j+1)=k+1+j by omega]at this);have h0:=hE 0 (o,sp) rfl;by_cases hd:o.dst=some t
  ·have:=h0 hd;simp only[Nat.add_zero]at this;rw[←this]
   cases E k with
   |false=>exact h
   |true=>simp[fY,hd]
  ·have hu:∀T:Nat->Option D,fY T o.dst sp.out t=T t:=by
    intro T
    cases hd':o.dst with
    |none=>rfl
    |some t'=>simp only[fY];rw[if_neg];intro e;subst e;exact hd hd'
   cases E k<;>cases E' k<;>simp only[hu]<;>exact h
theorem ox{t:Nat}{E E':Nat->Bool}:∀{l:List (Oper×Spec)} {k:Nat} {H H':Nat->Option Hp},H t=H' t->(∀j x,l[j]?=some x->af x.2.cZ t≠none->E (k+j)=E' (k+j))->mj H E k l t=mj H' E' k l t
 |[],_,_,_,h,_=>h
 |(o,sp)::l,k,H,H',h,hE=>by
  simp only[mj];refine ox ?_ (fun j x hj hd=>by have:=hE (j+1) x (by simpa using hj) hd;rwa [show k+(j+1)=k+1+j by omega]at this);have h0:=hE 0 (o,sp) rfl;by_cases hd:af sp.cZ t=none
  ·have hu:∀H:Nat->Option Hp,bf H sp.cZ t=H t:=by intro H;simp only[bf,hd]
   cases E k<;>cases E' k<;>simp only[hu]<;>exact h
  ·have:=h0 hd;simp only[Nat.add_zero]at this;rw[←this]
   cases E k with
   |false=>exact h
   |true=>
    cases hq:af sp.cZ t with
    |none=>exact absurd hq hd
    |some y=>simp[bf,hq]
structure xF where
 w:List Nat
 u:List Nat
 hw:List Nat
 hr:List Nat
def names{α:Type}:List (Nat×α)->List Nat
 |[]=>[]
 |(t,_)::l=>t::names l
def jx(x:Oper×Spec):xF:={w:=(match x.1.dst with|none=>[]|some t=>[t]),u:=names x.2.ins,hw:=names x.2.cZ,hr:=names x.2.cY++x.2.news}
def has(t:Nat):List Nat->Bool
 |[]=>false
 |t'::l=>match Nat.beq t t' with|true=>true|false=>has t l
def meets:List Nat->List Nat->Bool
 |[],_=>false
 |t::l,m=>match has t m with|true=>true|false=>meets l m
def nk(f g:xF):Bool:=meets f.w (g.u++g.w)||meets f.u g.w||meets f.hw (g.hr++g.hw)||meets f.hr g.hw
def pa(acc:List Nat):List Edge->Nat
 |[]=>0
 |e::es=>match Region.binds .any e with
  |true=>pa acc es|||2^e.on|||acc.getD e.on 0
  |false=>pa acc es
def qi(k:Nat):List Edge->Bool
 |[]=>true
 |e::es=>match Region.binds .any e with
  |true=>Nat.blt e.on k&&qi k es
  |false=>qi k es
def wH(m:Nat)(f:xF):Nat->List xF->Bool
 |_,[]=>true
 |i,g::gs=>(m.testBit i|| !nk g f)&&wH m f (i+1) gs
def nz(acc:List Nat)(prev:List xF)(k:Nat):List (Oper×Spec)->Bool
 |[]=>true
 |x::l=>
  let m:=pa acc x.1.after.toList
  let f:=jx x
  qi k x.1.after.toList&&wH m f 0 prev&&nz (acc++[m]) (prev++[f]) (k+1) l
theorem w6{t:Nat}:∀{l:List Nat},has t l=true↔t∈l
 |[]=>by simp[has]
 |t'::l=>by
  simp only[has]
  cases hb:Nat.beq t t' with
  |true=>simp[Nat.eq_of_beq_eq_true hb]
  |false=>
   have:t≠t':=fun e=>by subst e;simp at hb
   simp[w6 (l:=l),this]
theorem jo{m:List Nat}:∀{l:List Nat},meets l m=true↔∃t∈l,t∈m
 |[]=>by simp[meets]
 |t::l=>by
  simp only[meets]
  cases hb:has t m with
  |true=>simp[w6.1 hb]
  |false=>
   have:t∉m:=fun e=>by rw[w6.2 e]at hb;cases hb
   simp[jo (l:=l),this]
theorem bU{t:Nat}:∀{l:List (Nat×Hp)},af l t≠none↔t∈names l
 |[]=>by simp[af,names]
 |(t',x)::l=>by
  simp only[af,names]
  cases hb:Nat.beq t t' with
  |true=>simp[Nat.eq_of_beq_eq_true hb]
  |false=>
   have:t≠t':=fun e=>by subst e;simp at hb
   simp[bU (l:=l),this]
def DC(l:List (Oper×Spec))(E:Nat->Bool):Prop:=∀j x e,l[j]?=some x->e∈x.1.after.toList->Region.binds .any e=true->E j=true->E e.on=true
theorem oe{acc:List Nat}{E:Nat->Bool}{i:Nat}(hacc:∀k,E k=true->∀i,(acc.getD k 0).testBit i=true->E i=true):∀{es:List Edge},(∀e∈es,Region.binds .any e=true->E e.on=true)->(pa acc es).testBit i=true->E i=true
 |[],_,h=>by simp[pa]at h
 |e::es,he,h=>by
  simp only[pa]at h
  cases hb:Region.binds .any e with
  |false=>rw[hb]at h;exact oe hacc (fun e' h'=>he e' (by simp[h'])) h
  |true=>
   rw[hb]at h;simp only[Nat.testBit_or,Bool.or_eq_true]at h;rcases h with(h|h)|h
   ·exact oe hacc (fun e' h'=>he e' (by simp[h'])) h
   ·have:e.on=i:=by
     rw[Nat.testBit_two_pow]at h;simpa using h
    rw[←this];exact he e (by simp) hb
   ·exact hacc e.on (he e (by simp) hb) i h
theorem rI{m:Nat}{f:xF}:∀{gs:List xF} {i:Nat},wH m f i gs=true->∀j g,gs[j]?=some g->m.testBit (i+j)=true\/nk g f=false
 |[],_,_,j,g,hg=>by simp at hg
 |g0::gs,i,h,j,g,hg=>by
  simp only[wH,Bool.and_eq_true,Bool.or_eq_true,Bool.not_eq_true']at h
  cases j with
  |zero=>simp at hg;subst hg;exact h.1
  |succ j=>
   have:=rI h.2 j g (by simpa using hg)
   rwa [show i+1+j=i+(j+1)by omega]at this
theorem mO{k:Nat}:∀{es:List Edge},qi k es=true->∀e∈es,Region.binds .any e=true->e.on<k
 |[],_,e,h,_=>by cases h
 |e0::es,h,e,he,hb=>by
  simp only[qi]at h
  cases hb0:Region.binds .any e0 with
  |true=>
   rw[hb0]at h;simp only[Bool.and_eq_true,Nat.blt_eq]at h;rcases List.mem_cons.1 he with rfl|he
   ·exact h.1
   ·exact mO h.2 e he hb
  |false=>
   rw[hb0]at h;rcases List.mem_cons.1 he with rfl|he
   ·rw[hb]at hb0;cases hb0
   ·exact mO h e he hb
theorem t_{full:List (Oper×Spec)}{E:Nat->Bool}(hE:DC full E):∀{l:List (Oper×Spec)} {acc:List Nat} {prev:List xF} {k:Nat},nz acc prev k l=true->(∀j,l[j]?=full[k+j]?)->acc.length=k->prev.length=k->
  (∀j,E j=true->∀i,(acc.getD j 0).testBit i=true->E i=true)->(∀j x,j<k->full[j]?=some x->prev[j]?=some (jx x))->
  (∀j x,l[j]?=some x->∀e∈x.1.after.toList,Region.binds .any e=true->e.on<k+j)/\
  (∀i j x y,full[i]?=some x->l[j]?=some y->i<k+j->nk (jx x) (jx y)=true->E (k+j)=true->E i=true)
 |[],_,_,_,_,_,_,_,_,_=>⟨fun j x h=>by simp at h,fun i j x y _ h=>by simp at h⟩
 |z::l,acc,prev,k,h,hl,ha,hp,hacc,hprev=>by
  simp only[nz,Bool.and_eq_true]at h;obtain⟨⟨h1,h2⟩,h3⟩:=h;have hz:full[k]?=some z:=by have:=hl 0;simpa using this.symm
  have hacc':∀j,E j=true->∀i,((acc++[pa acc z.1.after.toList]).getD j 0).testBit i=true->E i=true:=by
   intro j hj i hi;rcases Nat.lt_trichotomy j acc.length with hlt|heq|hgt
   ·rw[List.getD_eq_getElem?_getD,List.getElem?_append_left hlt,←List.getD_eq_getElem?_getD]at hi;exact hacc j hj i hi
   ·subst heq;rw[List.getD_eq_getElem?_getD,List.getElem?_append_right (Nat.le_refl _)]at hi;simp only[Nat.sub_self,List.getElem?_cons_zero,Option.getD_some]at hi;exact oe hacc (fun e he hb=>hE _ z e (by rw[ha];exact hz) he hb hj) hi
   ·rw[List.getD_eq_getElem?_getD,List.getElem?_eq_none (by simp;omega)]at hi;simp at hi
  have ih:=t_ hE (l:=l) h3 (fun j=>by have:=hl (j+1);simpa [Nat.add_assoc,Nat.add_comm 1 j]using this) (by simp[ha]) (by simp[hp]) hacc' (by
   intro j x hj hx;by_cases hjk:j<k
   ·rw[List.getElem?_append_left (by omega)];exact hprev j x hjk hx
   ·have:j=k:=by omega
    subst this;rw[hz]at hx;injection hx with hx;subst hx;rw[List.getElem?_append_right (by omega)];simp[hp])
  refine⟨?_,?_⟩
  ·intro j x hj e he hb
   cases j with
   |zero=>simp at hj;subst hj;exact mO h1 e he hb
   |succ j=>have:=ih.1 j x (by simpa using hj) e he hb;omega
  ·intro i j x y hx hy hij hc hEj
   cases j with
   |zero=>
    simp at hy;subst hy;simp only[Nat.add_zero]at hij hEj;have hpi:=hprev i x hij hx;rcases rI h2 i (jx x) hpi with hb|hb
    ·simp only[Nat.zero_add]at hb;exact oe hacc (fun e he hb'=>hE _ z e hz he hb' hEj) hb
    ·rw[hb]at hc;cases hc
   |succ j=>
    exact ih.2 i j x y hx (by simpa using hy) (by omega) hc (by rwa [show k+1+j=k+(j+1)by omega])
theorem wV(T:Nat->Option D):∀(k k':Nat) (l:List (Oper×Spec)),nr T fX k l=nr T fX k' l
 |_,_,[]=>rfl
 |k,k',(o,sp)::l=>by simp only[nr,fX];exact wV _ _ _ l
theorem wT(H:Nat->Option Hp):∀(k k':Nat) (l:List (Oper×Spec)),mj H fX k l=mj H fX k' l
 |_,_,[]=>rfl
 |k,k',(o,sp)::l=>by simp only[mj,fX];exact wT _ _ _ l
theorem ai.data{P:Program}{ops:Array Oper}{c:Ctx}{os:List Oper}{T:List (Nat×D)}{H:List (Nat×Hp)}{sps:List Spec}{T':List (Nat×D)}{H':List (Nat×Hp)}(h:ai P ops c os T H sps T' H'):
  os.length=sps.length/\nr (aM T) fX 0 (os.zip sps)=aM T'/\mj (af H) fX 0 (os.zip sps)=af H'/\
  ∀i x,(os.zip sps)[i]?=some x->qp P ops c x.1 x.2/\fq (nr (aM T) fX 0 ((os.zip sps).take i)) x.2.ins/\p9 (mj (af H) fX 0 ((os.zip sps).take i)) x.2.cY/\nj (mj (af H) fX 0 ((os.zip sps).take i)) x.2.news:=by
 induction h with
 |nil=>exact⟨rfl,rfl,rfl,fun i x h=>by simp at h⟩
 |@cons o os T H sp sps T' H' hs hi hh hn _ ih=>
  obtain⟨h1,h2,h3,h4⟩:=ih;have eT:nr (aM T) fX 0 ((o,sp)::os.zip sps)=nr (aM (bg T o.dst sp.out)) fX 0 (os.zip sps):=by
   simp only[nr,fX,iH];exact wV _ _ _ _
  have eH:mj (af H) fX 0 ((o,sp)::os.zip sps)=mj (af (sp.cZ++H)) fX 0 (os.zip sps):=by
   simp only[mj,fX,bq];exact wT _ _ _ _
  refine⟨by simp[h1],?_,?_,?_⟩
  ·rw[List.zip_cons_cons,eT];exact h2
  ·rw[List.zip_cons_cons,eH];exact h3
  ·intro i x hx
   cases i with
   |zero=>simp at hx;subst hx;exact⟨hs,hi,hh,hn⟩
   |succ i=>
    have:=h4 i x (by simpa using hx);rw[List.zip_cons_cons,List.take_succ_cons];have e1:nr (aM T) fX 0 ((o,sp)::(os.zip sps).take i)=nr (aM (bg T o.dst sp.out)) fX 0 ((os.zip sps).take i):=by
     simp only[nr,fX,iH];exact wV _ _ _ _
    have e2:mj (af H) fX 0 ((o,sp)::(os.zip sps).take i)=mj (af (sp.cZ++H)) fX 0 ((os.zip sps).take i):=by
     simp only[mj,fX,bq];exact wT _ _ _ _
    rw[e1,e2];exact this
theorem rQ{T T':Nat->Option D}:∀{l:List (Nat×D)},fq T l->(∀t∈names l,T' t=T t)->fq T' l
 |[],_,_=>trivial
 |(t,d)::l,h,e=>⟨by rw[e t (by simp[names])];exact h.1,rQ h.2 (fun t' ht=>e t' (by simp[names,ht]))⟩
theorem rD{T T':Nat->Option Hp}:∀{l:List (Nat×Hp)},p9 T l->(∀t∈names l,T' t=T t)->p9 T' l
 |[],_,_=>trivial
 |(t,d)::l,h,e=>⟨by rw[e t (by simp[names])];exact h.1,rD h.2 (fun t' ht=>e t' (by simp[names,ht]))⟩
theorem rC{T T':Nat->Option Hp}:∀{l:List Nat},nj T l->(∀t∈l,T' t=T t)->nj T' l
 |[],_,_=>trivial
 |t::l,h,e=>⟨by rw[e t (by simp)];exact h.1,rC h.2 (fun t' ht=>e t' (by simp[ht]))⟩
section
variable {P:Program} {c:Ctx} {l:List (Oper×Spec)} {T:Nat->Option D} {H:Nat->Option Hp}
theorem uk(i:Nat){x:Oper×Spec}(hx:l[i]?=some x):l=l.take i++x::l.drop (i+1):=by
 have hi:=(List.getElem?_eq_some_iff.1 hx);obtain⟨hlt,he⟩:=hi;rw[←he,List.getElem_cons_drop,List.take_append_drop]
theorem GY{E:Nat->Bool}{i t:Nat}(hlt:∀j x,j<i->l[j]?=some x->x.1.dst=some t->E j=true)(hge:∀j x,i<=j->l[j]?=some x->E j=true->x.1.dst≠some t):
  nr T E 0 l t=nr T fX 0 (l.take i) t:=by
 rw[←List.take_append_drop i l,pw];rw[pJ (fun j x hj he=>by
  rw[List.getElem?_drop]at hj;by_cases hil:i<=l.length
  ·have hlen:(l.take i).length=i:=by simp;omega
   rw[hlen]at he;exact hge (i+j) x (by omega) hj (by simpa using he)
  ·rw[List.getElem?_eq_none (by omega)]at hj;cases hj)]
 rw[List.take_append_drop];refine oi rfl (fun j x hj hd=>?_);have hji:j<i:=by
  have:=(List.getElem?_eq_some_iff.1 hj).1;simp at this;omega
 rw[List.getElem?_take_of_lt hji]at hj;simp only[Nat.zero_add,fX];exact hlt j x hji hj hd
theorem GZ{E:Nat->Bool}{i t:Nat}(hlt:∀j x,j<i->l[j]?=some x->t∈names x.2.cZ->E j=true)(hge:∀j x,i<=j->l[j]?=some x->E j=true->t∉names x.2.cZ):
  mj H E 0 l t=mj H fX 0 (l.take i) t:=by
 rw[←List.take_append_drop i l,o_];rw[p8 (fun j x hj he=>by
  rw[List.getElem?_drop]at hj;by_cases hil:i<=l.length
  ·have hlen:(l.take i).length=i:=by simp;omega
   rw[hlen]at he;have:=hge (i+j) x (by omega) hj (by simpa using he)
   cases hq:af x.2.cZ t with
   |none=>rfl
   |some y=>exact absurd (bU.1 (by rw[hq];simp)) this
  ·rw[List.getElem?_eq_none (by omega)]at hj;cases hj)]
 rw[List.take_append_drop];refine ox rfl (fun j x hj hd=>?_);have hji:j<i:=by
  have:=(List.getElem?_eq_some_iff.1 hj).1;simp at this;omega
 rw[List.getElem?_take_of_lt hji]at hj;simp only[Nat.zero_add,fX];exact hlt j x hji hj (bU.1 hd)
theorem Gl{E E':Nat->Bool}{i:Nat}{x:Oper×Spec}(hx:l[i]?=some x)(hi:E' i=true)(he:∀j,j≠i->E' j=E j)(hge:∀j y t,i<j->l[j]?=some y->E j=true->x.1.dst=some t->y.1.dst≠some t)(t:Nat):
  fY (nr T E 0 l) x.1.dst x.2.out t=nr T E' 0 l t:=by
 by_cases hd:x.1.dst=some t
 ·have hlen:(l.take i).length=i:=by have:=(List.getElem?_eq_some_iff.1 hx).1;simp;omega
  have e1:nr T E' 0 l=nr (nr T E' 0 (l.take i)) E' i (x::l.drop (i+1)):=by
   conv=>lhs;rw[uk i hx]
   rw[pw,hlen,Nat.zero_add]
  rw[e1,nr,pJ (fun j y hj hE=>by
   rw[List.getElem?_drop]at hj;have hne:i+1+j≠i:=by omega
   rw[he _ hne]at hE;exact hge (i+1+j) y t (by omega) hj hE hd)]
  simp[fY,hd,hi]
 ·have hu:∀T:Nat->Option D,fY T x.1.dst x.2.out t=T t:=by
   intro T
   cases hd':x.1.dst with
   |none=>rfl
   |some t'=>simp only[fY];rw[if_neg];intro e;subst e;exact hd hd'
  rw[hu];refine oi rfl (fun j y hj hdy=>?_);simp only[Nat.zero_add];by_cases hji:j=i
  ·subst hji;rw[hx]at hj;injection hj with hj;subst hj;exact absurd hdy hd
  ·exact(he j hji).symm
theorem Gq{E E':Nat->Bool}{i:Nat}{x:Oper×Spec}(hx:l[i]?=some x)(hi:E' i=true)(he:∀j,j≠i->E' j=E j)(hge:∀j y t,i<j->l[j]?=some y->E j=true->t∈names x.2.cZ->t∉names y.2.cZ)(t:Nat):
  bf (mj H E 0 l) x.2.cZ t=mj H E' 0 l t:=by
 by_cases hd:t∈names x.2.cZ
 ·have hlen:(l.take i).length=i:=by have:=(List.getElem?_eq_some_iff.1 hx).1;simp;omega
  have e1:mj H E' 0 l=mj (mj H E' 0 (l.take i)) E' i (x::l.drop (i+1)):=by
   conv=>lhs;rw[uk i hx]
   rw[o_,hlen,Nat.zero_add]
  rw[e1,mj,p8 (fun j y hj hE=>by
   rw[List.getElem?_drop]at hj;have hne:i+1+j≠i:=by omega
   rw[he _ hne]at hE;have:=hge (i+1+j) y t (by omega) hj hE hd
   cases hq:af y.2.cZ t with
   |none=>rfl
   |some z=>exact absurd (bU.1 (by rw[hq];simp)) this)]
  cases hq:af x.2.cZ t with
  |none=>exact absurd hq (bU.2 hd)
  |some z=>simp[bf,hq,hi]
 ·have hn:af x.2.cZ t=none:=by
   cases hq:af x.2.cZ t with
   |none=>rfl
   |some z=>exact absurd (bU.1 (by rw[hq];simp)) hd
  simp only[bf,hn];refine ox rfl (fun j y hj hdy=>?_);simp only[Nat.zero_add];by_cases hji:j=i
  ·subst hji;rw[hx]at hj;injection hj with hj;subst hj;exact absurd hn hdy
  ·exact(he j hji).symm
end
def setOf(listed:Array Bool):Nat->Bool:=fun j=>listed.getD j false
theorem A8{P:Program}{c:Ctx}{l:List (Oper×Spec)}{T:Nat->Option D}{H:Nat->Option Hp}{Q:Exit->Act->World->Prop}{ops:Array Oper}(hops:∀j:Nat,ops[j]?=(l[j]?).map (fun x:Oper×Spec=>x.1))(hsz:ops.size=l.length)
  (hstep:∀(i:Nat) (x:Oper×Spec),l[i]?=some x->qp P ops c x.1 x.2/\fq (nr T fX 0 (l.take i)) x.2.ins/\p9 (mj H fX 0 (l.take i)) x.2.cY/\nj (mj H fX 0 (l.take i)) x.2.news)
  (hd:∀(i:Nat) (x:Oper×Spec),l[i]?=some x->uh c.n x.1=true)(hord:nz [] [] 0 l=true)
  (hQ:∀a w,Sat c (nr T fX 0 l) (mj H fX 0 l) a w->Q .normal a w):
  ∀(fuel:Nat) (listed:Array Bool) (a:Act) (w:World),listed.size=l.length->DC l (setOf listed)->Sat c (nr T (setOf listed) 0 l) (mj H (setOf listed) 0 l) a w->
   (∀U:List Nat,U.Nodup->(∀j∈U,j<l.length/\setOf listed j=false)->U.length<=fuel)->wpAny P .any ops Q fuel listed a w:=by
 have spec:=fun(E:Nat->Bool) (hE:DC l E)=>t_ hE hord (fun j=>by simp) rfl rfl (fun j _ i h=>by simp at h) (fun j x h=>absurd h (Nat.not_lt_zero j));have getF:∀(listed:Array Bool) (j:Nat),listed.size=l.length->j<l.length->listed.getD j true=listed.getD j false:=by
  intro listed j hls hj;simp[Array.getD_eq_getD_getElem?,hls,hj]
 have full:∀listed:Array Bool,listed.size=l.length->DC l (setOf listed)->Region.ready .any ops listed=[]->∀a w,Sat c (nr T (setOf listed) 0 l) (mj H (setOf listed) 0 l) a w->Q .normal a w:=by
  intro listed hls hdc hr a w hs;have hall:∀n j,j<n->j<l.length->setOf listed j=true:=by
   intro n
   induction n with
   |zero=>intro j hj;omega
   |succ n ih=>
    intro j hj hlt;by_cases hjn:j<n
    ·exact ih j hjn hlt
    ·cases he:setOf listed j with
     |true=>rfl
     |false=>
      have hx:l[j]?=some l[j]:=List.getElem?_eq_getElem hlt;have hmem:j∈Region.ready .any ops listed:=by
       rw[mem_ready];refine⟨by rw[getF listed j hls hlt];exact he,l[j].1,by rw[hops,hx];rfl,fun e hem hb=>?_⟩;have:=(spec _ hdc).1 j l[j] hx e (by simpa using hem) hb;exact ih e.on (by omega) (by omega)
      rw[hr]at hmem;cases hmem
  refine hQ a w (hs.ext (fun t=>?_) (fun t=>?_))
  ·refine oi rfl (fun j x hj _=>?_);simp only[Nat.zero_add,fX];exact(hall (j+1) j (by omega) (List.getElem?_eq_some_iff.1 hj).1).symm
  ·refine ox rfl (fun j x hj _=>?_);simp only[Nat.zero_add,fX];exact(hall (j+1) j (by omega) (List.getElem?_eq_some_iff.1 hj).1).symm
 intro fuel
 induction fuel with
 |zero=>
  intro listed a w hls hdc hs hU;have hr:Region.ready .any ops listed=[]:=by
   cases hr:Region.ready .any ops listed with
   |nil=>rfl
   |cons j r=>
    have hj:j∈Region.ready .any ops listed:=by rw[hr];simp
    rw[mem_ready]at hj;obtain⟨h0,o,ho,_⟩:=hj;have hjl:j<l.length:=by rw[←hsz];exact(Array.getElem?_eq_some_iff.1 ho).1
    have:=hU [j] (by simp) (fun k hk=>by simp at hk;subst hk;exact⟨hjl,by rw[getF listed k hls hjl]at h0;exact h0⟩);simp at this
  exact⟨hr,full listed hls hdc hr a w hs⟩
 |succ fuel ih=>
  intro listed a w hls hdc hs hU;refine⟨fun hr=>full listed hls hdc hr a w hs,fun i hi=>?_⟩;rw[mem_ready]at hi;obtain⟨h0,o,ho,hedge⟩:=hi;have hil:i<l.length:=by rw[←hsz];exact(Array.getElem?_eq_some_iff.1 ho).1
  have hx:l[i]?=some l[i]:=List.getElem?_eq_getElem hil;generalize l[i]=x at hx;have hox:o=x.1:=by rw[hops,hx]at ho;simpa using ho.symm
  subst hox;have hnot:setOf listed i=false:=by rw[getF listed i hls hil]at h0;exact h0
  have hset:∀j,j≠i->setOf (listed.setIfInBounds i true) j=setOf listed j:=fun j hj=>getD_set_ne false (Ne.symm hj);have hseti:setOf (listed.setIfInBounds i true) i=true:=by simp[setOf,hls,hil]
  have hmono:∀j,setOf listed j=true->setOf (listed.setIfInBounds i true) j=true:=fun j hj=>getD_set_true hj;have hdc':DC l (setOf (listed.setIfInBounds i true)):=by
   intro j y e hy he hb hj;by_cases hji:j=i
   ·subst hji;rw[hx]at hy;injection hy with hy;subst hy;exact hmono _ (hedge e (by simpa using he) hb)
   ·rw[hset j hji]at hj;exact hmono _ (hdc j y e hy he hb hj)
  have before:∀j y,j<i->l[j]?=some y->nk (jx y) (jx x)=true->setOf listed j=true:=by
   intro j y hji hy hc;have:=(spec _ hdc').2 j i y x hy hx (by omega) hc (by rw[Nat.zero_add];exact hseti)
   rwa [hset j (by omega)]at this
  have after:∀j y,i<j->l[j]?=some y->setOf listed j=true->nk (jx x) (jx y)=false:=by
   intro j y hij hy hj;cases hc:nk (jx x) (jx y)with
   |false=>rfl
   |true=>
    have:=(spec _ hdc).2 i j x y hx hy (by omega) hc (by rw[Nat.zero_add];exact hj);rw[hnot]at this;cases this
  obtain⟨hst,hi1,hi2,hi3⟩:=hstep i x hx;have inw:∀(y:Oper×Spec) (t:Nat),y.1.dst=some t->t∈(jx y).w:=by intro y t h;simp[jx,h]
  have seenT:∀t∈names x.2.ins,nr T (setOf listed) 0 l t=nr T fX 0 (l.take i) t:=by
   intro t ht;refine GY (fun j y hji hy hdy=>before j y hji hy ?_) (fun j y hij hy hj hdy=>?_)
   ·simp only[nk,Bool.or_eq_true];exact .inl (.inl (.inl (jo.2 ⟨t,inw y t hdy,by simp[jx,ht]⟩)))
   ·by_cases hji:j=i
    ·subst hji;rw[hnot]at hj;cases hj
    ·have:=after j y (by omega) hy hj;simp only[nk,Bool.or_eq_false_iff]at this;have h2:=this.1.1.2;have:meets (jx x).u (jx y).w=true:=jo.2 ⟨t,by simp[jx,ht],inw y t hdy⟩;rw[h2]at this;cases this
  have seenH:∀r,(r∈names x.2.cY\/r∈x.2.news)->mj H (setOf listed) 0 l r=mj H fX 0 (l.take i) r:=by
   intro r hr;have hrf:r∈(jx x).hr:=by simp only[jx,List.mem_append];exact hr
   refine GZ (fun j y hji hy hdy=>before j y hji hy ?_) (fun j y hij hy hj hdy=>?_)
   ·simp only[nk,Bool.or_eq_true];exact .inl (.inr (jo.2 ⟨r,hdy,by simp[hrf]⟩))
   ·by_cases hji:j=i
    ·subst hji;rw[hnot]at hj;cases hj
    ·have:=after j y (by omega) hy hj;simp only[nk,Bool.or_eq_false_iff]at this;have h2:=this.2;have:meets (jx x).hr (jx y).hw=true:=jo.2 ⟨r,hrf,hdy⟩;rw[h2]at this;cases this
  have run:=hst (hd i x hx) (nr T (setOf listed) 0 l) (mj H (setOf listed) 0 l) (rQ hi1 seenT) (rD hi2 (fun r hr=>seenH r (.inl hr))) (rC hi3 (fun r hr=>seenH r (.inr hr))) a w hs Q
   (wpAny P .any ops Q fuel (listed.setIfInBounds i true)) (fun a' w' hs'=>by
    refine ih _ a' w' (by simpa using hls) hdc' (hs'.ext (fun t=>?_) (fun t=>?_)) (fun U hnd hUm=>?_)
    ·refine(Gl hx hseti hset (fun j y t hij hy hj hdx hdy=>?_) t).symm;have:=after j y hij hy hj;simp only[nk,Bool.or_eq_false_iff]at this;have h2:=this.1.1.1;have:meets (jx x).w ((jx y).u++(jx y).w)=true:=jo.2 ⟨t,inw x t hdx,by simp[inw y t hdy]⟩;rw[h2]at this;cases this
    ·refine(Gq hx hseti hset (fun j y t hij hy hj hdx hdy=>?_) t).symm;have:=after j y hij hy hj;simp only[nk,Bool.or_eq_false_iff]at this;have h2:=this.1.2;have:meets (jx x).hw ((jx y).hr++(jx y).hw)=true:=jo.2 ⟨t,hdx,by simp only[List.mem_append];exact .inr hdy⟩;rw[h2]at this;cases this
    ·have hiU:i∉U:=fun hm=>by have:=(hUm i hm).2;rw[hseti]at this;cases this
     have:=hU (i::U) (List.nodup_cons.2 ⟨hiU,hnd⟩) (fun j hj=>by
      rcases List.mem_cons.1 hj with rfl|hj
      ·exact⟨hil,hnot⟩
      ·have:=hUm j hj;exact⟨this.1,by rw[hset j (fun e=>hiU (e▸hj))]at this;exact this.2⟩)
     simpa using this)
  unfold wpOp;simp only[ho]
  split
  ·rename_i hw;rw[if_pos hw]at run;exact .inl run
  ·rename_i hw;rw[if_neg hw]at run;exact run
theorem yg:∀(n:Nat) (U:List Nat),U.Nodup->(∀j∈U,j<n)->U.length<=n
 |0,U,_,h=>by
  cases U with
  |nil=>simp
  |cons j U=>exact absurd (h j (by simp)) (Nat.not_lt_zero j)
 |n+1,U,hd,h=>by
  have h1:=yg n (U.erase n) (hd.erase n) (fun j hj=>by
   have hjU:=List.mem_of_mem_erase hj;have hne:j≠n:=fun e=>by subst e;exact absurd hj (List.Nodup.not_mem_erase hd)
   have:=h j hjU;omega)
  have:=List.length_erase_le (a:=n) (l:=U);by_cases hm:n∈U
  ·rw[List.length_erase_of_mem hm]at h1;omega
  ·rw[List.erase_of_not_mem hm]at h1;omega
theorem ai.tw{P:Program}{c:Ctx}{T T':List (Nat×D)}{H H':List (Nat×Hp)}{Q:Exit->Act->World->Prop}{sps:List Spec}{l:List Oper}(h:ai P l.toArray c l T H sps T' H')(hd:fb c.n l=true)
  (hord:nz [] [] 0 (l.zip sps)=true)(hQ:∀a w,Sat c (aM T') (af H') a w->Q .normal a w):∀a w,Sat c (aM T) (af H) a w->wpAny P .any l.toArray Q l.toArray.size (Array.replicate l.toArray.size false) a {w with drawn:=w.drawn+1}:=by
 intro a w hs;obtain⟨hlen,eT,eH,hst⟩:=h.data;have hzl:(l.zip sps).length=l.length:=by simp[List.length_zip,hlen]
 have hdst:∀(os:List Oper),fb c.n os=true->∀o∈os,uh c.n o=true:=by
  intro os
  induction os with
  |nil=>intro _ o ho;cases ho
  |cons o os ih=>
   intro hh o' ho';obtain⟨h1,h2⟩:=nR hh;rcases List.mem_cons.1 ho' with rfl|ho'
   ·exact h1
   ·exact ih h2 o' ho'
 have hE0:∀j,setOf (Array.replicate l.toArray.size false) j=false:=by
  intro j;simp only[setOf,Array.getD_eq_getD_getElem?,Array.getElem?_replicate]
  split<;>rfl
 refine(A8 (l:=l.zip sps) (T:=aM T) (H:=af H) (fun j=>?_) (by simp[hzl]) hst (fun i x hx=>?_) hord (fun a w hs'=>hQ a w (by rwa [eT,eH]at hs')) _ _ a _ (by simp[hzl]) ?_ ?_ ?_)
 ·have:(l.zip sps).map (fun x:Oper×Spec=>x.1)=l:=by
   rw[List.map_fst_zip];omega
  conv=>lhs;rw[←this]
  simp
 ·have:=List.of_mem_zip (List.mem_of_getElem? hx);exact hdst l hd x.1 this.1
 ·intro j x e _ _ _ hj;rw[hE0]at hj;cases hj
 ·have hs':Sat c (aM T) (af H) a {w with drawn:=w.drawn+1}:=by
   obtain⟨ε,φ,hs⟩:=hs;exact⟨ε,φ,hs.grow ((Go.RowKit.Below.refl _ _).drew)⟩
  exact hs'.ext (fun t=>pJ (fun j x _ he=>by rw[hE0]at he;cases he)) (fun t=>p8 (fun j x _ he=>by rw[hE0]at he;cases he))
 ·intro U hnd hU;have:=yg (l.zip sps).length U hnd (fun j hj=>(hU j hj).1);simpa [hzl]using this
theorem Ok.de{P:Program}{c:Ctx}{T T':List (Nat×D)}{H H':List (Nat×Hp)}{Q:Exit->Act->World->Prop}{id:Nat}{sps:List Spec}{l:List Oper}(hm:P.follows .mixedOrders=true)(h:ai P l.toArray c l T H sps T' H')(hd:fb c.n l=true)
  (hord:nz [] [] 0 (l.zip sps)=true)(hQ:∀a w,Sat c (aM T') (af H') a w->Q .normal a w):Ok P c T H (.region id l.toArray true) Q:=
 fun a w hs=>wp_region_any hm (h.tw hd hord hQ a w hs)
theorem Ok.dh{P:Program}{c:Ctx}{T T':List (Nat×D)}{H H':List (Nat×Hp)}{Q:Exit->Act->World->Prop}{id:Nat}{sps:List Spec}{l:List Oper}{y:Code}(hm:P.follows .mixedOrders=true)(h:ai P l.toArray c l T H sps T' H')(hd:fb c.n l=true)
  (hord:nz [] [] 0 (l.zip sps)=true)(hy:Ok P c T' H' y Q):Ok P c T H (.seq (.region id l.toArray true) y) Q:=
 fun a w hs=>wp_seq (Ok.de hm h hd hord (fun a' w' hs'=>hy a' w' hs') a w hs)
end Go.Am
namespace Go.Am
open Go.RowKit
def pB(op:BinOp)(k:IntKind)(n m:Int):Option Int:=
 match op with
 |.add=>some (k.wrap (n+m))
 |.sub=>some (k.wrap (n-m))
 |.mul=>some (k.wrap (n*m))
 |.quo=>if m=0 then none else some (k.wrap (n.tdiv m))
 |.rem=>if m=0 then none else some (n.tmod m)
 |.and=>some (bits .and k n m)
 |.or=>some (bits .or k n m)
 |.xor=>some (bits .xor k n m)
 |.andNot=>some (bits .andNot k n m)
 |_=>none
def du(op:BinOp)(n m:Int):Option Bool:=
 match op with
 |.eql=>some (n==m)
 |.neq=>some (n !=m)
 |.lss=>some (decide (n<m))
 |.leq=>some (decide (n<=m))
 |.gtr=>some (decide (n>m))
 |.geq=>some (decide (n>=m))
 |_=>none
def BS(op:BinOp)(k:IntKind)(n m:Int):Option Int:=
 if m<0 then none else
 match op with
 |.shl=>some (k.wrap (n*2^(min m.toNat k.bits)))
 |.shr=>some (n.fdiv (2^(min m.toNat k.bits)))
 |_=>none
def HK(op:BinOp)(x y:ByteArray):Option Bool:=
 match op with
 |.eql=>some (x.toList==y.toList)
 |.neq=>some (!(x.toList==y.toList))
 |_=>none
theorem Fs{P:Program}{op:BinOp}{k:IntKind}{n m r:Int}{t:TypeId}(h:pB op k n m=some r)(w:World):(binOp op t (.int k n) (.int k m)).run P w=.ok (.int k r) w:=by
 cases op<;>simp only[pB]at h<;>try cases h
 case quo=>
  split at h
  ·cases h
  ·rename_i hm;injection h with h;subst h;simp[binOp,Op.intDiv,hm]
 case rem=>
  split at h
  ·cases h
  ·rename_i hm;injection h with h;subst h;simp[binOp,Op.intDiv,hm]
 all_goals (simp[binOp,Op.intArith];try rfl)
theorem CM{P:Program}{op:BinOp}{k:IntKind}{n m:Int}{b:Bool}{t:TypeId}(h:du op n m=some b)(w:World):(binOp op t (.int k n) (.int k m)).run P w=.ok (.bool b) w:=by
 cases op<;>simp only[du]at h<;>cases h<;>simp[binOp,Op.intCmp]
theorem EZ{P:Program}{op:BinOp}{k yk:IntKind}{n m r:Int}{t:TypeId}(h:BS op k n m=some r)(w:World):(binOp op t (.int k n) (.int yk m)).run P w=.ok (.int k r) w:=by
 unfold BS at h
 split at h
 ·cases h
 ·rename_i hm;cases op<;>simp only[]at h<;>cases h<;>simp[binOp,Op.shift,hm]
theorem EG{P:Program}{op:BinOp}{x y:ByteArray}{b:Bool}{t:TypeId}(h:HK op x y=some b)(w:World):(binOp op t (.string x) (.string y)).run P w=.ok (.bool b) w:=by
 cases op<;>simp only[HK]at h<;>cases h<;>simp[binOp,Op.stringOp]
theorem run_equalIn_bool{P:Program}(w:World)(d:Nat){t:TypeId}(p q:Bool)(hu:P.underlying t=some .bool):(Op.equalIn (d+1) t (.bool p) (.bool q)).run P w=.ok (p==q) w:=by
 simp[Op.equalIn,run_underlying hu]
theorem xc(op:BinOp)(t:TypeId)(x y:Operand)(k:IntKind)(n:Int)(v:Value):eqGuard op t x y (.int k n) v=pure ():=by cases op<;>rfl
section
variable {P:Program} {os:List Oper} {c:Ctx} {T T':List (Nat×D)} {H H':List (Nat×Hp)} {sps:List Spec}
variable {ops:Array Oper} {dst:Option Nat} {ty:TypeId} {pos:String} {aft:Array Edge}
theorem two{x y:Operand}{d e:D}(hx:ev T x=some d)(hy:ev T y=some e):∀z∈[(x,d),(y,e)],ev T z.1=some z.2:=by
 intro z hz;simp only[List.mem_cons,List.not_mem_nil,or_false]at hz;rcases hz with rfl|rfl
 ·exact hx
 ·exact hy
theorem kb{d:D}{xs:List (Operand×D)}(h:d.nm=[]):∀r∈d.nm,∃x∈xs,r∈x.2.nm:=by rw[h];intro r hr;cases hr
theorem ai.ar{op:BinOp}{xt yt:TypeId}{x y:Operand}{k:IntKind}{n m r:Int}(hx:ev T x=some (.int k n))(hy:ev T y=some (.int k m))(h:pB op k n m=some r)
  (hr:ai P ops c os (bg T dst (.int k r)) H sps T' H'):ai P ops c (⟨dst,.binOp op xt x y yt,ty,pos,aft,none⟩::os) T H (ps [(x,.int k n),(y,.int k m)] (.int k r)::sps) T' H':=
 .pure [(x,.int k n),(y,.int k m)] rfl (two hx hy) (kb rfl) (fun ε w S a ha=>by
  have h1:a.eval x=.int k n:=ha (x,.int k n) (by simp);have h2:a.eval y=.int k m:=ha (y,.int k m) (by simp);exact⟨_,by simp only[execOp,h1,h2,xc,Sem.run_bind,Sem.run_pure,Result.andThen_ok,Fs h],rfl⟩) hr
theorem ai.cm{op:BinOp}{xt yt:TypeId}{x y:Operand}{k:IntKind}{n m:Int}{b:Bool}(hx:ev T x=some (.int k n))(hy:ev T y=some (.int k m))(h:du op n m=some b)
  (hr:ai P ops c os (bg T dst (.bool b)) H sps T' H'):ai P ops c (⟨dst,.binOp op xt x y yt,ty,pos,aft,none⟩::os) T H (ps [(x,.int k n),(y,.int k m)] (.bool b)::sps) T' H':=
 .pure [(x,.int k n),(y,.int k m)] rfl (two hx hy) (kb rfl) (fun ε w S a ha=>by
  have h1:a.eval x=.int k n:=ha (x,.int k n) (by simp);have h2:a.eval y=.int k m:=ha (y,.int k m) (by simp);exact⟨_,by simp only[execOp,h1,h2,xc,Sem.run_bind,Sem.run_pure,Result.andThen_ok,CM h],rfl⟩) hr
theorem ai.sh{op:BinOp}{xt yt:TypeId}{x y:Operand}{k yk:IntKind}{n m r:Int}(hx:ev T x=some (.int k n))(hy:ev T y=some (.int yk m))(h:BS op k n m=some r)
  (hr:ai P ops c os (bg T dst (.int k r)) H sps T' H'):ai P ops c (⟨dst,.binOp op xt x y yt,ty,pos,aft,none⟩::os) T H (ps [(x,.int k n),(y,.int yk m)] (.int k r)::sps) T' H':=
 .pure [(x,.int k n),(y,.int yk m)] rfl (two hx hy) (kb rfl) (fun ε w S a ha=>by
  have h1:a.eval x=.int k n:=ha (x,.int k n) (by simp);have h2:a.eval y=.int yk m:=ha (y,.int yk m) (by simp);exact⟨_,by simp only[execOp,h1,h2,xc,Sem.run_bind,Sem.run_pure,Result.andThen_ok,EZ h],rfl⟩) hr
theorem ai.sc{op:BinOp}{xt yt:TypeId}{x y:Operand}{s u:ByteArray}{b:Bool}(hx:ev T x=some (.str s))(hy:ev T y=some (.str u))(h:HK op s u=some b)
  (hr:ai P ops c os (bg T dst (.bool b)) H sps T' H'):ai P ops c (⟨dst,.binOp op xt x y yt,ty,pos,aft,none⟩::os) T H (ps [(x,.str s),(y,.str u)] (.bool b)::sps) T' H':=
 .pure [(x,.str s),(y,.str u)] rfl (two hx hy) (kb rfl) (fun ε w S a ha=>by
  have h1:a.eval x=.string s:=ha (x,.str s) (by simp);have h2:a.eval y=.string u:=ha (y,.str u) (by simp);exact⟨_,by simp only[execOp,h1,h2,eqGuard_at_string,Sem.run_bind,Sem.run_pure,Result.andThen_ok,EG h],rfl⟩) hr
theorem ai.cat{xt yt:TypeId}{x y:Operand}{s u:ByteArray}(hx:ev T x=some (.str s))(hy:ev T y=some (.str u))(h:s.size+u.size<=9223372036854775807)
  (hr:ai P ops c os (bg T dst (.str (s++u))) H sps T' H'):ai P ops c (⟨dst,.binOp .add xt x y yt,ty,pos,aft,none⟩::os) T H (ps [(x,.str s),(y,.str u)] (.str (s++u))::sps) T' H':=
 .pure [(x,.str s),(y,.str u)] rfl (two hx hy) (kb rfl) (fun ε w S a ha=>by
  have h1:a.eval x=.string s:=ha (x,.str s) (by simp);have h2:a.eval y=.string u:=ha (y,.str u) (by simp);have h3:¬(((s.size+u.size:Nat):Int)>IntKind.i64.max):=by rw[IntKind.max_i64];omega
  exact⟨_,by simp only[execOp,h1,h2,eqGuard_at_string,Sem.run_bind,Sem.run_pure,Result.andThen_ok,binOp,Op.stringOp,h3,if_false],rfl⟩) hr
def Jk(op:BinOp)(a b:Bool):Option Bool:=
 match op with
 |.eql=>some (a==b)
 |.neq=>some (!(a==b))
 |_=>none
def isBool(P:Program)(t:TypeId):Bool:=match P.underlying t with|some .bool=>true|_=>false
theorem ai.bc{op:BinOp}{xt yt:TypeId}{x y:Operand}{p q b:Bool}(ht:isBool P xt=true)(hx:ev T x=some (.bool p))(hy:ev T y=some (.bool q))(h:Jk op p q=some b)
  (hr:ai P ops c os (bg T dst (.bool b)) H sps T' H'):ai P ops c (⟨dst,.binOp op xt x y yt,ty,pos,aft,none⟩::os) T H (ps [(x,.bool p),(y,.bool q)] (.bool b)::sps) T' H':=
 .pure [(x,.bool p),(y,.bool q)] rfl (two hx hy) (kb rfl) (fun ε w S a ha=>by
  have h1:a.eval x=.bool p:=ha (x,.bool p) (by simp);have h2:a.eval y=.bool q:=ha (y,.bool q) (by simp);have hu:P.underlying xt=some .bool:=by unfold isBool at ht;split at ht<;>first|assumption|cases ht
  have he:(Op.equal xt (.bool p) (.bool q)).run P w=.ok (p==q) w:=by
   simp only[Op.equal,Op.maxDepth];exact run_equalIn_bool w 9999 p q hu
  refine⟨.bool b,?_,rfl⟩;simp only[execOp,h1,h2,eqGuard_at_bool,Sem.run_bind,Sem.run_pure,Result.andThen_ok];cases op<;>simp only[Jk]at h<;>cases h<;>simp[binOp,he]) hr
theorem ai.not{xt:TypeId}{x:Operand}{p:Bool}(hx:ev T x=some (.bool p))(hr:ai P ops c os (bg T dst (.bool (!p))) H sps T' H'):
  ai P ops c (⟨dst,.unOp .not xt x,ty,pos,aft,none⟩::os) T H (ps [(x,.bool p)] (.bool (!p))::sps) T' H':=
 .pure [(x,.bool p)] rfl (by simpa using hx) (kb rfl) (fun ε w S a ha=>by
  have h1:a.eval x=.bool p:=ha (x,.bool p) (by simp);exact⟨_,by simp only[execOp,h1,Op.unary,Sem.run_bind,Sem.run_pure,Result.andThen_ok],rfl⟩) hr
theorem ai.neg{xt:TypeId}{x:Operand}{k:IntKind}{n r:Int}(hx:ev T x=some (.int k n))(h:k.wrap (0-n)=r)(hr:ai P ops c os (bg T dst (.int k r)) H sps T' H'):
  ai P ops c (⟨dst,.unOp .neg xt x,ty,pos,aft,none⟩::os) T H (ps [(x,.int k n)] (.int k r)::sps) T' H':=
 .pure [(x,.int k n)] rfl (by simpa using hx) (kb rfl) (fun ε w S a ha=>by
  have h1:a.eval x=.int k n:=ha (x,.int k n) (by simp);subst h;exact⟨_,by simp only[execOp,h1,Op.unary,Op.intArith,Sem.run_bind,Sem.run_pure,Result.andThen_ok],rfl⟩) hr
def DP(P:Program)(s d:TypeId):Option IntKind:=
 match P.underlying s,P.underlying d with
 |some _,some (.int k)=>some k
 |_,_=>none
theorem ai.cv{s d:TypeId}{x:Operand}{k k':IntKind}{n r:Int}(hx:ev T x=some (.int k n))(ht:DP P s d=some k')(h:k'.wrap n=r)(hr:ai P ops c os (bg T dst (.int k' r)) H sps T' H'):
  ai P ops c (⟨dst,.convert s d x,ty,pos,aft,none⟩::os) T H (ps [(x,.int k n)] (.int k' r)::sps) T' H':=
 .pure [(x,.int k n)] rfl (by simpa using hx) (kb rfl) (fun ε w S a ha=>by
  have h1:a.eval x=.int k n:=ha (x,.int k n) (by simp);subst h;unfold DP at ht
  split at ht<;>cases ht
  rename_i u hs hd;exact⟨_,by simp only[execOp,h1,convert,run_underlying hs,run_underlying hd,Conv.intToInt,Sem.run_bind,Sem.run_pure,Result.andThen_ok],rfl⟩) hr
theorem ai.II{z x y:Operand}{d:D}(hz:ev T z=some (.bool true))(hx:ev T x=some d)(hr:ai P ops c os (bg T dst d) H sps T' H'):
  ai P ops c (⟨dst,.pick z x y,ty,pos,aft,none⟩::os) T H (ps [(z,.bool true),(x,d)] d::sps) T' H':=
 .pure [(z,.bool true),(x,d)] rfl (two hz hx) (fun r hr=>⟨(x,d),by simp,hr⟩) (fun ε w S a ha=>by
  have h1:a.eval z=.bool true:=ha (z,.bool true) (by simp);exact⟨a.eval x,by simp[execOp,h1,asBool],ha (x,d) (by simp)⟩) hr
theorem ai.Jg{z x y:Operand}{d:D}(hz:ev T z=some (.bool false))(hy:ev T y=some d)(hr:ai P ops c os (bg T dst d) H sps T' H'):
  ai P ops c (⟨dst,.pick z x y,ty,pos,aft,none⟩::os) T H (ps [(z,.bool false),(y,d)] d::sps) T' H':=
 .pure [(z,.bool false),(y,d)] rfl (two hz hy) (fun r hr=>⟨(y,d),by simp,hr⟩) (fun ε w S a ha=>by
  have h1:a.eval z=.bool false:=ha (z,.bool false) (by simp);exact⟨a.eval y,by simp[execOp,h1,asBool],ha (y,d) (by simp)⟩) hr
def gs(g:Nat)(b:Bool)(sp:Spec):Spec:={sp with ins:=(g,.bool b)::sp.ins}
theorem zC{g j:Nat}{b:Bool}{a:Act}(hj:(ops[j]?).bind (·.dst)=some g)(hsz:g<a.tmps.size)(hv:a.tmps.getD g undef=.bool b):yielded ops a.tmps j=some b:=by
 unfold yielded;simp only[hj,Option.bind_some];have:a.tmps[g]?=some (.bool b):=by
  rw[Array.getElem?_eq_getElem hsz];have h2:a.tmps.getD g undef=a.tmps[g]:=by simp[Array.getD,hsz]
  rw[h2]at hv;rw[hv]
 rw[this]
theorem ai.gY{op:Op}{j g:Nat}{b want:Bool}{sp:Spec}(hj:(ops[j]?).bind (·.dst)=some g)(hlt:Nat.blt g c.n=true)(hg:aM T g=some (.bool b))(hb:(b==want)=true)
  (hr:ai P ops c (⟨dst,op,ty,pos,aft,none⟩::os) T H (sp::sps) T' H'):ai P ops c (⟨dst,op,ty,pos,aft,some (j,want)⟩::os) T H (gs g b sp::sps) T' H':=by
 cases hr with
 |cons hs hi hh hn hr=>
  refine .cons (sp:=gs g b sp) ?_ ⟨hg,hi⟩ hh hn hr;intro hd T0 H0 hi hh hn a w hsat Q K hK;obtain⟨ε,φ,hs'⟩:=hsat;have hy:yielded ops a.tmps j=some b:=zC hj (by rw[hs'.sz];simpa using hlt) (hs'.t g _ hi.1);have hw:Region.wanted (⟨dst,op,ty,pos,aft,some (j,want)⟩:Oper) (yielded ops a.tmps)=true:=by
   have:=beq_iff_eq.1 hb;simp[Region.wanted,hy,this]
  rw[if_pos hw];have:=hs hd T0 H0 hi.2 hh hn a w ⟨ε,φ,hs'⟩ Q K hK;rw[if_pos (a_ rfl _)]at this;exact this
theorem ai.gN{op:Op}{j g:Nat}{b want:Bool}(hj:(ops[j]?).bind (·.dst)=some g)(hlt:Nat.blt g c.n=true)(hg:aM T g=some (.bool b))(hb:(b==want)=false)
  (hr:ai P ops c os (bg T dst .any) H sps T' H'):ai P ops c (⟨dst,op,ty,pos,aft,some (j,want)⟩::os) T H (gs g b (ps [] .any)::sps) T' H':=by
 refine .cons (sp:=gs g b (ps [] .any)) ?_ ⟨hg,trivial⟩ trivial trivial hr;intro hd T0 H0 hi hh hn a w hsat Q K hK;obtain⟨ε,φ,hs'⟩:=hsat;have hy:yielded ops a.tmps j=some b:=zC hj (by rw[hs'.sz];simpa using hlt) (hs'.t g _ hi.1);have hw:¬Region.wanted (⟨dst,op,ty,pos,aft,some (j,want)⟩:Oper) (yielded ops a.tmps)=true:=by
  have:b≠want:=by intro e;subst e;simp at hb
  simp[Region.wanted,hy,this]
 rw[if_neg hw];exact hK _ _ ⟨ε,φ,hs'.put (d:=.any) (cU hd) trivial (fun _ h=>by cases h)⟩
end
section
variable {P:Program} {c:Ctx} {T T':List (Nat×D)} {H H':List (Nat×Hp)} {Q:Exit->Act->World->Prop} {x y z:Code}
theorem Ok.cT{o:Operand}(h:ev T o=some (.bool true))(k:Ok P c T H x Q):Ok P c T H (.cond o x y) Q:=by
 intro a w hs;obtain⟨ε,φ,hs'⟩:=hs;exact wp_cond_true (hs'.ev (aw h).1 (aw h).2).1 (k a w ⟨ε,φ,hs'⟩)
theorem Ok.cF{o:Operand}(h:ev T o=some (.bool false))(k:Ok P c T H y Q):Ok P c T H (.cond o x y) Q:=by
 intro a w hs;obtain⟨ε,φ,hs'⟩:=hs;exact wp_cond_false (hs'.ev (aw h).1 (aw h).2).1 (k a w ⟨ε,φ,hs'⟩)
theorem Ok.skip(h:∀a w,Sat c (aM T) (af H) a w->Q .normal a w):Ok P c T H .skip Q:=fun a w hs=>wp_skip (h a w hs)
theorem Ok.exit{id:Nat}(h:∀a w,Sat c (aM T) (af H) a w->Q (.exit id) a w):Ok P c T H (.exit id) Q:=fun a w hs=>wp_exit (h a w hs)
theorem Ok.block{id:Nat}(h:Ok P c T H x (Exit.inBlock id Q)):Ok P c T H (.block id x) Q:=fun a w hs=>wp_block (h a w hs)
theorem Ok.sq(h:Ok P c T H x (Exit.then (y.wp P Q) Q)):Ok P c T H (.seq x y) Q:=fun a w hs=>wp_seq (h a w hs)
theorem Ok.on(h:Ok P c T H y Q):∀a w,Sat c (aM T) (af H) a w->(Exit.then (y.wp P Q) Q) .normal a w:=fun a w hs=>h a w hs
theorem Ok.cut(T':List (Nat×D))(H':List (Nat×Hp))(h:Ok P c T H x (Exit.then (Sat c (aM T') (af H')) Q))(k:Ok P c T' H' y Q):Ok P c T H (.seq x y) Q:=.seq h (fun a w hs=>k a w hs)
def Gi(h h':Hp):Prop:=(∀ε w S b F,h.p ε w S b F->h'.p ε w S b F)/\∀r∈h'.nm,r∈h.nm
theorem Gi.refl(h:Hp):Gi h h:=⟨fun _ _ _ _ _ x=>x,fun _ x=>x⟩
def iO(T:List (Nat×D)):List (Nat×D)->Prop
 |[]=>True
 |(t,d')::l=>(∃d,aM T t=some d/\Le d d')/\iO T l
def kY(H:List (Nat×Hp)):List (Nat×Hp)->Prop
 |[]=>True
 |(t,d')::l=>(∃d,af H t=some d/\Gi d d')/\kY H l
def cE(H:List (Nat×Hp)):List Nat->Bool
 |[]=>true
 |r::l=>match af H r with|some _=>cE H l|none=>false
def pN:List (Nat×D)->List Nat
 |[]=>[]
 |(_,d)::l=>d.nm++pN l
def j4:List (Nat×Hp)->List Nat
 |[]=>[]
 |(_,d)::l=>d.nm++j4 l
theorem nS:∀{l:List (Nat×D)},iO T l->∀t d',aM l t=some d'->∃d,aM T t=some d/\Le d d'
 |[],_,t,d',h=>by cases h
 |(t0,d0)::l,hs,t,d',h=>by
  simp only[aM]at h
  cases hb:Nat.beq t t0 with
  |true=>rw[hb]at h;injection h with h;subst h;rw[Nat.eq_of_beq_eq_true hb];exact hs.1
  |false=>rw[hb]at h;exact nS hs.2 t d' h
theorem nP:∀{l:List (Nat×Hp)},kY H l->∀t d',af l t=some d'->∃d,af H t=some d/\Gi d d'
 |[],_,t,d',h=>by cases h
 |(t0,d0)::l,hs,t,d',h=>by
  simp only[af]at h
  cases hb:Nat.beq t t0 with
  |true=>rw[hb]at h;injection h with h;subst h;rw[Nat.eq_of_beq_eq_true hb];exact hs.1
  |false=>rw[hb]at h;exact nP hs.2 t d' h
theorem dc:∀{l:List Nat},cE H l=true->∀r∈l,af H r≠none
 |[],_,r,h=>by cases h
 |r0::l,h,r,hr=>by
  simp only[cE]at h
  split at h
  ·rename_i y hy;rcases List.mem_cons.1 hr with rfl|hr
   ·rw[hy];simp
   ·exact dc h r hr
  ·cases h
theorem l3:∀{l:List (Nat×D)} {t:Nat} {d:D},aM l t=some d->∀r∈d.nm,r∈pN l
 |[],_,_,h,_,_=>by cases h
 |(t0,d0)::l,t,d,h,r,hr=>by
  simp only[aM]at h;simp only[pN,List.mem_append]
  cases hb:Nat.beq t t0 with
  |true=>rw[hb]at h;injection h with h;subst h;exact .inl hr
  |false=>rw[hb]at h;exact .inr (l3 h r hr)
theorem qG:∀{l:List (Nat×Hp)} {t:Nat} {d:Hp},af l t=some d->∀r∈d.nm,r∈j4 l
 |[],_,_,h,_,_=>by cases h
 |(t0,d0)::l,t,d,h,r,hr=>by
  simp only[af]at h;simp only[j4,List.mem_append]
  cases hb:Nat.beq t t0 with
  |true=>rw[hb]at h;injection h with h;subst h;exact .inl hr
  |false=>rw[hb]at h;exact .inr (qG h r hr)
theorem Sat.sub{a:Act}{w:World}(hs:Sat c (aM T) (af H) a w)(hT:iO T T')(hH:kY H H')(h1:cE H' (pN T')=true)(h2:cE H' (j4 H')=true):Sat c (aM T') (af H') a w:=by
 obtain⟨ε,φ,hs⟩:=hs;have live:∀r,af H' r≠none->af H r≠none:=by
  intro r hr
  cases hq:af H' r with
  |none=>exact absurd hq hr
  |some y=>obtain⟨z,hz,_⟩:=nP hH r y hq;rw[hz];simp
 have hreg:∀k,al c (af H) φ k->k<w.heap.size->al c (af H') φ k/\w.heap[k]?=w.heap[k]?:=fun k hk _=>⟨⟨hk.1,fun r hr=>hk.2 r (live r hr)⟩,rfl⟩;refine⟨ε,φ,?_⟩
 constructor
 ·intro t d' ht;obtain⟨d,hd,hle⟩:=nS hT t d' ht;exact d'.mono (hle.1 _ _ _ _ (hs.t t d hd)) (fun _ _=>rfl) hreg
 ·exact fun t d' ht r hr=>dc h1 r (l3 ht r hr)
 ·intro r h' hr;obtain⟨h,hh,hle⟩:=nP hH r h' hr;exact h'.mono (hle.1 _ _ _ _ _ (hs.h r h hh)) (fun _ _=>rfl) hreg (fun _ _=>rfl)
 ·exact fun r h' hr r' hr'=>dc h2 r' (qG hr r' hr')
 ·exact fun r hr=>hs.lo r (live r hr)
 ·exact fun r r' hr hr'=>hs.dj r r' (live r hr) (live r' hr')
 ·exact hs.pP
 ·exact hs.bs
 ·exact hs.sz
 ·exact hs.df
theorem Ok.sub(T':List (Nat×D))(H':List (Nat×Hp))(hT:iO T T')(hH:kY H H')(h1:cE H' (pN T')=true)(h2:cE H' (j4 H')=true)(h:Ok P c T' H' x Q):Ok P c T H x Q:=
 fun a w hs=>h a w (hs.sub hT hH h1 h2)
def wx(ρ:Nat->Nat)(d d':D):Prop:=(∀ε w S v,d.p ε w S v->d'.p (fun r=>ε (ρ r)) w S v)/\∀r∈d'.nm,ρ r∈d.nm
def wX(ρ:Nat->Nat)(h h':Hp):Prop:=(∀ε w S b F,h.p ε w S b F->h'.p (fun r=>ε (ρ r)) w S b F)/\∀r∈h'.nm,ρ r∈h.nm
theorem wx.refl{ρ:Nat->Nat}{d:D}(h:d.nm=[]):wx ρ d d:=⟨fun _ _ _ _ hp=>d.mono hp (by rw[h];intro r hr;cases hr) (fun _ hk _=>⟨hk,rfl⟩),by rw[h];intro r hr;cases hr⟩
theorem wx.ref{ρ:Nat->Nat}{r off:Nat}:wx ρ (.ref (ρ r) off) (.ref r off):=⟨fun _ _ _ _ h=>h,fun r' hr'=>by simp[D.ref]at hr'|-;rw[hr']⟩
theorem wx.own{ρ:Nat->Nat}{r:Nat}:wx ρ (.own (ρ r)) (.own r):=⟨fun _ _ _ _ h=>h,fun r' hr'=>by simp[D.own]at hr'|-;rw[hr']⟩
theorem wX.refl{ρ:Nat->Nat}{h:Hp}(e:h.nm=[]):wX ρ h h:=⟨fun _ _ _ _ _ hp=>h.mono hp (by rw[e];intro r hr;cases hr) (fun _ hk _=>⟨hk,rfl⟩) (fun _ _=>rfl),by rw[e];intro r hr;cases hr⟩
def qz(ρ:Nat->Nat)(T:List (Nat×D)):List (Nat×D)->Prop
 |[]=>True
 |(t,d')::l=>(∃d,aM T t=some d/\wx ρ d d')/\qz ρ T l
def nY(ρ:Nat->Nat)(H:List (Nat×Hp)):List (Nat×Hp)->Prop
 |[]=>True
 |(t,d')::l=>(∃d,af H (ρ t)=some d/\wX ρ d d')/\nY ρ H l
theorem vR{ρ:Nat->Nat}:∀{l:List (Nat×D)},qz ρ T l->∀t d',aM l t=some d'->∃d,aM T t=some d/\wx ρ d d'
 |[],_,t,d',h=>by cases h
 |(t0,d0)::l,hs,t,d',h=>by
  simp only[aM]at h
  cases hb:Nat.beq t t0 with
  |true=>rw[hb]at h;injection h with h;subst h;rw[Nat.eq_of_beq_eq_true hb];exact hs.1
  |false=>rw[hb]at h;exact vR hs.2 t d' h
theorem mm{ρ:Nat->Nat}:∀{l:List (Nat×Hp)},nY ρ H l->∀t d',af l t=some d'->∃d,af H (ρ t)=some d/\wX ρ d d'
 |[],_,t,d',h=>by cases h
 |(t0,d0)::l,hs,t,d',h=>by
  simp only[af]at h
  cases hb:Nat.beq t t0 with
  |true=>rw[hb]at h;injection h with h;subst h;rw[Nat.eq_of_beq_eq_true hb];exact hs.1
  |false=>rw[hb]at h;exact mm hs.2 t d' h
def AS(r:Nat):List Nat->Bool
 |[]=>true
 |r'::l=>match Nat.beq r r' with|true=>false|false=>AS r l
def Az(ρ:Nat->Nat):List Nat->Bool
 |[]=>true
 |r::l=>match AS (ρ r) (l.map ρ)with|true=>Az ρ l|false=>false
theorem ua{r:Nat}:∀{l:List Nat},AS r l=true->r∉l
 |[],_=>by simp
 |r'::l,h=>by
  simp only[AS]at h
  cases hb:Nat.beq r r' with
  |true=>rw[hb]at h;cases h
  |false=>
   rw[hb]at h;have:r≠r':=fun e=>by subst e;simp at hb
   intro hr;rcases List.mem_cons.1 hr with hr|hr
   ·exact this hr
   ·exact ua h hr
theorem tV{ρ:Nat->Nat}:∀{l:List Nat},Az ρ l=true->∀r r',r∈l->r'∈l->r≠r'->ρ r≠ρ r'
 |[],_,r,_,h,_,_=>by cases h
 |x::l,h,r,r',hr,hr',hne=>by
  simp only[Az]at h
  split at h
  ·rename_i hn;have hn:=ua hn;rcases List.mem_cons.1 hr with e1|e1
   ·rcases List.mem_cons.1 hr' with e2|e2
    ·exact absurd (e1.trans e2.symm) hne
    ·intro e;exact hn (List.mem_map.2 ⟨r',e2,by rw[←e,e1]⟩)
   ·rcases List.mem_cons.1 hr' with e2|e2
    ·intro e;exact hn (List.mem_map.2 ⟨r,e1,by rw[e,e2]⟩)
    ·exact tV h r r' e1 e2 hne
  ·cases h
theorem Sat.l7{a:Act}{w:World}(ρ:Nat->Nat)(hs:Sat c (aM T) (af H) a w)(hT:qz ρ T T')(hH:nY ρ H H')(h1:cE H' (pN T')=true)(h2:cE H' (j4 H')=true)(h3:Az ρ (names H')=true):Sat c (aM T') (af H') a w:=by
 obtain⟨ε,φ,hs⟩:=hs;have live:∀r,af H' r≠none->af H (ρ r)≠none:=by
  intro r hr
  cases hq:af H' r with
  |none=>exact absurd hq hr
  |some y=>obtain⟨z,hz,_⟩:=mm hH r y hq;rw[hz];simp
 have hreg:∀k,al c (af H) φ k->k<w.heap.size->al c (af H') (fun r=>φ (ρ r)) k/\w.heap[k]?=w.heap[k]?:=fun k hk _=>⟨⟨hk.1,fun r hr=>hk.2 (ρ r) (live r hr)⟩,rfl⟩;refine⟨fun r=>ε (ρ r),fun r=>φ (ρ r),?_⟩
 constructor
 ·intro t d' ht;obtain⟨d,hd,hle⟩:=vR hT t d' ht;exact d'.mono (hle.1 _ _ _ _ (hs.t t d hd)) (fun _ _=>rfl) hreg
 ·exact fun t d' ht r hr=>dc h1 r (l3 ht r hr)
 ·intro r h' hr;obtain⟨h,hh,hle⟩:=mm hH r h' hr;exact h'.mono (hle.1 _ _ _ _ _ (hs.h (ρ r) h hh)) (fun _ _=>rfl) hreg (fun _ _=>rfl)
 ·exact fun r h' hr r' hr'=>dc h2 r' (qG hr r' hr')
 ·exact fun r hr=>hs.lo (ρ r) (live r hr)
 ·intro r r' hr hr' hne;exact hs.dj (ρ r) (ρ r') (live r hr) (live r' hr') (tV h3 r r' (bU.1 hr) (bU.1 hr') hne)
 ·exact hs.pP
 ·exact hs.bs
 ·exact hs.sz
 ·exact hs.df
theorem Ok.uB{ι:Type}(JT:ι->List (Nat×D))(JH:ι->List (Nat×Hp))(h:Ok P c T H x (Exit.then (fun a w=>∃i,Sat c (aM (JT i)) (af (JH i)) a w) Q))(k:∀i,Ok P c (JT i) (JH i) y Q):Ok P c T H (.seq x y) Q:=
 .seq h (fun a w ⟨i,hs⟩=>k i a w hs)
theorem Sat.to{ι:Type}{JT:ι->List (Nat×D)}{JH:ι->List (Nat×Hp)}{a:Act}{w:World}(hs:Sat c (aM T) (af H) a w)(i:ι)(hT:iO T (JT i))(hH:kY H (JH i))(h1:cE (JH i) (pN (JT i))=true)(h2:cE (JH i) (j4 (JH i))=true):
  ∃i,Sat c (aM (JT i)) (af (JH i)) a w:=⟨i,hs.sub hT hH h1 h2⟩
theorem Sat.round{ι:Type}{JT:ι->List (Nat×D)}{JH:ι->List (Nat×Hp)}{μ:ι->Nat}{m:Nat}{a:Act}{w:World}(hs:Sat c (aM T) (af H) a w)(i:ι)(hμ:μ i<m)(hT:iO T (JT i))(hH:kY H (JH i))(h1:cE (JH i) (pN (JT i))=true)(h2:cE (JH i) (j4 (JH i))=true):
  ∃i,μ i<m/\Sat c (aM (JT i)) (af (JH i)) a w:=⟨i,hμ,hs.sub hT hH h1 h2⟩
theorem Ok.loop{ι:Type}(IT:ι->List (Nat×D))(IH:ι->List (Nat×Hp))(μ:ι->Nat)(i0:ι)(hT:iO T (IT i0))(hH:kY H (IH i0))(h1:cE (IH i0) (pN (IT i0))=true)(h2:cE (IH i0) (j4 (IH i0))=true)
  (h:∀i,Ok P c (IT i) (IH i) x (Exit.then (fun a w=>∃j,μ j<μ i/\Sat c (aM (IT j)) (af (IH j)) a w) Q)):Ok P c T H (.loop x) Q:=by
 intro a w hs b k cs;have key:∀n i a w,μ i=n->Sat c (aM (IT i)) (af (IH i)) a w->∃e a' w',Q e a' w'/\Arrives P (lone (b.at a (.code x::.inLoop x::k)) cs w) b k cs e a' w':=by
  intro n
  induction n using Nat.strongRecOn with
  |_ n ih=>
   intro i a w hn hs;obtain⟨e,a₁,w₁,hq,harr⟩:=h i a w hs b (.inLoop x::k) cs
   cases e with
   |normal=>
    obtain⟨j,hlt,hI⟩:=hq;obtain⟨e₂,a₂,w₂,hq₂,harr₂⟩:=ih (μ j) (hn▸hlt) j a₁ w₁ rfl hI;exact⟨e₂,a₂,w₂,hq₂,.of_steps (Steps.trans harr (.one step_inLoop)) harr₂⟩
   |exit id=>exact⟨_,a₁,w₁,hq,.pass (x:=.inLoop x) rfl (fun _ _=>.inl (by simp)) harr⟩
   |goto l=>exact⟨_,a₁,w₁,hq,.pass (x:=.inLoop x) rfl (fun _ _=>.inl (by simp)) harr⟩
   |ret=>exact⟨_,a₁,w₁,hq,.pass (x:=.inLoop x) rfl (fun _ _=>.inl (by simp)) harr⟩
   |panic ch=>exact⟨_,a₁,w₁,hq,.pass (x:=.inLoop x) rfl (fun _ _=>.inl (by simp)) harr⟩
   |outgrown=>exact⟨_,a₁,w₁,hq,.pass (x:=.inLoop x) rfl (fun _ _=>.inl (by simp)) harr⟩
 obtain⟨e,a',w',hq,harr⟩:=key _ i0 a w rfl (hs.sub hT hH h1 h2);exact⟨e,a',w',hq,.of_steps (.one step_loop) harr⟩
end
theorem iO.of{T:List (Nat×D)}:∀{l:List (Nat×D)},(l.map fun x=>aM T x.1)=(l.map fun x=>some x.2)->iO T l
 |[],_=>trivial
 |(_,d)::l,h=>by
  simp only[List.map_cons,List.cons.injEq]at h;exact⟨⟨d,h.1,.refl d⟩,iO.of h.2⟩
theorem kY.of{T:List (Nat×Hp)}:∀{l:List (Nat×Hp)},(l.map fun x=>af T x.1)=(l.map fun x=>some x.2)->kY T l
 |[],_=>trivial
 |(_,d)::l,h=>by
  simp only[List.map_cons,List.cons.injEq]at h;exact⟨⟨d,h.1,.refl d⟩,kY.of h.2⟩
theorem iO.k{T:List (Nat×D)}{t:Nat}{d:D}{l:List (Nat×D)}(h:aM T t=some d)(k:iO T l):iO T ((t,d)::l):=⟨⟨d,h,.refl d⟩,k⟩
theorem iO.p{T:List (Nat×D)}{t:Nat}{d d':D}{l:List (Nat×D)}(h:aM T t=some d)(g:Le d d')(k:iO T l):iO T ((t,d')::l):=⟨⟨d,h,g⟩,k⟩
theorem kY.k{T:List (Nat×Hp)}{t:Nat}{d:Hp}{l:List (Nat×Hp)}(h:af T t=some d)(k:kY T l):kY T ((t,d)::l):=⟨⟨d,h,.refl d⟩,k⟩
theorem kY.p{T:List (Nat×Hp)}{t:Nat}{d d':Hp}{l:List (Nat×Hp)}(h:af T t=some d)(g:Gi d d')(k:kY T l):kY T ((t,d')::l):=⟨⟨d,h,g⟩,k⟩
theorem qz.r{ρ:Nat->Nat}{T:List (Nat×D)}{t:Nat}{d:D}{l:List (Nat×D)}(h:aM T t=some d)(g:d.nm=[])(k:qz ρ T l):qz ρ T ((t,d)::l):=⟨⟨d,h,.refl g⟩,k⟩
theorem qz.p{ρ:Nat->Nat}{T:List (Nat×D)}{t:Nat}{d d':D}{l:List (Nat×D)}(h:aM T t=some d)(g:wx ρ d d')(k:qz ρ T l):qz ρ T ((t,d')::l):=⟨⟨d,h,g⟩,k⟩
theorem nY.r{ρ:Nat->Nat}{T:List (Nat×Hp)}{t:Nat}{d:Hp}{l:List (Nat×Hp)}(h:af T (ρ t)=some d)(g:d.nm=[])(k:nY ρ T l):nY ρ T ((t,d)::l):=⟨⟨d,h,.refl g⟩,k⟩
theorem nY.p{ρ:Nat->Nat}{T:List (Nat×Hp)}{t:Nat}{d d':Hp}{l:List (Nat×Hp)}(h:af T (ρ t)=some d)(g:wX ρ d d')(k:nY ρ T l):nY ρ T ((t,d')::l):=⟨⟨d,h,g⟩,k⟩
end Go.Am
namespace Go.Am
open Go.RowKit
def sb(ε:Env)(w:World)(S:ck)(b o:Nat)(l:List D):Prop:=
 ∃(cs:Array Value) (ty:TypeId) (fr:Nat×Nat) (vs:List Value),w.heap[b]?=some (.cells cs ty fr)/\(∀j u,vs[j]?=some u->cs[o+j]?=some u)/\(∀u∈vs,u.oneCell'=true)/\bN ε w S l vs
theorem vC{ε ε':Env}{w w':World}{S S':ck}{b o:Nat}{l:List D}(h:sb ε w S b o l)(hb:S b)(he:∀r∈bD l,ε' r=ε r)(hS:∀k,S k->k<w.heap.size->S' k/\w'.heap[k]?=w.heap[k]?):S' b/\sb ε' w' S' b o l:=by
 obtain⟨cs,ty,fr,vs,h1,h2,h3,h4⟩:=h;have hlt:b<w.heap.size:=(Array.getElem?_eq_some_iff.1 h1).1;exact⟨(hS b hb hlt).1,cs,ty,fr,vs,(hS b hb hlt).2.trans h1,h2,h3,bF hS h4 he⟩
theorem vS{ε:Env}{w:World}{S:ck}{b o:Nat}{l:List D}(h:sb ε w S b o l)(k:Nat):sb ε w S b (o+k) (l.drop k):=by
 obtain⟨cs,ty,fr,vs,h1,h2,h3,h4⟩:=h;refine⟨cs,ty,fr,vs.drop k,h1,fun j u hj=>?_,fun u hu=>h3 u (List.mem_of_mem_drop hu),fl k h4⟩;rw[List.getElem?_drop]at hj;have:=h2 (k+j) u hj
 rwa [←Nat.add_assoc]at this
theorem vp{ε:Env}{w:World}{S:ck}{b o:Nat}{l:List D}(h:sb ε w S b o l)(k:Nat):sb ε w S b o (l.take k):=by
 obtain⟨cs,ty,fr,vs,h1,h2,h3,h4⟩:=h;refine⟨cs,ty,fr,vs.take k,h1,fun j u hj=>h2 j u ?_,fun u hu=>h3 u (List.mem_of_mem_take hu),eP k h4⟩;have hjk:j<k:=by
  have:=(List.getElem?_eq_some_iff.1 hj).1;simp at this;omega
 rwa [List.getElem?_take_of_lt hjk]at hj
theorem wU{l:List D}{k r:Nat}(h:r∈bD (l.drop k)):r∈bD l:=by
 obtain⟨d,hd,hr⟩:=bG.1 h;exact bG.2 ⟨d,List.mem_of_mem_drop hd,hr⟩
theorem wM{l:List D}{k r:Nat}(h:r∈bD (l.take k)):r∈bD l:=by
 obtain⟨d,hd,hr⟩:=bG.1 h;exact bG.2 ⟨d,List.mem_of_mem_take hd,hr⟩
theorem qd{l:List D}(h:bD l=[])(k:Nat):bD (l.drop k)=[]:=by
 cases e:bD (l.drop k)with
 |nil=>rfl
 |cons r _=>have:=wU (l:=l) (k:=k) (r:=r) (by rw[e];simp);rw[h]at this;cases this
theorem eL{l:List D}(h:bD l=[])(k:Nat):bD (l.take k)=[]:=by
 cases e:bD (l.take k)with
 |nil=>rfl
 |cons r _=>have:=wM (l:=l) (k:=k) (r:=r) (by rw[e];simp);rw[h]at this;cases this
theorem sf{l e:List D}{k m:Nat}(h:bD l=[])(he:(l.drop k).take m=e):bD e=[]:=he▸eL (qd h k) m
theorem dB{l m:List D}(h:bD l=[])(k:bD m=[]):bD (l++m)=[]:=by
 induction l with
 |nil=>exact k
 |cons d l ih=>
  simp only[bD,List.append_eq_nil_iff]at h;simp only[List.cons_append,bD,h.1,ih h.2,List.append_nil]
theorem wb{α:Type}{f:α->D}(h:∀x,(f x).nm=[]):∀l:List α,bD (l.map f)=[]
 |[]=>rfl
 |x::l=>by simp only[List.map_cons,bD,h x,wb h l,List.append_nil]
theorem rN{α:Type}{f:α->List D}(h:∀x,bD (f x)=[]):∀l:List α,bD (l.flatMap f)=[]
 |[]=>rfl
 |x::l=>by rw[List.flatMap_cons];exact dB (h x) (rN h l)
theorem Ad{l:List D}{d:D}(h:bD l=[])(k:d.nm=[]):∀i,bD (l.set i d)=[]:=by
 induction l with
 |nil=>intro i;exact h
 |cons e l ih=>
  simp only[bD,List.append_eq_nil_iff]at h;intro i
  cases i with
  |zero=>simp only[List.set_cons_zero,bD,k,h.2,List.append_nil]
  |succ i=>simp only[List.set_cons_succ,bD,h.1,ih h.2 i,List.append_nil]
theorem w9{d:D}(k:d.nm=[]):∀n,bD (List.replicate n d)=[]
 |0=>rfl
 |n+1=>by simp only[List.replicate_succ,bD,k,w9 k n,List.append_nil]
namespace D
def ptr(l:List D)(hl:bD l=[]):D where
 p:=fun ε w S v=>∃b o,v=.pointer (some ⟨b,o,none⟩)/\S b/\sb ε w S b o l
 nm:=[]
 sh:=.one
 mono:=fun⟨b,o,e,hb,h⟩ _ hS=>by
  obtain⟨hb',h'⟩:=vC h hb (by rw[hl];intro r hr;cases hr) hS;exact⟨b,o,e,hb',h'⟩
 ji:=fun⟨_,_,e,_⟩=>by subst e;rfl
def jm(n m:Nat)(l:List D)(hl:bD l=[]):D where
 p:=fun ε w S v=>∃A cap,v=.slice A n cap/\n<=cap/\l.length=n*m/\(n=0\/∃b o,A=some ⟨b,o,none⟩/\S b/\sb ε w S b o l)
 nm:=[]
 sh:=.one
 mono:=fun⟨A,cap,e,hc,hln,h⟩ _ hS=>by
  refine⟨A,cap,e,hc,hln,h.imp id ?_⟩;rintro⟨b,o,eA,hb,h⟩;obtain⟨hb',h'⟩:=vC h hb (by rw[hl];intro r hr;cases hr) hS;exact⟨b,o,eA,hb',h'⟩
 ji:=fun⟨_,_,e,_⟩=>by subst e;rfl
end D
def sle(P:Program)(t:TypeId):Option Nat:=
 match P.underlying t with
 |some (.slice e)=>(P.info? e).map (·.size)
 |_=>none
theorem mQ{P:Program}{t:TypeId}{m:Nat}(h:sle P t=some m):∃e,P.underlying t=some (.slice e)/\∀w,(sizeOf e).run P w=.ok m w:=by
 unfold sle at h
 split at h
 ·rename_i e he
  cases hi:P.info? e with
  |none=>simp[hi]at h
  |some i=>
   simp[hi]at h;exact⟨e,he,fun w=>by simp[sizeOf,typeInfo,hi,h]⟩
 ·cases h
section
variable {P:Program} {os:List Oper} {c:Ctx} {T T':List (Nat×D)} {H H':List (Nat×Hp)} {sps:List Spec}
variable {ops:Array Oper} {dst:Option Nat} {ty:TypeId} {pos:String} {aft:Array Edge}
theorem iI{t:TypeId}{m:Nat}(ht:sle P t=some m)(b o n cap:Nat)(k:IntKind)(z:Int)(h0:0<=z)(h1:z<n)(w:World):
  (Instr.indexAt t (.slice (some ⟨b,o,none⟩) n cap) (.int k z)).run P w=.ok (.pointer (some ⟨b,o+z.toNat*m,none⟩)) w:=by
 obtain⟨e,he,hs⟩:=mQ ht;have hz:0<=z/\z<(n:Int):=⟨h0,h1⟩;simp[Instr.indexAt,asIntOf,run_underlying he,hs,hz,gS]
theorem ai.Jh{t:TypeId}{x y:Operand}{n m:Nat}{l:List D}{hl:bD l=[]}{k:IntKind}{z:Int}(e:List D)(hx:ev T x=some (.jm n m l hl))(hy:ev T y=some (.int k z))(ht:sle P t=some m)(h0:0<=z)(h1:z<n)
  (he:(l.drop (z.toNat*m)).take m=e)(hr:ai P ops c os (bg T dst (.ptr e (sf hl he))) H sps T' H'):
  ai P ops c (⟨dst,.indexAddr t x y,ty,pos,aft,none⟩::os) T H (ps [(x,.jm n m l hl),(y,.int k z)] (.ptr e (sf hl he))::sps) T' H':=
 .pure [(x,.jm n m l hl),(y,.int k z)] rfl (two hx hy) (kb rfl) (fun ε w S a ha=>by
  obtain⟨A,cap,h2,_,_,hl⟩:=ha (x,.jm n m l hl) (by simp);have h3:a.eval y=.int k z:=ha (y,.int k z) (by simp);dsimp only at h2;rcases hl with hl|⟨b,o,eA,hb,hl⟩
  ·omega
  ·subst eA;refine⟨_,by simp only[execOp,h2,h3,Sem.run_bind,iI ht b o n cap k z h0 h1 w,Result.andThen_ok];rfl,b,_,rfl,hb,?_⟩;subst he;exact vp (vS hl _) m) hr
theorem we{l:List D}{k:Nat}{d:D}(h:l[k]?=some d):(l.drop (k*1)).take 1=[d]:=by
 rw[Nat.mul_one];obtain⟨hlt,he⟩:=List.getElem?_eq_some_iff.1 h;rw[List.drop_eq_getElem_cons hlt,he];rfl
theorem ai.pV{t:TypeId}{x y:Operand}{n:Nat}{l:List D}{hl:bD l=[]}{k:IntKind}{z:Int}{d:D}(hx:ev T x=some (.jm n 1 l hl))(hy:ev T y=some (.int k z))(ht:sle P t=some 1)(h0:0<=z)(h1:z<n)
  (he:l[z.toNat]?=some d)(hr:ai P ops c os (bg T dst (.ptr [d] (sf hl (we he)))) H sps T' H'):
  ai P ops c (⟨dst,.indexAddr t x y,ty,pos,aft,none⟩::os) T H (ps [(x,.jm n 1 l hl),(y,.int k z)] (.ptr [d] (sf hl (we he)))::sps) T' H':=
 .Jh [d] hx hy ht h0 h1 (we he) hr
theorem ot{ε:Env}{w:World}{S:ck}{b o:Nat}{l:List D}(h:sb ε w S b o l):∃vs:List Value,(∀j u,vs[j]?=some u->w.cell? ⟨b,o+j,none⟩=some u)/\(∀u∈vs,u.oneCell'=true)/\bN ε w S l vs:=by
 obtain⟨cs,ty,fr,vs,h1,h2,h3,h4⟩:=h;exact⟨vs,fun j u hj=>by simpa [World.cell?,h1]using h2 j u hj,h3,h4⟩
theorem ai.iJ{t:TypeId}{x:Operand}{d:D}{l:List D}{hn:bD (d::l)=[]}(hx:ev T x=some (.ptr (d::l) hn))(hl:lay P t=some none)(hr:ai P ops c os (bg T dst d) H sps T' H'):
  ai P ops c (⟨dst,.load t x,ty,pos,aft,none⟩::os) T H (ps [(x,.ptr (d::l) hn)] d::sps) T' H':=
 .pure [(x,.ptr (d::l) hn)] rfl (by simpa using hx) (kb (by simp only[bD,List.append_eq_nil_iff]at hn;exact hn.1)) (fun ε w S a ha=>by
  obtain⟨b,o,h1,_,h2⟩:=ha (x,.ptr (d::l) hn) (by simp);dsimp only at h1;obtain⟨vs,h3,_,h5⟩:=ot h2
  match vs,h5 with
  |v::vs,h5=>
   refine⟨v,?_,h5.1⟩;have:=h3 0 v rfl;rw[Nat.add_zero]at this;simp only[execOp,h1,Instr.loadAt,Instr.sureAddr,Sem.run_bind,Sem.run_pure,Result.andThen_ok,loadVar,(iT hl w).1,Bool.false_eq_true,if_false,run_load,this]) hr
theorem ai.JN{t:TypeId}{x:Operand}{n:Nat}{l:List D}{hnm:bD l=[]}(hx:ev T x=some (.ptr l hnm))(hl:lay P t=some (some n))(hn:Nat.ble n l.length=true)(hr:ai P ops c os (bg T dst (.agg (l.take n))) H sps T' H'):
  ai P ops c (⟨dst,.load t x,ty,pos,aft,none⟩::os) T H (ps [(x,.ptr l hnm)] (.agg (l.take n))::sps) T' H':=
 .pure [(x,.ptr l hnm)] rfl (by simpa using hx) (kb (eL hnm n)) (fun ε w S a ha=>by
  obtain⟨b,o,h1,_,h2⟩:=ha (x,.ptr l hnm) (by simp);dsimp only at h1;obtain⟨vs,h3,h4,h5⟩:=ot h2;have hlen:=aL h5;have hn':=Nat.le_of_ble_eq_true hn;have hq:(vs.take n).length=n:=by simp;omega
  have hld:=run_loadCells_list (P:=P) w ⟨b,o,none⟩ (vs.take n) (fun j v hv=>by
   have hj:j<n:=by have:=(List.getElem?_eq_some_iff.1 hv).1;omega
   rw[gS];rw[List.getElem?_take_of_lt hj]at hv;exact h3 j v hv)
  rw[hq]at hld;refine⟨.agg (vs.take n).toArray,?_,vs.take n,rfl,fun u hu=>h4 u (List.mem_of_mem_take hu),eP n h5⟩;simp only[execOp,h1,Instr.loadAt,Instr.sureAddr,Sem.run_bind,Sem.run_pure,Result.andThen_ok,loadVar,(gI hl w).1,(gI hl w).2,if_true,hld]) hr
def isSlice(P:Program)(t:TypeId):Bool:=match P.underlying t with|some (.slice _)=>true|_=>false
def isStr(P:Program)(t:TypeId):Bool:=match P.underlying t with|some .string=>true|_=>false
theorem pZ{t:TypeId}(h:isSlice P t=true)(A:Option Addr)(n cap:Nat)(w:World):(Builtin.len_ #[t] ty #[.slice A n cap]).run P w=.ok (.int .i64 n) w:=by
 unfold isSlice at h
 split at h<;>try cases h
 rename_i e he;simp[Builtin.len_,run_underlying he,goInt]
theorem jw{t:TypeId}{x:Operand}(a:Act)(w:World){v:Value}(h:(Builtin.len_ #[t] ty #[a.eval x]).run P w=.ok v w):
  (execOp a.eval ⟨dst,.call {callee:=.builtin .len,args:=#[x],argTypes:=#[t]},ty,pos,aft,none⟩).run P w=.ok (.value v) w:=by
 simp only[execOp,resolve,Sem.run_bind,Sem.run_pure,Result.andThen_ok,invoke,builtin,List.map_toArray,List.map_cons,List.map_nil,h]
theorem ai.ln{t:TypeId}{x:Operand}{n m:Nat}{l:List D}{hl:bD l=[]}(hx:ev T x=some (.jm n m l hl))(ht:isSlice P t=true)(hr:ai P ops c os (bg T dst (.int .i64 n)) H sps T' H'):
  ai P ops c (⟨dst,.call {callee:=.builtin .len,args:=#[x],argTypes:=#[t]},ty,pos,aft,none⟩::os) T H (ps [(x,.jm n m l hl)] (.int .i64 n)::sps) T' H':=
 .pure [(x,.jm n m l hl)] rfl (by simpa using hx) (kb rfl) (fun ε w S a ha=>by
  obtain⟨A,cap,h1,_⟩:=ha (x,.jm n m l hl) (by simp);dsimp only at h1;exact⟨_,jw a w (by rw[h1];exact pZ ht A n cap w),rfl⟩) hr
theorem ai.Jj{t:TypeId}{x:Operand}{s:ByteArray}(hx:ev T x=some (.str s))(ht:isStr P t=true)(hr:ai P ops c os (bg T dst (.int .i64 s.size)) H sps T' H'):
  ai P ops c (⟨dst,.call {callee:=.builtin .len,args:=#[x],argTypes:=#[t]},ty,pos,aft,none⟩::os) T H (ps [(x,.str s)] (.int .i64 s.size)::sps) T' H':=
 .pure [(x,.str s)] rfl (by simpa using hx) (kb rfl) (fun ε w S a ha=>by
  have h1:a.eval x=.string s:=ha (x,.str s) (by simp);refine⟨_,jw a w (by
   rw[h1];unfold isStr at ht
   split at ht<;>try cases ht
   rename_i he;simp[Builtin.len_,run_underlying he,goInt]),rfl⟩) hr
def C_(d:D)(l:List D):Prop:=(∀ε w S v,d.p ε w S v->∃vs:List Value,v.cells.toList=vs/\(∀u∈vs,u.oneCell'=true)/\bN ε w S l vs)/\∀r∈bD l,r∈d.nm
theorem C_.agg(l:List D):C_ (.agg l) l:=⟨fun _ _ _ _ ⟨cs,e,h1,h⟩=>⟨cs,by rw[e];simp[Value.cells],h1,h⟩,fun _ h=>h⟩
theorem C_.one{d:D}(h:d.sh=.one):C_ d [d]:=⟨fun ε w S v hp=>by
 have ho:v.oneCell'=true:=by have:=d.ji hp;rw[h]at this;exact this
 exact⟨[v],by rw[qO ho],by simpa using ho,hp,trivial⟩,fun r hr=>by simpa [bD]using hr⟩
def Gr{α:Type}(l:List α)(off:Nat)(m:List α):List α:=l.take off++m++l.drop (off+m.length)
theorem A_(cells:Array Value)(off:Nat):∀(vs:List Value) (i:Nat),off+i+vs.length<=cells.size->
  ((vs.zipIdx i).foldl (fun cs (x:Value×Nat)=>cs.setIfInBounds (off+x.2) x.1) cells).toList=cells.toList.take (off+i)++vs++cells.toList.drop (off+i+vs.length):=by
 intro vs
 induction vs generalizing cells with
 |nil=>intro i _;simp
 |cons v vs ih=>
  intro i hi;simp only[List.zipIdx_cons,List.foldl_cons];rw[ih _ _ (by simp at hi|-;omega)];have e:=list_seg_step cells.toList (off+i) v vs (by simp at hi|-;omega);simpa [Array.toList_setIfInBounds,Nat.add_assoc]using e
def over(z:List D):List (Nat×Operand×D×List D)->List D
 |[]=>z
 |(o,_,_,m)::l=>over (Gr z o m) l
theorem mu{ε:Env}{w:World}{S:ck}{a:Act}{place:Nat->Option (Nat×Nat)}:∀{parts:List (Nat×Operand)} {q:List (Nat×Operand×D×List D)} {z:List D} {cs:Array Value},
  parts.length=q.length->(∀(i:Nat) (p:Nat×Operand) (x:Nat×Operand×D×List D),parts[i]?=some p->q[i]?=some x->p.2=x.2.1/\place p.1=some (x.1,x.2.2.2.length)/\C_ x.2.2.1 x.2.2.2/\x.1+x.2.2.2.length<=z.length)->
  bN ε w S z cs.toList->(∀u∈cs.toList,u.oneCell'=true)->(∀x∈q,x.2.2.1.p ε w S (a.eval x.2.1))->
  ∃cs':Array Value,Instr.fill place cs (parts.map fun(i,x)=>(i,a.eval x))=some cs'/\bN ε w S (over z q) cs'.toList/\(∀u∈cs'.toList,u.oneCell'=true)
 |[],[],z,cs,_,_,hz,h1,_=>⟨cs,rfl,hz,h1⟩
 |(i,x)::parts,(o,y,d,m)::q,z,cs,hl,h,hz,h1,hq=>by
  obtain⟨e,hp,hc,hlen⟩:=h 0 _ _ rfl rfl;simp only at e hp hc hlen;subst e;obtain⟨vs,hvs,hv1,hvm⟩:=hc.1 ε w S _ (hq (o,x,d,m) (by simp));have hml:=aL hvm;have hzl:=aL hz;have hsz:(a.eval x).cells.size=m.length:=by rw[←hml,←hvs,Array.length_toList]
  have hfit:o+vs.length<=cs.size:=by rw[hml,←Array.length_toList,hzl];exact hlen
  have hset:=A_ cs o vs 0 (by simpa using hfit);simp only[Nat.add_zero]at hset;have hzip:(a.eval x).cells.zipIdx.foldl (fun cs (c,j)=>cs.setIfInBounds (o+j) c) cs=(cs.toList.take o++vs++cs.toList.drop (o+vs.length)).toArray:=by
   apply Array.ext';rw[←Array.foldl_toList,Array.toList_zipIdx,hvs];exact hset
  obtain⟨cs',hf,ha,ho⟩:=mu (place:=place) (parts:=parts) (q:=q) (z:=Gr z o m) (cs:=(cs.toList.take o++vs++cs.toList.drop (o+vs.length)).toArray) (by simpa using hl)
   (fun k p x' hk hk'=>by
    have:=h (k+1) p x' (by simpa using hk) (by simpa using hk');refine⟨this.1,this.2.1,this.2.2.1,?_⟩;have h4:=this.2.2.2;simp only[Gr,List.length_append,List.length_take,List.length_drop];omega)
   (by
    simp only[Gr,←hml];exact bR (bR (eP o hz) hvm) (fl _ hz))
   (by
    intro u hu;simp only[List.mem_append]at hu;rcases hu with(hu|hu)|hu
    ·exact h1 u (List.mem_of_mem_take hu)
    ·exact hv1 u hu
    ·exact h1 u (List.mem_of_mem_drop hu))
   (fun x' hx'=>hq x' (by simp[hx']))
  refine⟨cs',?_,ha,ho⟩;simp only[List.map_cons,Instr.fill,hp,hsz];rw[if_neg (by simp only[hml]at hfit;simp;omega)];rw[hzip];exact hf
 |[],_::_,_,_,hl,_,_,_,_=>by simp at hl
 |_::_,[],_,_,hl,_,_,_,_=>by simp at hl
def EV(P:Program)(t:TypeId):Option (List (Nat×Nat)):=
 match P.underlying t with
 |some (.struct fs)=>fs.toList.mapM (fun f=>(P.info? f.type).map fun i=>(f.offset,i.size))
 |_=>none
def iQ(pl:List (Nat×Nat))(n:Nat):List (Nat×Operand)->List (Nat×Operand×D×List D)->Prop
 |[],[]=>True
 |(i,x)::p,(o,y,d,m)::q=>x=y/\pl[i]?=some (o,m.length)/\C_ d m/\Nat.ble (o+m.length) n=true/\iQ pl n p q
 |_,_=>False
theorem j2{pl:List (Nat×Nat)}{n:Nat}:∀{p:List (Nat×Operand)} {q:List (Nat×Operand×D×List D)},iQ pl n p q->p.length=q.length/\
  ∀(i:Nat) (u:Nat×Operand) (x:Nat×Operand×D×List D),p[i]?=some u->q[i]?=some x->u.2=x.2.1/\pl[u.1]?=some (x.1,x.2.2.2.length)/\C_ x.2.2.1 x.2.2.2/\x.1+x.2.2.2.length<=n
 |[],[],_=>⟨rfl,fun i u x h=>by simp at h⟩
 |(i,x)::p,(o,y,d,m)::q,h=>by
  obtain⟨h1,h2,h3,h4,h5⟩:=h;obtain⟨hl,hg⟩:=j2 h5;refine⟨by simp[hl],fun k u z hk hk'=>?_⟩
  cases k with
  |zero=>simp at hk hk';subst hk;subst hk';exact⟨h1,h2,h3,Nat.le_of_ble_eq_true h4⟩
  |succ k=>exact hg k u z (by simpa using hk) (by simpa using hk')
 |[],_::_,h=>h.elim
 |_::_,[],h=>h.elim
def qs(q:List (Nat×Operand×D×List D)):List (Operand×D):=q.map fun x=>(x.2.1,x.2.2.1)
theorem ET{z m:List D}{o r:Nat}(h:r∈bD (Gr z o m)):r∈bD z\/r∈bD m:=by
 obtain⟨d,hd,hr⟩:=bG.1 h;simp only[Gr,List.mem_append]at hd;rcases hd with(hd|hd)|hd
 ·exact .inl (bG.2 ⟨d,List.mem_of_mem_take hd,hr⟩)
 ·exact .inr (bG.2 ⟨d,hd,hr⟩)
 ·exact .inl (bG.2 ⟨d,List.mem_of_mem_drop hd,hr⟩)
theorem xx{r:Nat}:∀{q:List (Nat×Operand×D×List D)} {z:List D},(∀x∈q,C_ x.2.2.1 x.2.2.2)->r∈bD (over z q)->r∈bD z\/∃x∈qs q,r∈x.2.nm
 |[],z,_,h=>.inl h
 |(o,x,d,m)::q,z,hc,h=>by
  rcases xx (q:=q) (z:=Gr z o m) (fun y hy=>hc y (by simp[hy])) h with h|⟨y,hy,hr⟩
  ·rcases ET h with h|h
   ·exact .inl h
   ·exact .inr ⟨(x,d),by simp[qs],(hc (o,x,d,m) (by simp)).2 r h⟩
  ·exact .inr ⟨y,by simp only[qs,List.map_cons,List.mem_cons];exact .inr hy,hr⟩
theorem CQ{t:TypeId}{z:List D}(h:Bu P t=some z):∃v:Value,(∀w,(zeroValue t).run P w=.ok v w)/\z=v.cells.toList.map B4/\∀u∈v.cells.toList,u.oneCell'=true:=by
 unfold Bu at h
 cases hi:P.info? t with
 |none=>simp[hi]at h
 |some i=>
  cases hv:i.zero with
  |none=>simp[hi,hv]at h
  |some v=>
   simp only[hi,hv]at h
   split at h
   ·rename_i h1;injection h with h;exact⟨v,fun w=>by simp[zeroValue,typeInfo,hi,hv],h.symm,fun u hu=>Array.all_eq_true_iff_forall_mem.1 h1 u (by simpa using hu)⟩
   ·cases h
theorem ai.bd{t:TypeId}{parts:List (Nat×Operand)}{z:List D}{pl:List (Nat×Nat)}(q:List (Nat×Operand×D×List D))(hz:Bu P t=some z)(hp:EV P t=some pl)(hq:iQ pl z.length parts q)(he:∀x∈qs q,ev T x.1=some x.2)
  (hr:ai P ops c os (bg T dst (.agg (over z q))) H sps T' H'):
  ai P ops c (⟨dst,.build t parts.toArray,ty,pos,aft,none⟩::os) T H (ps (qs q) (.agg (over z q))::sps) T' H':=by
 obtain⟨v,hv,ez,h1⟩:=CQ hz;obtain⟨hl,hg⟩:=j2 hq;have hcl:∀x∈q,C_ x.2.2.1 x.2.2.2:=by
  intro x hx;obtain⟨i,hi⟩:=List.getElem?_of_mem hx;have hil:i<parts.length:=by rw[hl];exact(List.getElem?_eq_some_iff.1 hi).1
  exact(hg i _ x (List.getElem?_eq_getElem hil) hi).2.2.1
 refine .pure (qs q) rfl he (fun r hr=>?_) (fun ε w S a ha=>?_) hr
 ·rcases xx hcl (show r∈bD (over z q)from hr)with h|h
  ·rw[ez,wN]at h;cases h
  ·exact h
 ·have hz0:bN ε w S z v.cells.toList:=by rw[ez];exact jb _ _ _ _
  obtain⟨cs',hf,hA,hO⟩:=mu (a:=a) (place:=fun i=>pl[i]?) hl (fun i u x hu hx=>by
   have:=hg i u x hu hx;exact this) hz0 h1 (fun x hx=>ha (x.2.1,x.2.2.1) (List.mem_map.2 ⟨x,hx,rfl⟩))
  refine⟨.agg cs',?_,cs'.toList,by simp,hO,hA⟩;unfold EV at hp
  split at hp
  ·rename_i fs hu;have hf':Instr.fill (fun i=>pl[i]?) v.cells (parts.map fun x=>(x.1,a.eval x.2))=some cs':=hf;simp only[execOp,Instr.build,hv,run_underlying hu,Sem.run_bind,Result.andThen_ok];simp[Array.mapM_eq_mapM_toList,run_places w _ _ hp,hf']
  ·cases hp
end
end Go.Am
namespace Go.Am
open Go.RowKit
def noBlocks:ck:=fun _=>False
def Hp.row(m:Nat)(ty:TypeId)(l:List D)(hl:bD l=[]):Hp where
 p:=fun ε w S b F=>(l=[]/\b=.slice none 0 0/\F=noBlocks)\/
  ∃(g n cap:Nat) (cs rest:List Value),b=.slice (some ⟨g,0,none⟩) n cap/\F=only g/\w.heap[g]?=some (.cells (cs++rest).toArray ty (0,0))/\(∀u∈cs,u.oneCell'=true)/\(cs++rest).length=cap*m/\cap<=maxLen/\l.length=n*m/\bN ε w S l cs
 nm:=[]
 mono:=fun h _ hS hF=>by
  rcases h with h|⟨g,n,cap,cs,rest,h1,h2,h3,h4,h5,h8,h6,h7⟩
  ·exact .inl h
  ·exact .inr ⟨g,n,cap,cs,rest,h1,h2,(hF g (by rw[h2];rfl)).trans h3,h4,h5,h8,h6,bF hS h7 (by rw[hl];intro r hr;cases hr)⟩
def Hp.dead:Hp where
 p:=fun _ _ _ _ F=>F=noBlocks
 nm:=[]
 mono:=fun h _ _ _=>h
def oj(P:Program)(t:TypeId):Option (TypeId×Nat×Nat×List D):=
 match P.underlying t with
 |some (.slice e)=>match P.info? e with
  |some i=>match i.zero with
   |some v=>if v.cells.all (·.oneCell')&&v.cells.size==i.size&&Nat.blt 0 i.size then some (e,i.size,i.bytes,v.cells.toList.map B4)else none
   |none=>none
  |none=>none
 |_=>none
theorem gh{P:Program}{t e:TypeId}{m b:Nat}{z:List D}(h:oj P t=some (e,m,b,z)):∃(i:TypeInfo) (v:Value),P.underlying t=some (.slice e)/\P.info? e=some i/\i.zero=some v/\i.size=m/\i.bytes=b/\z=v.cells.toList.map B4/\(∀u∈v.cells.toList,u.oneCell'=true)/\v.cells.size=m/\0<m:=by
 unfold oj at h
 split at h<;>try cases h
 rename_i e' he
 split at h<;>try cases h
 rename_i i hi
 split at h<;>try cases h
 rename_i v hv
 split at h
 ·rename_i hc;simp only[Option.some.injEq,Prod.mk.injEq]at h;obtain⟨rfl,rfl,rfl,rfl⟩:=h;simp only[Bool.and_eq_true,beq_iff_eq,Nat.blt_eq]at hc;exact⟨i,v,he,hi,hv,rfl,rfl,rfl,fun u hu=>Array.all_eq_true_iff_forall_mem.1 hc.1.1 u (by simpa using hu),hc.1.2,hc.2⟩
 ·cases h
theorem eZ{z:Array Value}{m:Nat}(hz:z.size=m)(hm:0<m):∀n,(madeCells z (n*m)).toList=(List.replicate n z.toList).flatten
 |0=>by simp[madeCells]
 |n+1=>by
  have ih:=eZ hz hm n;have e:(n+1)*m=m+n*m:=by rw[Nat.succ_mul,Nat.add_comm]
  simp only[madeCells,Array.toList_map,Array.toList_range]at ih|-;rw[e,List.range_add,List.map_append,List.map_map,List.replicate_succ,List.flatten_cons,←ih]
  congr 1
  ·apply List.ext_getElem
   ·simp[hz]
   ·intro i h1 h2;simp at h1 h2;simp only[List.getElem_map,List.getElem_range,hz,Nat.mod_eq_of_lt h1,Array.getElem_toList];exact getElem!_pos z i (by simpa using h2)
  ·apply List.map_congr_left;intro i _;simp[hz]
theorem fI{ε:Env}{w:World}{S:ck}{z:List D}{vs:List Value}(h:bN ε w S z vs):∀n,bN ε w S (List.replicate n z).flatten (List.replicate n vs).flatten
 |0=>trivial
 |n+1=>by
  rw[List.replicate_succ,List.replicate_succ,List.flatten_cons,List.flatten_cons];exact bR h (fI h n)
theorem gB{α:Type}(z:List α):∀n,(List.replicate n z).flatten.length=n*z.length
 |0=>by simp
 |n+1=>by rw[List.replicate_succ,List.flatten_cons,List.length_append,gB z n,Nat.succ_mul,Nat.add_comm]
theorem AI{α:Type}(d:α):∀n,(List.replicate n [d]).flatten=List.replicate n d
 |0=>rfl
 |n+1=>by rw[List.replicate_succ,List.flatten_cons,AI d n,List.replicate_succ];rfl
section
variable {P:Program} {os:List Oper} {c:Ctx} {T T':List (Nat×D)} {H H':List (Nat×Hp)} {sps:List Spec}
variable {ops:Array Oper} {dst:Option Nat} {ty:TypeId} {pos:String} {aft:Array Edge}
def rws(xs:List (Operand×D))(r:Nat)(h:Hp):Spec:={ins:=xs.flatMap fun x=>eN x.1 x.2,cY:=[],out:=.own r,cZ:=[(r,h)],news:=[r]}
theorem ai.Jv{t e:TypeId}{r m b n:Nat}{x y:Operand}{z l:List D}{hl:bD l=[]}(hx:ev T x=some (.int .i64 n))(hy:ev T y=some (.int .i64 n))(hm:oj P t=some (e,m,b,z))(hb:b*n<=281474976710656)(hn:n<=9223372036854775807)(hf:af H r=none)
  (he:(List.replicate n z).flatten=l)(hr:ai P ops c os ((r,.own r)::T) ((r,.row m e l hl)::H) sps T' H'):
  ai P ops c (⟨some r,.makeSlice t x y,ty,pos,aft,none⟩::os) T H (rws [(x,.int .i64 n),(y,.int .i64 n)] r (.row m e l hl)::sps) T' H':=by
 refine .cons (sp:=rws [(x,.int .i64 n),(y,.int .i64 n)] r (.row m e l hl)) ?_ (eI (two hx hy)) trivial ⟨hf,trivial⟩ hr;intro hd T0 H0 hi _ hnew a w ⟨ε,φ,hs⟩ Q K hK;rw[if_pos (a_ rfl _)];have hxs:=cJ hi;have h1:a.eval x=.int .i64 n:=(hs.ev (hxs (x,.int .i64 n) (by simp)) (aw hx).2).1;have h2:a.eval y=.int .i64 n:=(hs.ev (hxs (y,.int .i64 n) (by simp)) (aw hy).2).1;obtain⟨i,v,hu,hinf,hzv,hsz,hbz,ez,hv1,hvs,hm0⟩:=gh hm;have hb':(i.bytes:Int)*(n:Int)<=281474976710656:=by
  have h:((b*n:Nat):Int)<=281474976710656:=by omega
  rw[hbz];rwa [Int.natCast_mul]at h
 have hrun:=run_make (P:=P) w t e i v hu hinf hzv .i64 .i64 n n (by omega) (Int.le_refl _) hb' (by omega);simp only[Int.toNat_natCast,hsz]at hrun;have hex:(execOp a.eval ⟨some r,.makeSlice t x y,ty,pos,aft,none⟩).run P w=.ok (.value (.slice (some ⟨w.heap.size,0,none⟩) n n)) (w.alloc (.cells (madeCells v.cells (n*m)) e)):=by
  simp only[execOp,h1,h2,Sem.run_bind,hrun,Result.andThen_ok]
  rfl
 simp only[Oper.wp,hex,Oper.upon];have hcs:=eZ hvs hm0 n;have hall:∀(ε:Env) (w:World) (S:ck),bN ε w S l (List.replicate n v.cells.toList).flatten:=by
  intro ε w S;rw[←he,ez];exact fI (jb _ _ _ _) n
 have hN:=hs.lB (x:=.row m e l hl) (b:=.slice (some ⟨w.heap.size,0,none⟩) n n) (F:=only w.heap.size) (w':=w.alloc (.cells (madeCells v.cells (n*m)) e)) (r:=r) hnew.1 ((Below.refl _ _).alloc (Nat.le_refl _) _)
  (fun k hk=>by simp only[only]at hk;subst hk;simp)
  (.inr ⟨w.heap.size,n,n,(List.replicate n v.cells.toList).flatten,[],rfl,rfl,by rw[ia,List.append_nil,←hcs],(by
   intro u hu;simp only[List.mem_flatten,List.mem_replicate]at hu;obtain⟨l',⟨_,rfl⟩,hu⟩:=hu;exact hv1 u hu),by rw[List.append_nil,gB,Array.length_toList,hvs],by unfold maxLen;omega,by rw[←he,gB,ez,List.length_map,Array.length_toList,hvs],hall _ _ _⟩) (fun r' hr'=>by cases hr')
 exact hK _ _ ⟨_,_,hN.put (dst:=some r) (d:=.own r) (cU hd) ⟨(aq _ _ _).symm,rfl⟩ (by simp[D.own,bu,aq])⟩
theorem ai.Gs{t e:TypeId}{r b n:Nat}{x y:Operand}{z:D}(hx:ev T x=some (.int .i64 n))(hy:ev T y=some (.int .i64 n))(hm:oj P t=some (e,1,b,[z]))(hz:z.nm=[])(hb:b*n<=281474976710656)(hn:n<=9223372036854775807)(hf:af H r=none)
  (hr:ai P ops c os ((r,.own r)::T) ((r,.row 1 e (List.replicate n z) (w9 hz n))::H) sps T' H'):
  ai P ops c (⟨some r,.makeSlice t x y,ty,pos,aft,none⟩::os) T H (rws [(x,.int .i64 n),(y,.int .i64 n)] r (.row 1 e (List.replicate n z) (w9 hz n))::sps) T' H':=
 .Jv hx hy hm hb hn hf (AI z n) hr
def AX(xs:List (Operand×D))(r:Nat)(h:Hp)(out:D):Spec:={ins:=xs.flatMap fun x=>eN x.1 x.2,cY:=[(r,h)],out:=out,cZ:=[],news:=[]}
theorem ai.ask{o:Oper}{xs:List (Operand×D)}{r:Nat}{h:Hp}{d:D}(hg:o.guard=none)(he:∀x∈xs,ev T x.1=some x.2)(hh:af H r=some h)(hnm:∀r'∈d.nm,r'=r\/(∃x∈xs,r'∈x.2.nm))
  (hrun:∀(ε:Env) (w:World) (S:ck) (a:Act) (F:ck),(∀x∈xs,x.2.p ε w S (a.eval x.1))->h.p ε w S (ε r) F->∃v,(execOp a.eval o).run P w=.ok (.value v) w/\d.p ε w S v)
  (hr:ai P ops c os (bg T o.dst d) H sps T' H'):ai P ops c (o::os) T H (AX xs r h d::sps) T' H':=by
 refine .cons (sp:=AX xs r h d) ?_ (eI he) ⟨hh,trivial⟩ trivial hr;intro hd T0 H0 hi cY _ a w ⟨ε,φ,hs⟩ Q K hK;rw[if_pos (a_ hg _)];have hxs:=cJ hi;obtain⟨v,hv,hp⟩:=hrun ε w (al c H0 φ) a (φ r) (fun x hx=>(hs.ev (hxs x hx) (aw (he x hx)).2).1) (hs.h r h cY.1);simp only[Oper.wp,hv,Oper.upon];refine hK _ _ ⟨ε,φ,hs.put (d:=d) (cU hd) hp (fun r' hr'=>?_)⟩;rcases hnm r' hr' with e|⟨x,hx,hrx⟩
 ·subst e;show H0 r'≠none;rw[cY.1];simp
 ·exact(hs.ev (hxs x hx) (aw (he x hx)).2).2 r' hrx
theorem ai.qH{t e:TypeId}{x y:Operand}{r n m m':Nat}{l:List D}{hl:bD l=[]}{k:IntKind}{z:Int}(hx:ev T x=some (.own r))(hy:ev T y=some (.int k z))(hh:af H r=some (.row m e l hl))(ht:sle P t=some m)(hn:l.length=n*m')(hm':Nat.beq m m'=true)(hm:Nat.blt 0 m=true)(h0:0<=z)(h1:z<n)
  (hr:ai P ops c os (bg T dst (.ref r (z.toNat*m))) H sps T' H'):
  ai P ops c (⟨dst,.indexAddr t x y,ty,pos,aft,none⟩::os) T H (AX [(x,.own r),(y,.int k z)] r (.row m e l hl) (.ref r (z.toNat*m))::sps) T' H':=
 .ask rfl (two hx hy) hh (fun r' hr'=>.inl (by simpa [D.ref]using hr')) (fun ε w S a F ha hp=>by
  have h2:a.eval x=ε r:=(ha (x,.own r) (by simp)).1;have h3:a.eval y=.int k z:=ha (y,.int k z) (by simp);have hmm:=Nat.eq_of_beq_eq_true hm';subst hmm;have hm0:0<m:=by simpa using hm
  rcases hp with⟨h,_,_⟩|⟨g,n',cap,cs,rest,hb,_,_,_,_,_,hln,_⟩
  ·subst h;rcases Nat.mul_eq_zero.1 (show n*m=0 from hn.symm)with hn|hn<;>omega
  ·have hnn:n'=n:=by
    have:=hln.symm.trans hn;exact Nat.eq_of_mul_eq_mul_right hm0 this
   subst hnn;refine⟨.pointer (some ⟨g,z.toNat*m,none⟩),?_,?_⟩
   ·simp only[execOp,h2,hb,h3,Sem.run_bind,iI ht g 0 n' cap k z h0 h1 w,Result.andThen_ok,Nat.zero_add]
    rfl
   ·simp[D.ref,hb,j3]) hr
theorem ai.HC{t e:TypeId}{x:Operand}{r n m m':Nat}{l:List D}{hl:bD l=[]}(hx:ev T x=some (.own r))(hh:af H r=some (.row m e l hl))(ht:isSlice P t=true)(hn:l.length=n*m')(hm':Nat.beq m m'=true)(hm:Nat.blt 0 m=true)
  (hr:ai P ops c os (bg T dst (.int .i64 n)) H sps T' H'):
  ai P ops c (⟨dst,.call {callee:=.builtin .len,args:=#[x],argTypes:=#[t]},ty,pos,aft,none⟩::os) T H (AX [(x,.own r)] r (.row m e l hl) (.int .i64 n)::sps) T' H':=
 .ask rfl (by simpa using hx) hh (fun r' hr'=>by cases hr') (fun ε w S a F ha hp=>by
  have h2:a.eval x=ε r:=(ha (x,.own r) (by simp)).1;have hmm:=Nat.eq_of_beq_eq_true hm';subst hmm;have hm0:0<m:=by simpa using hm
  rcases hp with⟨h,hb,_⟩|⟨g,n',cap,cs,rest,hb,_,_,_,_,_,hln,_⟩
  ·subst h;have:n=0:=by
    rcases Nat.mul_eq_zero.1 (show n*m=0 from hn.symm)with hn|hn<;>omega
   subst this;exact⟨_,jw a w (by rw[h2,hb];exact pZ ht none 0 0 w),rfl⟩
  ·have hnn:n'=n:=Nat.eq_of_mul_eq_mul_right hm0 (hln.symm.trans hn);subst hnn;exact⟨_,jw a w (by rw[h2,hb];exact pZ ht _ n' cap w),rfl⟩) hr
theorem ai.zp{t tb m r off:Nat}{x:Operand}{l:List D}{hl:bD l=[]}{d:D}(h:ev T x=some (.ref r off))(hh:af H r=some (.row m tb l hl))(ht:lay P t=some none)(hd:l[off]?=some d)
  (hr:ai P ops c os (bg T dst d) H sps T' H'):ai P ops c (⟨dst,.load t x,ty,pos,aft,none⟩::os) T H (AX [(x,.ref r off)] r (.row m tb l hl) d::sps) T' H':=
 .ask rfl (by simpa using h) hh (fun r' hr'=>by
  have:r'∈bD l:=bG.2 ⟨d,List.mem_of_getElem? hd,hr'⟩;rw[hl]at this;cases this) (fun ε w S a F ha hp=>by
  have h2:a.eval x=.pointer (some ⟨j3 (ε r),off,none⟩):=ha (x,.ref r off) (by simp);rcases hp with⟨h,_,_⟩|⟨g,n',cap,cs,rest,hb,_,hg,_,_,_,_,hc⟩
  ·subst h;simp at hd
  ·obtain⟨v,hv,hp⟩:=fP hc hd;have hlt:=(List.getElem?_eq_some_iff.1 hv).1;refine⟨v,?_,hp⟩;rw[hb]at h2;simp only[execOp,h2,j3,Instr.loadAt,Instr.sureAddr,Sem.run_bind,Sem.run_pure,Result.andThen_ok,loadVar,(iT ht w).1,Bool.false_eq_true,if_false,run_load,iL hg,List.getElem?_append_left hlt,hv]) hr
theorem ai.I6{t tb m' r off n:Nat}{x y:Operand}{l l' m:List D}{hl:bD l=[]}{hl':bD l'=[]}{e:D}(h:ev T x=some (.ref r off))(hy:ev T y=some e)(hh:af H r=some (.row m' tb l hl))
  (hsz:∀w,(sizeOf t).run P w=.ok n w)(hn:off+n<=l.length)(hn0:0<n)(hc:C_ e m)(hml:m.length=n)(hle:l.take off++m++l.drop (off+n)=l')
  (hr:ai P ops c os (bg T dst .any) ((r,.row m' tb l' hl')::H) sps T' H'):
  ai P ops c (⟨dst,.store t x y,ty,pos,aft,none⟩::os) T H (ws x (.ref r off) y e r (.row m' tb l hl) (.row m' tb l' hl')::sps) T' H':=by
 refine .cons (sp:=ws x (.ref r off) y e r (.row m' tb l hl) (.row m' tb l' hl')) ?_ (aU.2 ⟨(aw h).1,(aw hy).1⟩) ⟨hh,trivial⟩ trivial hr;intro hdst T0 H0 hi cY _ a w ⟨ε,φ,hs⟩ Q K hK;rw[if_pos (a_ rfl _)];obtain⟨hi1,hi2⟩:=aU.1 hi;have hx:a.eval x=.pointer (some ⟨j3 (ε r),off,none⟩):=(hs.ev hi1 (aw h).2).1;obtain⟨hp,_⟩:=hs.ev hi2 (aw hy).2;obtain⟨vs,hvs,hv1,hvm⟩:=hc.1 ε w _ _ hp;have hvl:vs.length=n:=by rw[aL hvm,hml]
 rcases hs.h r _ cY.1 with⟨e0,_,_⟩|⟨g,n',cap,cs,rest,hb,eF,hg,h1,hcap,hmax,hln,hcs⟩
 ·subst e0;simp at hn;omega
 ·have hlen:=aL hcs;rw[hb]at hx;simp only[j3]at hx;have hst:=run_storeCells_at (P:=P) g off tb vs 0 (cs++rest).toArray w hg (by simp;omega) hv1;simp only[Nat.add_zero,hvl]at hst;have hsplit:(cs++rest).take off++vs++(cs++rest).drop (off+n)=(cs.take off++vs++cs.drop (off+n))++rest:=by
   rw[List.take_append_of_le_length (by omega),List.drop_append_of_le_length (by omega)];simp[List.append_assoc]
  have hrun:(execOp a.eval ⟨dst,.store t x y,ty,pos,aft,none⟩).run P w=.ok .skip (w.setRow g ((cs.take off++vs++cs.drop (off+n))++rest).toArray):=by
   have hsize:(a.eval y).cells.size=n:=by rw[←hvl,←hvs,Array.length_toList]
   rw[←hsplit];simp only[execOp,Instr.storeAt,hx,Instr.sureAddr,Sem.run_bind,Sem.run_pure,Result.andThen_ok,storeVar,hsz w,hsize,ne_eq,not_true_eq_false,if_false,hvs,hst]
  simp only[Oper.wp,hrun,Oper.upon];have hS:=hs.tf (w':=w.setRow g ((cs.take off++vs++cs.drop (off+n))++rest).toArray) (y:=.row m' tb l' hl') cY.1 (by simp[World.setRow]) rfl rfl rfl
   (fun k hk=>fE _ _ _ _ (fun e'=>hk (by rw[eF,e'];rfl)))
   (.inr ⟨g,n',cap,cs.take off++vs++cs.drop (off+n),rest,hb,eF,setRow_heap w g (cs++rest).toArray _ tb _ hg,(by
    intro u hu;simp only[List.mem_append]at hu;rcases hu with(hu|hu)|hu
    ·exact h1 u (List.mem_of_mem_take hu)
    ·exact hv1 u hu
    ·exact h1 u (List.mem_of_mem_drop hu)),(by rw[←hcap];simp;omega),hmax,(by rw[←hle,←hln];simp;omega),by
    rw[←hle];refine bF ?_ (bR (bR (eP off hcs) hvm) (fl (off+n) hcs)) (fun _ _=>rfl);intro k hk _;exact⟨hk,fE _ _ _ _ (fun e'=>hk.2 r (by simp[cY.1]) (by rw[eF,e'];rfl))⟩⟩)
   (fun r' hr'=>by cases hr')
  exact hK _ _ ⟨ε,φ,hS.put (d:=.any) (cU hdst) trivial (fun _ h=>by cases h)⟩
theorem Bw{α:Type}{l:List α}{off:Nat}(e:α)(h:off<l.length):l.take off++[e]++l.drop (off+1)=l.set off e:=by
 rw[List.set_eq_take_append_cons_drop,if_pos h];simp
theorem ai.AU{t tb m r off:Nat}{x y:Operand}{l:List D}{hl:bD l=[]}{e:D}(h:ev T x=some (.ref r off))(hy:ev T y=some e)(hh:af H r=some (.row m tb l hl))(ht:lay P t=some none)(hsh:e.sh=.one)(hnm:e.nm=[])(hlt:off<l.length)
  (hr:ai P ops c os (bg T dst .any) ((r,.row m tb (l.set off e) (Ad hl hnm off))::H) sps T' H'):
  ai P ops c (⟨dst,.store t x y,ty,pos,aft,none⟩::os) T H (ws x (.ref r off) y e r (.row m tb l hl) (.row m tb (l.set off e) (Ad hl hnm off))::sps) T' H':=
 .I6 h hy hh (fun w=>(iT ht w).2) hlt (by omega) (.one hsh) rfl (Bw e hlt) hr
end
end Go.Am
namespace Go.Am
open Go.RowKit
theorem gl(H:Nat->Option Hp)(r1 r:Nat)(x1 x:Hp):bf H [(r1,x1),(r,x)]=db (db H r (some x)) r1 (some x1):=by
 funext k
 simp only[bf,af,db]
 cases h1:Nat.beq k r1 with
 |true=>simp[Nat.eq_of_beq_eq_true h1]
 |false=>
  have e1:k≠r1:=fun e=>by subst e;simp at h1
  cases h2:Nat.beq k r with
  |true=>
   have e2:=Nat.eq_of_beq_eq_true h2;subst e2;simp[e1]
  |false=>
   have e2:k≠r:=fun e=>by subst e;simp at h2
   simp[e1,e2]
section
variable {c:Ctx} {T:Nat->Option D} {H:Nat->Option Hp} {a:Act} {w w':World} {ε:Env} {φ:Nat->ck}
theorem cd.zZ(h:cd c T H a w ε φ){r1 r:Nat}{x1 x:Hp}{b:Value}{F:ck}(hr1:H r1=some x1)(hr:H r=none)(hsz:w.heap.size<=w'.heap.size)(ho:w'.os=w.os)(htp:w'.tape=w.tape)(hop:w'.output=w.output)
  (hb:∀k,k<w.heap.size->¬φ r1 k->w'.heap[k]?=w.heap[k]?)(hF:∀k,F k->(φ r1 k\/w.heap.size<=k)/\k<w'.heap.size)
  (hx:x.p (db ε r b) w' (al c (bf H [(r1,.dead),(r,x)]) (db (db φ r1 noBlocks) r F)) b F)(hn:x.nm=[]):
  cd c T (bf H [(r1,.dead),(r,x)]) a w' (db ε r b) (db (db φ r1 noBlocks) r F):=by
 have hne:r1≠r:=fun e=>by subst e;rw[hr]at hr1;cases hr1
 rw[gl]at hx|-;have gH:∀k,k≠r1->k≠r->db (db H r (some x)) r1 (some Hp.dead) k=H k:=fun k e1 e2=>by rw[aB _ _ e1,aB _ _ e2]
 have gφ:∀k,k≠r1->k≠r->db (db φ r1 noBlocks) r F k=φ k:=fun k e1 e2=>by rw[aB _ _ e2,aB _ _ e1]
 have φ1:db (db φ r1 noBlocks) r F r1=noBlocks:=by rw[aB _ _ hne,aq]
 have φr:db (db φ r1 noBlocks) r F r=F:=aq _ _ _;have H1:db (db H r (some x)) r1 (some Hp.dead) r1=some .dead:=aq _ _ _;have Hr:db (db H r (some x)) r1 (some Hp.dead) r=some x:=by rw[aB _ _ (Ne.symm hne),aq]
 have live:∀r',H r'≠none->r'≠r:=fun r' h' e=>h' (e▸hr);have up:∀r',H r'≠none->db (db H r (some x)) r1 (some Hp.dead) r'≠none:=by
  intro r' h';by_cases e:r'=r1
  ·subst e;rw[H1];simp
  ·rw[gH r' e (live r' h')];exact h'
 have hreg:∀k,al c H φ k->k<w.heap.size->al c (db (db H r (some x)) r1 (some Hp.dead)) (db (db φ r1 noBlocks) r F) k/\w'.heap[k]?=w.heap[k]?:=by
  intro k hk hlt;have hk1:¬φ r1 k:=hk.2 r1 (by simp[hr1]);refine⟨⟨hk.1,fun r' hr'=>?_⟩,hb k hlt hk1⟩;by_cases e1:r'=r1
  ·subst e1;rw[φ1];exact fun h=>h
  ·by_cases e2:r'=r
   ·subst e2;rw[φr];intro hf;rcases(hF k hf).1 with h|h
    ·exact hk1 h
    ·omega
   ·rw[gφ r' e1 e2];exact hk.2 r' (by rwa [gH r' e1 e2]at hr')
 constructor
 ·exact fun t d ht=>d.mono (h.t t d ht) (fun r' hr'=>aB _ _ (live r' (h.tn t d ht r' hr'))) hreg
 ·exact fun t d ht r' hr'=>up r' (h.tn t d ht r' hr')
 ·intro r' y hy;by_cases e1:r'=r1
  ·subst e1;rw[H1]at hy;injection hy with hy;subst hy;rw[φ1];rfl
  ·by_cases e2:r'=r
   ·subst e2;rw[Hr]at hy;injection hy with hy;subst hy;rw[φr,aq];exact hx
   ·rw[gH r' e1 e2]at hy;rw[gφ r' e1 e2,aB _ _ e2];exact y.mono (h.h r' y hy) (fun r2 h2=>aB _ _ (live r2 (h.hn r' y hy r2 h2))) hreg (fun k hk=>hb k (h.lo r' (by simp[hy]) k hk).2 (h.dj r' r1 (by simp[hy]) (by simp[hr1]) e1 k hk))
 ·intro r' y hy r2 h2;by_cases e1:r'=r1
  ·subst e1;rw[H1]at hy;injection hy with hy;subst hy;cases h2
  ·by_cases e2:r'=r
   ·subst e2;rw[Hr]at hy;injection hy with hy;subst hy;rw[hn]at h2;cases h2
   ·rw[gH r' e1 e2]at hy;exact up r2 (h.hn r' y hy r2 h2)
 ·intro r' hr' k hk;by_cases e1:r'=r1
  ·subst e1;rw[φ1]at hk;exact hk.elim
  ·by_cases e2:r'=r
   ·subst e2;rw[φr]at hk;have:=hF k hk;refine⟨?_,this.2⟩;rcases this.1 with h'|h'
    ·exact(h.lo r1 (by simp[hr1]) k h').1
    ·exact .inl (Nat.le_trans h.fV h')
   ·rw[gφ r' e1 e2]at hk;rw[gH r' e1 e2]at hr';have:=h.lo r' hr' k hk;exact⟨this.1,Nat.lt_of_lt_of_le this.2 hsz⟩
 ·intro ra rb ha hb' hne' k hk;by_cases a1:ra=r1
  ·subst a1;rw[φ1]at hk;exact hk.elim
  ·by_cases b1:rb=r1
   ·subst b1;rw[φ1];exact fun h=>h
   ·by_cases a2:ra=r
    ·subst a2;rw[φr]at hk;have b2:rb≠ra:=Ne.symm hne';rw[gφ rb b1 b2];rw[gH rb b1 b2]at hb';intro hkb;rcases(hF k hk).1 with h'|h'
     ·exact h.dj rb r1 hb' (by simp[hr1]) b1 k hkb h'
     ·have:=(h.lo rb hb' k hkb).2;omega
    ·rw[gφ ra a1 a2]at hk;rw[gH ra a1 a2]at ha;by_cases b2:rb=r
     ·subst b2;rw[φr];intro hkF;rcases(hF k hkF).1 with h'|h'
      ·exact h.dj ra r1 ha (by simp[hr1]) a1 k hk h'
      ·have:=(h.lo ra ha k hk).2;omega
     ·rw[gφ rb b1 b2];rw[gH rb b1 b2]at hb';exact h.dj ra rb ha hb' hne' k hk
 ·exact h.pP.trans ⟨ho,htp,hop,hsz,fun k hk hl=>hb k (Nat.lt_of_lt_of_le hk h.fV) (fun hf=>by
   rcases(h.lo r1 (by simp[hr1]) k hf).1 with h1|h1
   ·omega
   ·exact hl h1)⟩
 ·exact h.bs
 ·exact h.sz
 ·exact h.df
end
theorem cd.HZ{P:Program}{c:Ctx}{T:Nat->Option D}{H:Nat->Option Hp}{a:Act}{w:World}{ε:Env}{φ:Nat->ck}(hs:cd c T H a w ε φ){t ty e:TypeId}{m bt:Nat}{z:List D}(hm:oj P t=some (e,m,bt,z))
  {r1 r n1 n2:Nat}{l1 l2 l:List D}{hl1:bD l1=[]}{hl:bD l=[]}(hr1:H r1=some (.row m e l1 hl1))(hr:H r=none)(hn1:l1.length=n1*m)(hn2:l2.length=n2*m)(hl2:bD l2=[])(he:l1++l2=l)
  {tx:TypeId}{x:Value}{vs:List Value}(hvl:vs.length=n2*m)(hv1:∀u∈vs,u.oneCell'=true)(hv:bN ε w (al c H φ) l2 vs)
  (hN:n2=0->(Builtin.append_ #[t,tx] ty #[.slice none 0 0,x]).run P w=.ok (.slice none 0 0) w)
  (hR:∀g n' cap (cur:Array Value),w.heap[g]?=some (.cells cur e (0,0))->n'+n2<=cap->n'*m+vs.length<=cur.size->(Builtin.append_ #[t,tx] ty #[.slice (some ⟨g,0,none⟩) n' cap,x]).run P w=.ok (.slice (some ⟨g,0,none⟩) (n'+n2) cap) (w.setRow g (cur.toList.take (n'*m)++vs++cur.toList.drop (n'*m+vs.length)).toArray))
  (hG:∀(i:TypeInfo) (zv:Value),P.underlying t=some (.slice e)->P.info? e=some i->i.zero=some zv->i.size=m->i.bytes=bt->∀base sLen sCap (olds:List Value),(Builtin.firstCells i.size sLen (.slice base sLen sCap)).run P w.drew=.ok olds.toArray w.drew->sCap<sLen+n2->((sLen+n2:Nat):Int)<=9223372036854775807->Builtin.nextslicecap (sLen+n2) sCap*bt<=281474976710656->
   (Builtin.append_ #[t,tx] ty #[.slice base sLen sCap,x]).run P w=.ok (.slice (some ⟨w.heap.size,0,none⟩) (sLen+n2) (grownCap w (sLen+n2) sCap e)) (w.drew.alloc (.cells ((olds++vs).toArray++Builtin.zeroCells zv.cells (grownCap w (sLen+n2) sCap e-(sLen+n2))) e)))
  (hb:(n1+n2)*bt<=140737488355328)(hmax:n1+n2<=9223372036854775807):
  ∃v' w' ε' φ',(Builtin.append_ #[t,tx] ty #[ε r1,x]).run P w=.ok v' w'/\cd c T (bf H [(r1,.dead),(r,.row m e l hl)]) a w' ε' φ'/\ε' r=v'/\v'.oneCell'=true/\∀q,q≠r->ε' q=ε q:=by
 obtain⟨i,zv,hu,hinf,hzv,hsz,hbz,ez,hzv1,hzs,hm0⟩:=gh hm;have hlen:l.length=(n1+n2)*m:=by rw[←he,List.length_append,hn1,hn2,Nat.add_mul]
 have lo:=hs.lo r1 (by simp[hr1]);subst he
 -- a new block
 have grow:∀(xs:List Value) (cap':Nat) (rest:List Value),bN ε w (al c H φ) l1 xs->(∀u∈xs,u.oneCell'=true)->((xs++vs)++rest).length=cap'*m->cap'<=maxLen->
   cd c T (bf H [(r1,.dead),(r,.row m e (l1++l2) hl)]) a (w.drew.alloc (.cells ((xs++vs)++rest).toArray e)) (db ε r (.slice (some ⟨w.heap.size,0,none⟩) (n1+n2) cap')) (db (db φ r1 noBlocks) r (only w.heap.size)):=by
  intro xs cap' rest hxs h1 hcl hcm;have hold:∀k,k<w.heap.size->(w.drew.alloc (.cells ((xs++vs)++rest).toArray e)).heap[k]?=w.heap[k]?:=fun k hk=>Below.heap_alloc w.drew _ k hk;refine hs.zZ hr1 hr (by simp) rfl rfl rfl (fun k hk _=>hold k hk) (fun k hk=>by simp only[only]at hk;subst hk;exact⟨.inr (Nat.le_refl _),by simp⟩)
   (.inr ⟨w.heap.size,n1+n2,cap',xs++vs,rest,rfl,rfl,ia w.drew _,(fun u hu=>(List.mem_append.1 hu).elim (h1 u) (hv1 u)),hcl,hcm,hlen,?_⟩) rfl
  refine bF (fun k hk hlt=>⟨⟨hk.1,fun r' hr' hf=>?_⟩,hold k hlt⟩) (bR hxs hv) (by rw[dB hl1 hl2];intro r' hr';cases hr');rw[gl]at hr';by_cases e1:r'=r1
  ·subst e1;have hne:r'≠r:=fun e=>by subst e;rw[hr]at hr1;cases hr1
   rw[aB _ _ hne,aq]at hf;exact hf
  ·by_cases e2:r'=r
   ·subst e2;rw[aq]at hf;simp only[only]at hf;omega
   ·rw[aB _ _ e2,aB _ _ e1]at hf;rw[aB _ _ e1,aB _ _ e2]at hr';exact hk.2 r' hr' hf
 have hcapge:∀old,n1+n2<=grownCap w (n1+n2) old e:=fun old=>grownCap_ge w _ old e;have hcapmax:∀old,grownCap w (n1+n2) old e<=maxLen:=fun old=>grownCap_le_maxLen w _ old e (by unfold maxLen;omega);have hrestlen:∀old,(Builtin.zeroCells zv.cells (grownCap w (n1+n2) old e-(n1+n2))).toList.length=(grownCap w (n1+n2) old e-(n1+n2))*m:=fun old=>by rw[Array.length_toList,size_zeroCells,hzs]
 rcases hs.h r1 _ hr1 with⟨e0,eb,eF⟩|⟨g,n',cap,cs,rest,eb,eF,hg,h1,hcap,hmaxc,hln,hcs⟩
 ·-- nil
  subst e0;have hn0:n1=0:=by
   rcases Nat.mul_eq_zero.1 (show n1*m=0 from hn1.symm)with h|h<;>omega
  subst hn0;by_cases h0:n2=0
  ·subst h0;have hv0:vs=[]:=List.eq_nil_of_length_eq_zero (by simpa using hvl);have hl0:l2=[]:=List.eq_nil_of_length_eq_zero (by simpa using hn2);subst hv0;subst hl0;refine⟨.slice none 0 0,w,db ε r (.slice none 0 0),db (db φ r1 noBlocks) r noBlocks,?_,?_,aq _ _ _,rfl,fun q hq=>aB _ _ hq⟩
   ·rw[eb];exact hN rfl
   ·exact hs.zZ hr1 hr (Nat.le_refl _) rfl rfl rfl (fun _ _ _=>rfl) (fun k hk=>hk.elim) (.inl ⟨rfl,rfl,rfl⟩) rfl
  ·have hr':=hG i zv hu hinf hzv hsz hbz none 0 0 [] (run_firstCells_none w.drew i.size 0 0 0) (by omega) (by omega) (by rw[nextslicecap_zero (by omega)];simp only[Nat.zero_add]at hb|-;omega);simp only[Nat.zero_add,List.nil_append]at hr';rw[eb];have hG':=grow [] (grownCap w (0+n2) 0 e) (Builtin.zeroCells zv.cells (grownCap w (0+n2) 0 e-(0+n2))).toList trivial (fun u hu=>by cases hu) (by
    rw[List.length_append,List.nil_append,hvl,hrestlen,←Nat.add_mul];have:=hcapge 0
    congr 1;omega) (hcapmax 0)
   simp only[Nat.zero_add,List.nil_append]at hG';refine⟨_,_,db ε r (.slice (some ⟨w.heap.size,0,none⟩) n2 (grownCap w n2 0 e)),db (db φ r1 noBlocks) r (only w.heap.size),hr',?_,aq _ _ _,rfl,fun q hq=>aB _ _ hq⟩;have ecell:(vs++(Builtin.zeroCells zv.cells (grownCap w n2 0 e-n2)).toList).toArray=vs.toArray++Builtin.zeroCells zv.cells (grownCap w n2 0 e-n2):=by
    apply Array.ext';simp
   rw[ecell]at hG';exact hG'
 ·have hnn:n'=n1:=Nat.eq_of_mul_eq_mul_right hm0 (hln.symm.trans hn1);subst hnn;have hcsl:cs.length=n'*m:=by rw[aL hcs,hn1]
  rw[eb];by_cases hroom:n'+n2<=cap
  ·-- there is room
   have hsetrow:∀k,k≠g->(w.setRow g (cs++vs++(cs++rest).drop (n'*m+vs.length)).toArray).heap[k]?=w.heap[k]?:=fun k hk=>fE _ _ _ _ hk;have htk:(cs++rest).take (n'*m)=cs:=by rw[←hcsl];exact List.take_left
   have hrun:=hR g n' cap (cs++rest).toArray hg hroom (by rw[hvl,←Nat.add_mul,List.size_toArray,hcap];exact Nat.mul_le_mul_right _ hroom);simp only[htk]at hrun;refine⟨_,_,db ε r (.slice (some ⟨g,0,none⟩) (n'+n2) cap),db (db φ r1 noBlocks) r (only g),hrun,?_,aq _ _ _,rfl,fun q hq=>aB _ _ hq⟩;have hgl:g<w.heap.size:=(lo g (by rw[eF];rfl)).2;refine hs.zZ hr1 hr (by simp[World.setRow]) rfl rfl rfl (fun k _ hk=>hsetrow k (fun e'=>hk (by rw[eF,e'];rfl))) (fun k hk=>by simp only[only]at hk;subst hk;exact⟨.inl (by rw[eF];rfl),by simpa [World.setRow]using hgl⟩)
    (.inr ⟨g,n'+n2,cap,cs++vs,(cs++rest).drop (n'*m+vs.length),rfl,rfl,setRow_heap w g (cs++rest).toArray _ e _ hg,(fun u hu=>(List.mem_append.1 hu).elim (h1 u) (hv1 u)),?_,hmaxc,hlen,?_⟩) rfl
   ·rw[List.length_append,List.length_append,List.length_drop,hcap,hcsl,hvl];have:(n'+n2)*m<=cap*m:=Nat.mul_le_mul_right _ hroom;rw[Nat.add_mul]at this;omega
   ·refine bF (fun k hk hlt=>⟨⟨hk.1,fun r' hr' hf=>?_⟩,hsetrow k (fun e'=>hk.2 r1 (by simp[hr1]) (by rw[eF,e'];rfl))⟩) (bR hcs hv) (by rw[dB hl1 hl2];intro r' hr';cases hr');rw[gl]at hr';by_cases e1:r'=r1
    ·subst e1;have hne:r'≠r:=fun e=>by subst e;rw[hr]at hr1;cases hr1
     rw[aB _ _ hne,aq]at hf;exact hf
    ·by_cases e2:r'=r
     ·subst e2;rw[aq]at hf;exact hk.2 r1 (by simp[hr1]) (by rw[eF];exact hf)
     ·rw[aB _ _ e2,aB _ _ e1]at hf;rw[aB _ _ e1,aB _ _ e2]at hr';exact hk.2 r' hr' hf
  ·-- a new array
   have h0:n2≠0:=by
    intro h0;subst h0;have hle:n'*m<=cap*m:=by rw[←hcap,List.length_append,hcsl];omega
    have:=Nat.le_of_mul_le_mul_right hle hm0;omega
   have hr':=hG i zv hu hinf hzv hsz hbz (some ⟨g,0,none⟩) n' cap cs (run_firstCells_some w.drew i.size n' ⟨g,0,none⟩ n' cap cs (by rw[hcsl,hsz]) (fun j u hj=>by
     have h2:w.drew.heap[g]?=some (.cells (cs++rest).toArray e (0,0)):=hg;rw[gS,iL h2,Nat.zero_add];rw[List.getElem?_append_left (List.getElem?_eq_some_iff.1 hj).1];exact hj)) (by omega) (by omega) (growslice_fits (by omega) hb)
   have hG':=grow cs (grownCap w (n'+n2) cap e) (Builtin.zeroCells zv.cells (grownCap w (n'+n2) cap e-(n'+n2))).toList hcs h1 (by
    rw[List.length_append,List.length_append,hvl,hcsl,hrestlen,←Nat.add_mul,←Nat.add_mul];have:=hcapge cap
    congr 1;omega) (hcapmax cap)
   refine⟨_,_,db ε r (.slice (some ⟨w.heap.size,0,none⟩) (n'+n2) (grownCap w (n'+n2) cap e)),db (db φ r1 noBlocks) r (only w.heap.size),hr',?_,aq _ _ _,rfl,fun q hq=>aB _ _ hq⟩;have ecell:((cs++vs)++(Builtin.zeroCells zv.cells (grownCap w (n'+n2) cap e-(n'+n2))).toList).toArray=(cs++vs).toArray++Builtin.zeroCells zv.cells (grownCap w (n'+n2) cap e-(n'+n2)):=by
    apply Array.ext';simp
   rw[ecell]at hG';exact hG'
theorem cd.H5{P:Program}{c:Ctx}{T:Nat->Option D}{H:Nat->Option Hp}{a:Act}{w:World}{ε:Env}{φ:Nat->ck}(hs:cd c T H a w ε φ){t ty e:TypeId}{m bt:Nat}{z:List D}(hm:oj P t=some (e,m,bt,z))
  {r1 r n1 n2:Nat}{l1 l2 l:List D}{hl1:bD l1=[]}{hl:bD l=[]}(hr1:H r1=some (.row m e l1 hl1))(hr:H r=none)(hn1:l1.length=n1*m)(hn2:l2.length=n2*m)(hl2:bD l2=[])(he:l1++l2=l)
  {A:Option Addr}{cap2:Nat}{vs:List Value}(hA:n2=0\/∃b o,A=some ⟨b,o,none⟩/\∀j u,vs[j]?=some u->w.cell? ⟨b,o+j,none⟩=some u)(hv1:∀u∈vs,u.oneCell'=true)(hv:bN ε w (al c H φ) l2 vs)
  (hb:(n1+n2)*bt<=140737488355328)(hmax:n1+n2<=9223372036854775807):
  ∃v' w' ε' φ',(Builtin.append_ #[t,t] ty #[ε r1,.slice A n2 cap2]).run P w=.ok v' w'/\cd c T (bf H [(r1,.dead),(r,.row m e l hl)]) a w' ε' φ'/\ε' r=v'/\v'.oneCell'=true/\∀q,q≠r->ε' q=ε q:=by
 obtain⟨i,zv,hu,hinf,hzv,hsz,hbz,ez,hzv1,hzs,hm0⟩:=gh hm;have hvl:vs.length=n2*m:=by rw[aL hv,hn2]
 have hsrc:Src P i.size t (.slice A n2 cap2) n2 vs w:=by
  rcases hA with h0|⟨b,o,eA,hcell⟩
  ·subst h0;have hv0:vs=[]:=List.eq_nil_of_length_eq_zero (by simpa using hvl);subst hv0
   cases A with
   |none=>exact .ofNil w hu cap2
   |some ad=>exact .ofSlice w hu ad 0 cap2 [] (by simp) (fun j u hj=>by simp at hj) hv1
  ·subst eA;exact .ofSlice w hu _ n2 cap2 vs (by rw[hvl,hsz]) (fun j u hj=>by rw[gS];exact hcell j u hj) hv1
 refine hs.HZ (tx:=t) hm hr1 hr hn1 hn2 hl2 he hvl hv1 hv (fun h0=>?_) (fun g n' cap cur hg hroom hfit=>?_) (fun i' zv' _ hi' hz' hs' hb' base sLen sCap olds hold hg h63 hfit=>?_) hb hmax
 ·subst h0;cases A<;>simp[Builtin.append_,run_underlying hu,sizeOf,typeInfo,hinf,Builtin.lenOf,Builtin.firstCells,loadCells,loadCellsFrom]
 ·by_cases h0:n2=0
  ·subst h0;have hv0:vs=[]:=List.eq_nil_of_length_eq_zero (by simpa using hvl);subst hv0;have hself:w.setRow g (cur.toList.take (n'*m)++[]++cur.toList.drop (n'*m+([]:List Value).length)).toArray=w:=by
    rw[List.append_nil,List.length_nil,Nat.add_zero,List.take_append_drop];exact setRow_self w g _ e (0,0) hg
   rw[hself];have hroom':n'<=cap:=hroom
   cases A with
   |none=>simp[Builtin.append_,run_underlying hu,sizeOf,typeInfo,hinf,Builtin.lenOf,Builtin.firstCells,hroom',storeCells]
   |some ad=>simp[Builtin.append_,run_underlying hu,sizeOf,typeInfo,hinf,Builtin.lenOf,Builtin.firstCells,hroom',storeCells,loadCells,loadCellsFrom]
  ·obtain⟨b,o,eA,hcell⟩:=hA.resolve_left h0;subst eA;have hr':=run_append_room (P:=P) w t ty e i hu hinf g n' cap cur hg ⟨b,o,none⟩ n2 cap2 vs (by rw[hvl,hsz]) (fun j u hj=>by rw[gS];exact hcell j u hj) hv1 hroom (by rw[hsz];exact hfit);rw[hsz]at hr';exact hr'
 ·have e1:i'=i:=by rw[hinf]at hi';exact(Option.some.inj hi').symm
  subst e1;exact run_append_grow_src w t t ty e i' zv' hu hi' hz' base sLen sCap olds hold _ n2 vs hsrc hg h63 (by rw[hb'];exact hfit)
theorem cd.app{P:Program}{c:Ctx}{T:Nat->Option D}{H:Nat->Option Hp}{a:Act}{w:World}{ε:Env}{φ:Nat->ck}(hs:cd c T H a w ε φ){t ty e:TypeId}{m bt:Nat}{z:List D}(hm:oj P t=some (e,m,bt,z))
  {r1 r n1 n2:Nat}{l1 l2 l:List D}{hl1:bD l1=[]}{hl:bD l=[]}(hr1:H r1=some (.row m e l1 hl1))(hr:H r=none)(hn1:l1.length=n1*m)(hn2:l2.length=n2*m)(hl2:bD l2=[])(he:l1++l2=l)
  {A:Option Addr}{cap2:Nat}{vs:List Value}(hA:n2=0\/∃b o,A=some ⟨b,o,none⟩/\∀j u,vs[j]?=some u->w.cell? ⟨b,o+j,none⟩=some u)(hv1:∀u∈vs,u.oneCell'=true)(hv:bN ε w (al c H φ) l2 vs)
  (hb:(n1+n2)*bt<=140737488355328)(hmax:n1+n2<=9223372036854775807):
  ∃v' w' ε' φ',(Builtin.append_ #[t,t] ty #[ε r1,.slice A n2 cap2]).run P w=.ok v' w'/\cd c T (bf H [(r1,.dead),(r,.row m e l hl)]) a w' ε' φ'/\ε' r=v'/\v'.oneCell'=true:=by
 obtain⟨v',w',ε',φ',h1,h2,h3,h4,_⟩:=hs.H5 (ty:=ty) hm hr1 hr hn1 hn2 hl2 he hA hv1 hv hb hmax (cap2:=cap2);exact⟨v',w',ε',φ',h1,h2,h3,h4⟩
end Go.Am
namespace Go.Am
open Go.RowKit
theorem Ab{ε:Env}{w:World}{S:ck}{n m:Nat}{l:List D}{A:Option Addr}(hln:l.length=n*m)(h:n=0\/∃b o,A=some ⟨b,o,none⟩/\S b/\sb ε w S b o l):
  ∃vs:List Value,(n=0\/∃b o,A=some ⟨b,o,none⟩/\∀(j:Nat) u,vs[j]?=some u->w.cell? ⟨b,o+j,none⟩=some u)/\(∀u∈vs,u.oneCell'=true)/\bN ε w S l vs:=by
 rcases h with h|⟨b,o,eA,_,hl⟩
 ·subst h;have:l=[]:=List.eq_nil_of_length_eq_zero (by simpa using hln);subst this;exact⟨[],.inl rfl,fun u hu=>by(cases hu),trivial⟩
 ·obtain⟨vs,h1,h2,h3⟩:=ot hl;exact⟨vs,.inr ⟨b,o,eA,h1⟩,h2,h3⟩
section
variable {P:Program} {os:List Oper} {c:Ctx} {T T':List (Nat×D)} {H H':List (Nat×Hp)} {sps:List Spec}
variable {ops:Array Oper} {dst:Option Nat} {ty:TypeId} {pos:String} {aft:Array Edge}
theorem m6{t:TypeId}{x y:Operand}{r:Nat}(a:Act)(w w':World){v:Value}(h:(Builtin.append_ #[t,t] ty #[a.eval x,a.eval y]).run P w=.ok v w'):
  (execOp a.eval ⟨some r,.call {callee:=.builtin .append,args:=#[x,y],argTypes:=#[t,t]},ty,pos,aft,none⟩).run P w=.ok (.value v) w':=by
 simp only[execOp,resolve,Sem.run_bind,Sem.run_pure,Result.andThen_ok,invoke,builtin,List.map_toArray,List.map_cons,List.map_nil,h]
def apps(x:Operand)(dx:D)(y:Operand)(dy:D)(r1 r:Nat)(cY:List (Nat×Hp))(h:Hp):Spec:={ins:=eN x dx++eN y dy,cY:=cY,out:=.own r,cZ:=[(r1,.dead),(r,h)],news:=[r]}
theorem ai.IA{t e:TypeId}{x y:Operand}{r1 r m bt n1 n2:Nat}{l1 l2 z:List D}{hl1:bD l1=[]}{hl2:bD l2=[]}(hx:ev T x=some (.own r1))(hy:ev T y=some (.jm n2 m l2 hl2))(hh:af H r1=some (.row m e l1 hl1))(hm:oj P t=some (e,m,bt,z))(hn1:l1.length=n1*m)
  (hb:(n1+n2)*bt<=140737488355328)(hmax:n1+n2<=9223372036854775807)(hf:af H r=none)
  (hr:ai P ops c os ((r,.own r)::T) ((r1,.dead)::(r,.row m e (l1++l2) (dB hl1 hl2))::H) sps T' H'):
  ai P ops c (⟨some r,.call {callee:=.builtin .append,args:=#[x,y],argTypes:=#[t,t]},ty,pos,aft,none⟩::os) T H
   (apps x (.own r1) y (.jm n2 m l2 hl2) r1 r [(r1,.row m e l1 hl1)] (.row m e (l1++l2) (dB hl1 hl2))::sps) T' H':=by
 refine .cons (sp:=apps x (.own r1) y (.jm n2 m l2 hl2) r1 r [(r1,.row m e l1 hl1)] (.row m e (l1++l2) (dB hl1 hl2))) ?_ (aU.2 ⟨(aw hx).1,(aw hy).1⟩) ⟨hh,trivial⟩ ⟨hf,trivial⟩ hr;intro hd T0 H0 hi cY hnew a w ⟨ε,φ,hs⟩ Q K hK;rw[if_pos (a_ rfl _)];obtain⟨hi1,hi2⟩:=aU.1 hi;have h1:a.eval x=ε r1:=(hs.ev hi1 (aw hx).2).1.1;obtain⟨A,cap2,h2,_,hln,hA⟩:=(hs.ev hi2 (aw hy).2).1;obtain⟨vs,hvA,hv1,hv⟩:=Ab hln hA;obtain⟨v',w',ε',φ',hrun,hS,ev',ho⟩:=hs.app (ty:=ty) hm (r:=r) (hl:=dB hl1 hl2) cY.1 hnew.1 hn1 hln hl2 rfl hvA hv1 hv hb hmax (cap2:=cap2);have hrun':(Builtin.append_ #[t,t] ty #[a.eval x,a.eval y]).run P w=.ok v' w':=by rw[h1,h2];exact hrun
 simp only[Oper.wp,m6 a w w' hrun',Oper.upon];refine hK _ _ ⟨ε',φ',hS.put (d:=.own r) (cU hd) ⟨ev'.symm,ho⟩ (fun r' hr'=>?_)⟩;have:r'=r:=by simpa [D.own]using hr'
 subst this;rw[gl];have hne:r'≠r1:=fun e=>by subst e;have:=cY.1;have h0:=hnew.1;rw[h0]at this;cases this
 rw[aB _ _ hne,aq];simp
theorem Ok.wG{x:Code}{Q:Exit->Act->World->Prop}(t r m:Nat)(e:TypeId)(ht:aM T t=some .nil)(hf:af H r=none)(h:Ok P c ((t,.own r)::T) ((r,.row m e [] rfl)::H) x Q):Ok P c T H x Q:=by
 intro a w ⟨ε,φ,hs⟩;have hN:=hs.lB (x:=.row m e [] rfl) (b:=.slice none 0 0) (F:=noBlocks) (r:=r) hf (Below.refl _ _) (fun k hk=>hk.elim) (.inl ⟨rfl,rfl,rfl⟩) (fun r' hr'=>by cases hr');have hv:a.tmps.getD t undef=.slice none 0 0:=hs.t t _ ht;refine h a w (Sat.ext (T:=fY (aM T) (some t) (.own r)) (H:=bf (af H) [(r,.row m e [] rfl)]) ⟨_,_,{hN with t:=?_,tn:=?_}⟩ (fun t'=>?_) (fun r'=>?_))
 ·intro t' d hd;simp only[fY]at hd
  split at hd
  ·rename_i e';subst e';injection hd with hd;subst hd;exact⟨by rw[hv,aq],by rw[hv];rfl⟩
  ·exact hN.t t' d hd
 ·intro t' d hd r' hr';simp only[fY]at hd
  split at hd
  ·injection hd with hd;subst hd;have:r'=r:=by simpa [D.own]using hr'
   subst this;rw[bu,aq];simp
  ·exact hN.tn t' d hd r' hr'
 ·rw[iH];rfl
 ·rw[bq];rfl
theorem vZ{a:Act}{w:World}{ε:Env}{φ:Nat->ck}{r m:Nat}{e:TypeId}{l:List D}{hl:bD l=[]}(hs:cd c (aM T) (af H) a w ε φ)(hh:af H r=some (.row m e l hl)):
  cd c (aM T) (af ((r,.dead)::H)) a w ε (db φ r noBlocks):=by
 have hH:af ((r,.dead)::H)=db (af H) r (some .dead):=by
  rw[←bu,bq];rfl
 rw[hH];have hl2:∀r',db (af H) r (some .dead) r'≠none↔af H r'≠none:=by
  intro r';by_cases e':r'=r
  ·subst e';simp[aq,hh]
  ·rw[aB _ _ e']
 have hreg:∀k,al c (af H) φ k->k<w.heap.size->al c (db (af H) r (some .dead)) (db φ r noBlocks) k/\w.heap[k]?=w.heap[k]?:=by
  intro k hk _;refine⟨⟨hk.1,fun r' hr'=>?_⟩,rfl⟩;by_cases e':r'=r
  ·subst e';rw[aq];exact fun h=>h
  ·rw[aB _ _ e'];exact hk.2 r' ((hl2 r').1 hr')
 constructor
 ·exact fun t d ht=>d.mono (hs.t t d ht) (fun _ _=>rfl) hreg
 ·exact fun t d ht r' hr'=>(hl2 r').2 (hs.tn t d ht r' hr')
 ·intro r' y hy;by_cases e':r'=r
  ·subst e';rw[aq]at hy;injection hy with hy;subst hy;rw[aq];rfl
  ·rw[aB _ _ e']at hy;rw[aB _ _ e'];exact y.mono (hs.h r' y hy) (fun _ _=>rfl) hreg (fun _ _=>rfl)
 ·intro r' y hy r2 h2;by_cases e':r'=r
  ·subst e';rw[aq]at hy;injection hy with hy;subst hy;cases h2
  ·rw[aB _ _ e']at hy;exact(hl2 r2).2 (hs.hn r' y hy r2 h2)
 ·intro r' hr' k hk;by_cases e':r'=r
  ·subst e';rw[aq]at hk;exact hk.elim
  ·rw[aB _ _ e']at hk;exact hs.lo r' ((hl2 r').1 hr') k hk
 ·intro ra rb ha hb hne k hk;by_cases ea:ra=r
  ·subst ea;rw[aq]at hk;exact hk.elim
  ·by_cases eb:rb=r
   ·subst eb;rw[aq];exact fun h=>h
   ·rw[aB _ _ ea]at hk;rw[aB _ _ eb];exact hs.dj ra rb ((hl2 ra).1 ha) ((hl2 rb).1 hb) hne k hk
 ·exact hs.pP
 ·exact hs.bs
 ·exact hs.sz
 ·exact hs.df
theorem xB{a:Act}{w:World}{ε:Env}{φ:Nat->ck}{t:Nat}{d:D}{K:Nat->Option Hp}(hs:cd c (aM T) K a w ε φ)(hp:d.p ε w (al c K φ) (a.tmps.getD t undef))(hn:d.nm=[]):cd c (aM ((t,d)::T)) K a w ε φ:=by
 refine{hs with t:=?_,tn:=?_}
 ·intro t' d' hd;simp only[aM]at hd
  cases hb:Nat.beq t' t with
  |true=>rw[hb]at hd;injection hd with hd;subst hd;rw[Nat.eq_of_beq_eq_true hb];exact hp
  |false=>rw[hb]at hd;exact hs.t t' d' hd
 ·intro t' d' hd r hr;simp only[aM]at hd
  cases hb:Nat.beq t' t with
  |true=>rw[hb]at hd;injection hd with hd;subst hd;rw[hn]at hr;cases hr
  |false=>rw[hb]at hd;exact hs.tn t' d' hd r hr
theorem Ok.tD{x:Code}{Q:Exit->Act->World->Prop}(t:Nat){r m m' n:Nat}{e:TypeId}{l:List D}{hl:bD l=[]}(ht:aM T t=some (.own r))(hh:af H r=some (.row m e l hl))(hn:l.length=n*m')(hm':Nat.beq m m'=true)(hm:Nat.blt 0 m=true)
  (h:Ok P c ((t,.jm n m l hl)::T) ((r,.dead)::H) x Q):Ok P c T H x Q:=by
 intro a w ⟨ε,φ,hs⟩;have hmm:=Nat.eq_of_beq_eq_true hm';subst hmm;have hm0:0<m:=by simpa using hm
 have hv:a.tmps.getD t undef=ε r:=(hs.t t _ ht).1;refine h a w ⟨ε,db φ r noBlocks,xB (vZ hs hh) ?_ rfl⟩;rcases hs.h r _ hh with⟨e0,eb,_⟩|⟨g,n',cap,cs,rest,eb,eF,hg,h1,hcap,_,hln,hcs⟩
 ·subst e0;have:n=0:=by rcases Nat.mul_eq_zero.1 (show n*m=0 from hn.symm)with h|h<;>omega
  subst this;exact⟨none,0,by rw[hv,eb],Nat.le_refl _,hn,.inl rfl⟩
 ·have:n'=n:=Nat.eq_of_mul_eq_mul_right hm0 (hln.symm.trans hn);subst this;have hlo:=hs.lo r (by simp[hh]) g (by rw[eF];rfl);have hSg:Am.al c (af ((r,Hp.dead)::H)) (db φ r noBlocks) g:=by
   refine⟨.inr hlo.1,fun r' hr'=>?_⟩;by_cases e':r'=r
   ·subst e';rw[aq];exact fun h=>h
   ·rw[aB _ _ e'];have:af H r'≠none:=by
     have hH:af ((r,Hp.dead)::H)=db (af H) r (some .dead):=by rw[←bu,bq];rfl
     rw[hH,aB _ _ e']at hr';exact hr'
    exact hs.dj r r' (by simp[hh]) this (Ne.symm e') g (by rw[eF];rfl)
  refine⟨some ⟨g,0,none⟩,cap,by rw[hv,eb],?_,hn,.inr ⟨g,0,rfl,hSg,(cs++rest).toArray,e,(0,0),cs,hg,fun j u hj=>?_,h1,?_⟩⟩
  ·have hle:n'*m<=cap*m:=by rw[←hcap,List.length_append,aL hcs,hn];omega
   exact Nat.le_of_mul_le_mul_right hle hm0
  ·rw[Nat.zero_add];simp only[List.getElem?_toArray];rw[List.getElem?_append_left (List.getElem?_eq_some_iff.1 hj).1];exact hj
  ·refine bF (fun k hk _=>⟨⟨hk.1,fun r' hr'=>?_⟩,rfl⟩) hcs (by rw[hl];intro r' hr';cases hr');by_cases e':r'=r
   ·subst e';rw[aq];exact fun h=>h
   ·rw[aB _ _ e'];refine hk.2 r' ?_;have hH:af ((r,Hp.dead)::H)=db (af H) r (some .dead):=by rw[←bu,bq];rfl
    rw[hH,aB _ _ e']at hr';exact hr'
end
end Go.Am
namespace Go.Am
open Go.RowKit
theorem fi(v:Value)(k:IntKind)(z:Int)(y:Nat)(code:BoundsCode)(h0:0<=z)(h1:z<=y)(e:v=.int k z){P:Program}(w:World):(Instr.sliceBound v y code).run P w=.ok z.toNat w:=by
 subst e;have:0<=z/\z<=(y:Int):=⟨h0,h1⟩;simp[Instr.sliceBound,asIntOf,this]
section
variable {P:Program} {os:List Oper} {c:Ctx} {T T':List (Nat×D)} {H H':List (Nat×Hp)} {sps:List Spec}
variable {ops:Array Oper} {dst:Option Nat} {ty:TypeId} {pos:String} {aft:Array Edge}
theorem wL{ε:Env}{w:World}{S:ck}{n m lo hi cap cap':Nat}{l:List D}{A:Option Addr}(hln:l.length=n*m)(h:n=0\/∃b o,A=some ⟨b,o,none⟩/\S b/\sb ε w S b o l)(h1:lo<=hi)(h2:hi<=n)(h3:hi<=cap)(h4:cap'=cap-lo)
  (hcl:bD ((l.drop (lo*m)).take ((hi-lo)*m))=[]):
  (D.jm (hi-lo) m ((l.drop (lo*m)).take ((hi-lo)*m)) hcl).p ε w S (.slice (if cap=lo then A else A.map (·.add (lo*m))) (hi-lo) cap'):=by
 refine⟨_,cap',rfl,by omega,?_,?_⟩
 ·simp only[List.length_take,List.length_drop,hln];have:hi*m<=n*m:=Nat.mul_le_mul_right _ h2;have e:(hi-lo)*m=hi*m-lo*m:=Nat.sub_mul _ _ _;omega
 ·by_cases h0:hi-lo=0
  ·exact .inl h0
  ·right
   rcases h with h|⟨b,o,eA,hb,hls⟩
   ·omega
   ·subst eA;refine⟨b,o+lo*m,?_,hb,vp (vS hls _) _⟩;rw[if_neg (by omega)];simp[gS]
theorem ai.JM{t:TypeId}{x y:Operand}{n m:Nat}{l:List D}{hl:bD l=[]}{k:IntKind}{z:Int}(hx:ev T x=some (.jm n m l hl))(hy:ev T y=some (.int k z))(ht:sle P t=some m)(h0:0<=z)(h1:z<=n)
  (hr:ai P ops c os (bg T dst (.jm (n-z.toNat) m ((l.drop (z.toNat*m)).take ((n-z.toNat)*m)) (eL (qd hl _) _))) H sps T' H'):
  ai P ops c (⟨dst,.slice t x (some y) none none,ty,pos,aft,none⟩::os) T H (ps [(x,.jm n m l hl),(y,.int k z)] (.jm (n-z.toNat) m ((l.drop (z.toNat*m)).take ((n-z.toNat)*m)) (eL (qd hl _) _))::sps) T' H':=
 .pure [(x,.jm n m l hl),(y,.int k z)] rfl (two hx hy) (kb rfl) (fun ε w S a ha=>by
  obtain⟨A,cap,h2,hc,hln,hA⟩:=ha (x,.jm n m l hl) (by simp);have h3:a.eval y=.int k z:=ha (y,.int k z) (by simp);dsimp only at h2;obtain⟨e,he,hs⟩:=mQ ht;refine⟨_,?_,wL (cap':=cap-z.toNat) hln hA (by omega:z.toNat<=n) (Nat.le_refl n) hc rfl _⟩;simp only[execOp,Instr.sliceAt,run_underlying he,Sem.run_bind,Result.andThen_ok,Instr.slice,h2,Option.map_some,Option.map_none,Instr.sliceBounds,fi _ k z n _ h0 h1 h3,Sem.run_pure,hs]) hr
theorem ai.I9{t:TypeId}{x y:Operand}{n m:Nat}{l:List D}{hl:bD l=[]}{k:IntKind}{z:Int}(hx:ev T x=some (.jm n m l hl))(hy:ev T y=some (.int k z))(ht:sle P t=some m)(h0:0<=z)(h1:z<=n)
  (hr:ai P ops c os (bg T dst (.jm z.toNat m (l.take (z.toNat*m)) (eL hl _))) H sps T' H'):
  ai P ops c (⟨dst,.slice t x none (some y) none,ty,pos,aft,none⟩::os) T H (ps [(x,.jm n m l hl),(y,.int k z)] (.jm z.toNat m (l.take (z.toNat*m)) (eL hl _))::sps) T' H':=
 .pure [(x,.jm n m l hl),(y,.int k z)] rfl (two hx hy) (kb rfl) (fun ε w S a ha=>by
  obtain⟨A,cap,h2,hc,hln,hA⟩:=ha (x,.jm n m l hl) (by simp);have h3:a.eval y=.int k z:=ha (y,.int k z) (by simp);dsimp only at h2;obtain⟨e,he,hs⟩:=mQ ht;have hcut:=wL (cap':=cap) (lo:=0) hln hA (Nat.zero_le z.toNat) (by omega:z.toNat<=n) (by omega) rfl (by rw[Nat.zero_mul,List.drop_zero];exact eL hl _);simp only[Nat.sub_zero,Nat.zero_mul,List.drop_zero]at hcut;refine⟨_,?_,hcut⟩;simp only[execOp,Instr.sliceAt,run_underlying he,Sem.run_bind,Result.andThen_ok,Instr.slice,h2,Option.map_some,Option.map_none,Instr.sliceBounds,fi _ k z cap _ h0 (by omega) h3,Sem.run_pure,hs,Nat.sub_zero,Nat.zero_mul]) hr
theorem ai.HB{t:TypeId}{x y u:Operand}{n m:Nat}{l:List D}{hl:bD l=[]}{k k':IntKind}{z:Int}(hx:ev T x=some (.jm n m l hl))(hy:ev T y=some (.int k z))(hu:ev T u=some (.int k' z))(ht:sle P t=some m)(h0:0<=z)(h1:z<=n)
  (hr:ai P ops c os (bg T dst (.jm z.toNat m (l.take (z.toNat*m)) (eL hl _))) H sps T' H'):
  ai P ops c (⟨dst,.slice t x none (some y) (some u),ty,pos,aft,none⟩::os) T H (ps [(x,.jm n m l hl),(y,.int k z),(u,.int k' z)] (.jm z.toNat m (l.take (z.toNat*m)) (eL hl _))::sps) T' H':=
 .pure [(x,.jm n m l hl),(y,.int k z),(u,.int k' z)] rfl (by
  intro q hq;simp only[List.mem_cons,List.not_mem_nil,or_false]at hq;rcases hq with rfl|rfl|rfl
  ·exact hx
  ·exact hy
  ·exact hu) (kb rfl) (fun ε w S a ha=>by
  obtain⟨A,cap,h2,hc,hln,hA⟩:=ha (x,.jm n m l hl) (by simp);have h3:a.eval y=.int k z:=ha (y,.int k z) (by simp);have h4:a.eval u=.int k' z:=ha (u,.int k' z) (by simp);dsimp only at h2;obtain⟨e,he,hs⟩:=mQ ht;have hcut:=wL (cap':=z.toNat) (cap:=z.toNat) (lo:=0) hln hA (Nat.zero_le z.toNat) (by omega:z.toNat<=n) (by omega) rfl (by rw[Nat.zero_mul,List.drop_zero];exact eL hl _);simp only[Nat.sub_zero,Nat.zero_mul,List.drop_zero]at hcut;refine⟨_,?_,hcut⟩;simp only[execOp,Instr.sliceAt,run_underlying he,Sem.run_bind,Result.andThen_ok,Instr.slice,h2,Option.map_some,Option.map_none,Instr.sliceBounds,fi _ k' z cap _ h0 (by omega) h4,fi _ k z z.toNat _ h0 (by omega) h3,Sem.run_pure,hs,Nat.sub_zero,Nat.zero_mul]) hr
theorem ai.JG{t e:TypeId}{x y:Operand}{r n m m':Nat}{l:List D}{hl:bD l=[]}{k:IntKind}{z:Int}(hx:ev T x=some (.own r))(hy:ev T y=some (.int k z))(hh:af H r=some (.row m e l hl))(ht:sle P t=some m)(hn:l.length=n*m')(hm':Nat.beq m m'=true)(hm:Nat.blt 0 m=true)(h0:0<=z)(h1:z<=n)(hn0:0<n)
  (hr:ai P ops c os (bg T dst (.cut r z.toNat)) H sps T' H'):
  ai P ops c (⟨dst,.slice t x none (some y) none,ty,pos,aft,none⟩::os) T H (AX [(x,.own r),(y,.int k z)] r (.row m e l hl) (.cut r z.toNat)::sps) T' H':=
 .ask rfl (two hx hy) hh (fun r' hr'=>.inl (by simpa [D.cut]using hr')) (fun ε w S a F ha hp=>by
  have h2:a.eval x=ε r:=(ha (x,.own r) (by simp)).1;have h3:a.eval y=.int k z:=ha (y,.int k z) (by simp);have hmm:=Nat.eq_of_beq_eq_true hm';subst hmm;have hm0:0<m:=by simpa using hm
  obtain⟨e',he,hs⟩:=mQ ht;rcases hp with⟨h,_,_⟩|⟨g,n',cap,cs,rest,hb,_,_,_,hcap,_,hln,hcs⟩
  ·subst h;rcases Nat.mul_eq_zero.1 (show n*m=0 from hn.symm)with hn|hn<;>omega
  ·have hnn:n'=n:=Nat.eq_of_mul_eq_mul_right hm0 (hln.symm.trans hn);subst hnn;have hle:n'<=cap:=by
    have hle:n'*m<=cap*m:=by rw[←hcap,List.length_append,aL hcs,hn];omega
    exact Nat.le_of_mul_le_mul_right hle hm0
   refine⟨.slice (some ⟨g,0,none⟩) z.toNat cap,?_,cap,by rw[hb];rfl,by omega,by rw[hb];rfl⟩;simp only[execOp,Instr.sliceAt,run_underlying he,Sem.run_bind,Result.andThen_ok,Instr.slice,h2,hb,Option.map_some,Option.map_none,Instr.sliceBounds,fi _ k z cap _ h0 (by omega) h3,Sem.run_pure,hs,Nat.sub_zero,Nat.zero_mul];simp[gS]) hr
theorem qc{t:TypeId}(ht:isStr P t=true)(s:ByteArray)(lo hi:Option Value)(l h:Nat)(hh:match hi with|some v=>∃k z,v=.int k z/\0<=z/\z<=s.size/\z.toNat=h|none=>h=s.size)
  (hl:match lo with|some v=>∃k z,v=.int k z/\0<=z/\z<=h/\z.toNat=l|none=>l=0)(w:World):(Instr.sliceAt t (.string s) lo hi none).run P w=.ok (.string (s.extract l h)) w:=by
 unfold isStr at ht
 split at ht<;>try cases ht
 rename_i he
 cases hi with
 |none=>
  simp only at hh;subst hh
  cases lo with
  |none=>simp only at hl;subst hl;simp[Instr.sliceAt,run_underlying he,Instr.slice,Instr.sliceBounds]
  |some v=>
   obtain⟨k,z,rfl,h0,h1,rfl⟩:=hl;simp[Instr.sliceAt,run_underlying he,Instr.slice,Instr.sliceBounds,fi _ k z _ _ h0 h1 rfl]
 |some u=>
  obtain⟨k,z,rfl,h0,h1,rfl⟩:=hh
  cases lo with
  |none=>simp only at hl;subst hl;simp[Instr.sliceAt,run_underlying he,Instr.slice,Instr.sliceBounds,fi _ k z _ _ h0 h1 rfl]
  |some v=>
   obtain⟨k',z',rfl,h0',h1',rfl⟩:=hl;simp[Instr.sliceAt,run_underlying he,Instr.slice,Instr.sliceBounds,fi _ k z _ _ h0 h1 rfl,fi _ k' z' _ _ h0' h1' rfl]
theorem ai.JE{t:TypeId}{x y:Operand}{s:ByteArray}{k:IntKind}{z:Int}(hx:ev T x=some (.str s))(hy:ev T y=some (.int k z))(ht:isStr P t=true)(h0:0<=z)(h1:z<=s.size)
  (hr:ai P ops c os (bg T dst (.str (s.extract z.toNat s.size))) H sps T' H'):
  ai P ops c (⟨dst,.slice t x (some y) none none,ty,pos,aft,none⟩::os) T H (ps [(x,.str s),(y,.int k z)] (.str (s.extract z.toNat s.size))::sps) T' H':=
 .pure [(x,.str s),(y,.int k z)] rfl (two hx hy) (kb rfl) (fun ε w S a ha=>by
  have h2:a.eval x=.string s:=ha (x,.str s) (by simp);have h3:a.eval y=.int k z:=ha (y,.int k z) (by simp);refine⟨_,?_,rfl⟩;simp only[execOp,h2,h3,Option.map_some,Option.map_none,Sem.run_bind,qc ht s (some (.int k z)) none z.toNat s.size rfl ⟨k,z,rfl,h0,h1,rfl⟩ w,Result.andThen_ok,Sem.run_pure]) hr
theorem ai.mj{t:TypeId}{x y:Operand}{s:ByteArray}{k:IntKind}{z:Int}(hx:ev T x=some (.str s))(hy:ev T y=some (.int k z))(ht:isStr P t=true)(h0:0<=z)(h1:z<=s.size)
  (hr:ai P ops c os (bg T dst (.str (s.extract 0 z.toNat))) H sps T' H'):
  ai P ops c (⟨dst,.slice t x none (some y) none,ty,pos,aft,none⟩::os) T H (ps [(x,.str s),(y,.int k z)] (.str (s.extract 0 z.toNat))::sps) T' H':=
 .pure [(x,.str s),(y,.int k z)] rfl (two hx hy) (kb rfl) (fun ε w S a ha=>by
  have h2:a.eval x=.string s:=ha (x,.str s) (by simp);have h3:a.eval y=.int k z:=ha (y,.int k z) (by simp);refine⟨_,?_,rfl⟩;simp only[execOp,h2,h3,Option.map_some,Option.map_none,Sem.run_bind,qc ht s none (some (.int k z)) 0 z.toNat ⟨k,z,rfl,h0,h1,rfl⟩ rfl w,Result.andThen_ok,Sem.run_pure]) hr
theorem ai.I4{t:TypeId}{x y:Operand}{s:ByteArray}{k:IntKind}{z:Int}{b:UInt8}(hx:ev T x=some (.str s))(hy:ev T y=some (.int k z))(ht:isStr P t=true)(h0:0<=z)(hb:s[z.toNat]?=some b)
  (hr:ai P ops c os (bg T dst (.int .u8 b.toNat)) H sps T' H'):
  ai P ops c (⟨dst,.index t x y,ty,pos,aft,none⟩::os) T H (ps [(x,.str s),(y,.int k z)] (.int .u8 b.toNat)::sps) T' H':=
 .pure [(x,.str s),(y,.int k z)] rfl (two hx hy) (kb rfl) (fun ε w S a ha=>by
  have h2:a.eval x=.string s:=ha (x,.str s) (by simp);have h3:a.eval y=.int k z:=ha (y,.int k z) (by simp);refine⟨_,?_,rfl⟩;unfold isStr at ht
  split at ht<;>try cases ht
  rename_i he;simp only[execOp,h2,h3,Instr.index,asIntOf,run_underlying he,Sem.run_bind,Sem.run_pure,Result.andThen_ok,h0,if_true,hb]) hr
theorem ai.JW{s k o:Nat}{x:Operand}{l:List D}{d:D}(hx:ev T x=some (.agg l))(hf:wa P s k=some o)(hty:∀fs f,P.underlying s=some (.struct fs)->fs[k]?=some f->lay P f.type=some none)(hd:l[o]?=some d)
  (hr:ai P ops c os (bg T dst d) H sps T' H'):
  ai P ops c (⟨dst,.field s x k,ty,pos,aft,none⟩::os) T H (ps [(x,.agg l)] d::sps) T' H':=
 .pure [(x,.agg l)] rfl (by simpa using hx) (fun r hr=>⟨(x,.agg l),by simp,(bG (l:=l)).2 ⟨d,List.mem_of_getElem? hd,hr⟩⟩) (fun ε w S a ha=>by
  obtain⟨cs,e,h1,hc⟩:=ha (x,.agg l) (by simp);dsimp only at e;obtain⟨v,hv,hp⟩:=fP hc hd;refine⟨v,?_,hp⟩;unfold wa at hf
  split at hf<;>try cases hf
  rename_i fs hu
  split at hf<;>try cases hf
  rename_i f hfk
  split at hf<;>try cases hf
  rename_i i hi
  split at hf
  ·cases hf
  ·injection hf with hf;subst hf;have hly:=hty fs f hu hfk;simp only[execOp,e,Instr.field,run_underlying hu,Sem.run_bind,Result.andThen_ok,hfk,asAgg,Sem.run_pure,part,(iT hly w).1,Bool.false_eq_true,if_false,List.getElem?_toArray,hv]) hr
theorem ai.grow{o:Oper}(xs:List (Operand×D)){d:D}(hg:o.guard=none)(he:∀x∈xs,ev T x.1=some x.2)(hnm:d.nm=[])
  (hrun:∀(ε:Env) (w:World) (S:ck) (a:Act),(∀x∈xs,x.2.p ε w S (a.eval x.1))->∃v w',(execOp a.eval o).run P w=.ok (.value v) w'/\Below w.heap.size w w'/\d.p ε w' (fun k=>S k\/w.heap.size<=k) v)
  (hr:ai P ops c os (bg T o.dst d) H sps T' H'):ai P ops c (o::os) T H (ps xs d::sps) T' H':=by
 refine .cons (sp:=ps xs d) ?_ (eI he) trivial trivial hr;intro hdst T0 H0 hi _ _ a w ⟨ε,φ,hs⟩ Q K hK;rw[if_pos (a_ hg _)];have hx:=cJ hi;obtain⟨v,w',hv,hb,hp⟩:=hrun ε w (Am.al c H0 φ) a (fun x h=>(hs.ev (hx x h) (aw (he x h)).2).1);simp only[Oper.wp,hv,Oper.upon];refine hK _ _ ⟨ε,φ,(hs.grow hb).put (d:=d) (cU hdst) ?_ (by rw[hnm];intro r h;cases h)⟩;refine d.mono hp (fun _ _=>rfl) (fun k hk hlt=>⟨?_,rfl⟩);rcases hk with hk|hk
 ·exact hk
 ·exact⟨.inr (.inl (Nat.le_trans hs.fV hk)),fun r hr' hf=>by have:=(hs.lo r hr' k hf).2;omega⟩
def B7(m:Nat):Nat->Nat->List (Nat×Nat)
 |_,0=>[]
 |i,n+1=>(i*m,m)::B7 m (i+1) n
theorem sr(m:Nat):∀(i n k:Nat) (x:Nat×Nat),(B7 m i n)[k]?=some x->x=((i+k)*m,m)
 |_,0,k,x,h=>by simp[B7]at h
 |i,n+1,0,x,h=>by simp[B7]at h;simpa using h.symm
 |i,n+1,k+1,x,h=>by
  have:=sr m (i+1) n k x (by simpa [B7]using h)
  rwa [show i+1+k=i+(k+1)by omega]at this
theorem ai.bl{t e:TypeId}{parts:List (Nat×Operand)}{m bt n:Nat}{z l:List D}{hl:bD l=[]}(q:List (Nat×Operand×D×List D))(hm:oj P t=some (e,m,bt,z))(hs:Nat.ble (n*m) 16777216=true)(hn0:Nat.blt 0 n=true)(hq:iQ (B7 m 0 n) (n*m) parts q)(he:∀x∈qs q,ev T x.1=some x.2)
  (hle:over (List.replicate n z).flatten q=l)(hln:Nat.beq l.length (n*m)=true)
  (hr:ai P ops c os (bg T dst (.jm n m l hl)) H sps T' H'):
  ai P ops c (⟨dst,.buildSlice t n parts.toArray,ty,pos,aft,none⟩::os) T H (ps (qs q) (.jm n m l hl)::sps) T' H':=by
 obtain⟨i,v,hu,hinf,hzv,hsz,_,ez,hv1,hvs,hm0⟩:=gh hm;obtain⟨hpl,hg⟩:=j2 hq;refine .grow (qs q) rfl he rfl (fun ε w S a ha=>?_) hr;have hn1:0<n:=by simpa using hn0
 have hcs:=eZ hvs hm0 n;have hz0:bN ε w S (List.replicate n z).flatten (madeCells v.cells (n*m)).toList:=by rw[hcs,ez];exact fI (jb _ _ _ _) n
 have hzl:(List.replicate n z).flatten.length=n*m:=by rw[gB,ez,List.length_map,Array.length_toList,hvs]
 obtain⟨cs',hf,hA,hO⟩:=mu (a:=a) (place:=fun i=>some (i*m,m)) hpl (fun k u x hu' hx=>by
  have:=hg k u x hu' hx;have h2:=sr m 0 n u.1 _ this.2.1;simp only[Prod.mk.injEq,Nat.zero_add]at h2;exact⟨this.1,by rw[h2.1,h2.2],this.2.2.1,by rw[hzl];exact this.2.2.2⟩) hz0 (by
   intro u hu';rw[hcs]at hu';simp only[List.mem_flatten,List.mem_replicate]at hu';obtain⟨l',⟨_,rfl⟩,hu'⟩:=hu';exact hv1 u hu') (fun x hx=>ha (x.2.1,x.2.2.1) (List.mem_map.2 ⟨x,hx,rfl⟩))
 refine⟨.slice (some ⟨w.heap.size,0,none⟩) n n,w.alloc (.cells cs' e),?_,(Below.refl _ _).alloc (Nat.le_refl _) _,some ⟨w.heap.size,0,none⟩,n,rfl,Nat.le_refl _,Nat.eq_of_beq_eq_true hln,?_⟩
 ·have hlim:¬(n*m>2^24):=by have:=Nat.le_of_ble_eq_true hs;omega
  have hf':Instr.fill (fun i=>some (i*m,m)) (madeCells v.cells (n*m)) (parts.map fun x=>(x.1,a.eval x.2))=some cs':=hf;have h0:¬(n*m=0):=by
   intro h;rcases Nat.mul_eq_zero.1 h with h|h<;>omega
  simp only[execOp,Instr.buildSlice,run_underlying hu,Sem.run_bind,Result.andThen_ok,sizeOf,typeInfo,run_program,hinf,Sem.run_pure,hsz];simp[hlim,h0,zeroValue,typeInfo,hinf,hzv,newRow];rw[show(Array.map (fun x=>v.cells[x%v.cells.size]!) (Array.range (n*m)))=madeCells v.cells (n*m)from rfl,hf'];simp
 ·by_cases h0:n=0
  ·exact .inl h0
  ·refine .inr ⟨w.heap.size,0,rfl,.inr (Nat.le_refl _),cs',e,(0,0),cs'.toList,ia _ _,fun j u hj=>by rw[Nat.zero_add];simpa using hj,hO,?_⟩;subst hle;exact bF (fun k hk hlt=>⟨.inl hk,Below.heap_alloc _ _ _ hlt⟩) hA (fun _ _=>rfl)
theorem rF{t u:TypeId}{x y:Operand}(a:Act)(w w':World){v:Value}(h:(Builtin.copy_ #[t,u] ty #[a.eval x,a.eval y]).run P w=.ok v w'):
  (execOp a.eval ⟨dst,.call {callee:=.builtin .copy,args:=#[x,y],argTypes:=#[t,u]},ty,pos,aft,none⟩).run P w=.ok (.value v) w':=by
 simp only[execOp,resolve,Sem.run_bind,Sem.run_pure,Result.andThen_ok,invoke,builtin,List.map_toArray,List.map_cons,List.map_nil,h]
end
end Go.Am
namespace Go.Am
open Go.RowKit
def D.sub(r off n:Nat):D where
 p:=fun ε _ _ v=>∃cap,v=.slice (some ⟨j3 (ε r),off,none⟩) n cap
 nm:=[r]
 sh:=.one
 mono:=fun h he _=>by rw[he _ (by simp)];exact h
 ji:=fun⟨_,e⟩=>by subst e;rfl
structure CK(P:Program)(f:FuncId)(ds:List D)(m:Nat)(e:TypeId)(l:List D)(d:D)(l':List D):Prop where
 ok:oR P f=true
 bD:bD ds=[]
 nm:d.nm=[]
 hl:Am.bD l=[]
 hl':Am.bD l'=[]
 calls:∀(A:ck) (w:World) (b:Value) (F:ck) (vs:List Value),(∀k,F k->¬A k/\k<w.heap.size)->(Hp.row m e l hl).p ε0 w A b F->bN ε0 w A ds vs->
  Calls P f (b::vs).toArray w (fun e' w'=>∃v,e'=.returned v/\d.p ε0 w' (fun k=>A k\/w.heap.size<=k) v/\(Hp.row m e l' hl').p ε0 w' (fun k=>A k\/w.heap.size<=k) b F/\nH w.heap.size F w w')
structure A3(P:Program)(f:FuncId)(ds:List D)(m:Nat)(e:TypeId)(l:List D):Prop where
 ok:oR P f=true
 bD:bD ds=[]
 hl:Am.bD l=[]
 calls:∀(A:ck) (w:World) (vs:List Value),bN ε0 w A ds vs->Calls P f vs.toArray w (fun e' w'=>∃v F,e'=.returned v/\
  (Hp.row m e l hl).p ε0 w' (fun k=>(A k\/w.heap.size<=k)/\¬F k) v F/\(∀k,F k->w.heap.size<=k/\k<w'.heap.size)/\Below w.heap.size w w')
theorem row_one{m:Nat}{e:TypeId}{l:List D}{hl:bD l=[]}{ε:Env}{w:World}{S:ck}{b:Value}{F:ck}(h:(Hp.row m e l hl).p ε w S b F):b.oneCell'=true:=by
 rcases h with⟨_,e,_⟩|⟨_,_,_,_,_,e,_⟩<;>subst e<;>rfl
section
variable {P:Program} {os:List Oper} {c:Ctx} {T T':List (Nat×D)} {H H':List (Nat×Hp)} {sps:List Spec}
variable {ops:Array Oper} {dst:Option Nat} {ty:TypeId} {pos:String} {aft:Array Edge}
theorem ai.Av{f:FuncId}{xs:List Operand}{ats:Array TypeId}{ds:List D}{r m:Nat}{e:TypeId}{l:List D}{hl:bD l=[]}(hc:A3 P f ds m e l)(he:zg T xs ds)(hf:af H r=none)
  (hr:ai P ops c os ((r,.own r)::T) ((r,.row m e l hl)::H) sps T' H'):
  ai P ops c (⟨some r,.call {callee:=.value (.func f),args:=xs.toArray,argTypes:=ats},ty,pos,aft,none⟩::os) T H (rws (xs.zip ds) r (.row m e l hl)::sps) T' H':=by
 refine .cons (sp:=rws (xs.zip ds) r (.row m e l hl)) ?_ (eI (gM he)) trivial ⟨hf,trivial⟩ hr;intro hdst T0 H0 hi _ hnew a w ⟨ε,φ,hs⟩ Q K hK;rw[if_pos (a_ rfl _)];have hx:∀x∈xs.zip ds,fq T0 (eN x.1 x.2):=cJ hi;have hall:=jd he (fun x h=>(hs.ev (hx x h) (aw (gM he x h)).2).1);have hall0:bN ε0 w (al c H0 φ) ds (xs.map a.eval):=bF (fun k hk _=>⟨hk,rfl⟩) hall (by rw[hc.bD];intro r h;cases h);simp only[Oper.wp,oc hc.ok,Oper.upon];refine(hc.calls (al c H0 φ) w _ hall0).mono ?_;rintro e' w' ⟨v,F,rfl,hp,hF,hb⟩;have h1:=row_one hp;have hN:=hs.lB (x:=.row m e l hl) (b:=v) (F:=F) (r:=r) hnew.1 hb hF ((Hp.row m e l hl).mono hp (fun r h=>by cases h) (fun k hk _=>⟨⟨?_,fun r' hr'=>?_⟩,rfl⟩) (fun _ _=>rfl)) (fun r' hr'=>by cases hr')
 ·exact hK _ _ ⟨_,_,hN.put (dst:=some r) (d:=.own r) (cU hdst) ⟨(aq _ _ _).symm,h1⟩ (by simp[D.own,bu,aq])⟩
 ·rcases hk.1 with h|h
  ·exact h.1
  ·exact .inr (.inl (Nat.le_trans hs.fV h))
 ·rw[bu]at hr';by_cases e2:r'=r
  ·subst e2;rw[aq];exact hk.2
  ·rw[aB _ _ e2]at hr'|-;rcases hk.1 with h|h
   ·exact h.2 r' hr'
   ·intro hf;have:=(hs.lo r' hr' k hf).2;omega
def Jc(x:Operand)(r:Nat)(xs:List (Operand×D))(h h':Hp)(d:D):Spec:={ins:=eN x (.own r)++xs.flatMap (fun x=>eN x.1 x.2),cY:=[(r,h)],out:=d,cZ:=[(r,h')],news:=[]}
theorem cd.IV{T:Nat->Option D}{H:Nat->Option Hp}{a:Act}{w w':World}{ε:Env}{φ:Nat->ck}(h:cd c T H a w ε φ){r:Nat}{x y:Hp}(hr:H r=some x)(hb:nH w.heap.size (φ r) w w')
  (hy:y.p ε w' (al c H φ) (ε r) (φ r))(hn:y.nm=[]):cd c T (bf H [(r,y)]) a w' ε φ:=by
 rw[bu];have hl:∀r',db H r (some y) r'≠none↔H r'≠none:=by
  intro r';by_cases e:r'=r
  ·subst e;simp[aq,hr]
  ·rw[aB _ _ e]
 have hreg:al c (db H r (some y)) φ=al c H φ:=by
  funext k
  simp only[al];apply propext
  constructor
  ·exact fun⟨h1,h2⟩=>⟨h1,fun r' hr'=>h2 r' ((hl r').2 hr')⟩
  ·exact fun⟨h1,h2⟩=>⟨h1,fun r' hr'=>h2 r' ((hl r').1 hr')⟩
 have hS:∀k,al c H φ k->k<w.heap.size->al c H φ k/\w'.heap[k]?=w.heap[k]?:=fun k hk hlt=>⟨hk,hb.block k hlt (hk.2 r (by simp[hr]))⟩
 constructor
 ·rw[hreg];exact fun t d ht=>d.mono (h.t t d ht) (fun _ _=>rfl) hS
 ·exact fun t d ht r' hr'=>(hl r').2 (h.tn t d ht r' hr')
 ·rw[hreg];intro r' z hz;by_cases e:r'=r
  ·subst e;rw[aq]at hz;injection hz with hz;subst hz;exact hy
  ·rw[aB _ _ e]at hz;exact z.mono (h.h r' z hz) (fun _ _=>rfl) hS (fun k hk=>hb.block k (h.lo r' (by simp[hz]) k hk).2 (h.dj r' r (by simp[hz]) (by simp[hr]) e k hk))
 ·intro r' z hz r2 h2;by_cases e:r'=r
  ·subst e;rw[aq]at hz;injection hz with hz;subst hz;rw[hn]at h2;cases h2
  ·rw[aB _ _ e]at hz;exact(hl r2).2 (h.hn r' z hz r2 h2)
 ·intro r' hr' k hk;have:=h.lo r' ((hl r').1 hr') k hk;exact⟨this.1,Nat.lt_of_lt_of_le this.2 hb.size⟩
 ·exact fun r1 r2 h1 h2=>h.dj r1 r2 ((hl r1).1 h1) ((hl r2).1 h2)
 ·exact h.pP.trans ⟨hb.os,hb.tape,hb.output,hb.size,fun k hk hkl=>hb.block k (Nat.lt_of_lt_of_le hk h.fV) (fun hf=>by
   rcases(h.lo r (by simp[hr]) k hf).1 with h1|h1
   ·omega
   ·exact hkl h1)⟩
 ·exact h.bs
 ·exact h.sz
 ·exact h.df
theorem ai.DA{f:FuncId}{x:Operand}{xs:List Operand}{ats:Array TypeId}{ds:List D}{r m:Nat}{e:TypeId}{l l':List D}{hl:bD l=[]}{hl':bD l'=[]}{d:D}(hc:CK P f ds m e l d l')(hx:ev T x=some (.own r))(he:zg T xs ds)(hh:af H r=some (.row m e l hl))
  (hr:ai P ops c os (bg T dst d) ((r,.row m e l' hl')::H) sps T' H'):
  ai P ops c (⟨dst,.call {callee:=.value (.func f),args:=(x::xs).toArray,argTypes:=ats},ty,pos,aft,none⟩::os) T H (Jc x r (xs.zip ds) (.row m e l hl) (.row m e l' hl') d::sps) T' H':=by
 refine .cons (sp:=Jc x r (xs.zip ds) (.row m e l hl) (.row m e l' hl') d) ?_ (aU.2 ⟨(aw hx).1,eI (gM he)⟩) ⟨hh,trivial⟩ trivial hr;intro hdst T0 H0 hi cY _ a w ⟨ε,φ,hs⟩ Q K hK;rw[if_pos (a_ rfl _)];obtain⟨hi1,hi2⟩:=aU.1 hi;have hxs:∀x∈xs.zip ds,fq T0 (eN x.1 x.2):=cJ hi2;have hall:=jd he (fun x h=>(hs.ev (hxs x h) (aw (gM he x h)).2).1);have hall0:bN ε0 w (al c H0 φ) ds (xs.map a.eval):=bF (fun k hk _=>⟨hk,rfl⟩) hall (by rw[hc.bD];intro r h;cases h);have hb0:a.eval x=ε r:=(hs.ev hi1 (aw hx).2).1.1;have hrow:=hs.h r _ cY.1;simp only[Oper.wp,oc hc.ok,Oper.upon];rw[List.map_cons,hb0];refine(hc.calls (al c H0 φ) w (ε r) (φ r) _ (fun k hk=>⟨fun hk'=>hk'.2 r (by simp[cY.1]) hk,(hs.lo r (by simp[cY.1]) k hk).2⟩) ((Hp.row m e l hl).mono hrow (fun r h=>by cases h) (fun _ hk _=>⟨hk,rfl⟩) (fun _ _=>rfl)) hall0).mono ?_;rintro e' w' ⟨v,rfl,hp,hrow',hb⟩;have hreg:∀k,(al c H0 φ k\/w.heap.size<=k)->al c H0 φ k:=by
  intro k hk;rcases hk with hk|hk
  ·exact hk
  ·exact⟨.inr (.inl (Nat.le_trans hs.fV hk)),fun r hr' hf=>by have:=(hs.lo r hr' k hf).2;omega⟩
 have hN:=hs.IV (y:=.row m e l' hl') cY.1 hb ((Hp.row m e l' hl').mono hrow' (fun r h=>by cases h) (fun k hk _=>⟨hreg k hk,rfl⟩) (fun _ _=>rfl)) rfl;refine hK _ _ ⟨ε,φ,hN.put (d:=d) (cU hdst) ?_ (by rw[hc.nm];intro r h;cases h)⟩;refine d.mono hp (by rw[hc.nm];intro r h;cases h) (fun k hk hlt=>⟨?_,rfl⟩);have:=hreg k hk;refine⟨this.1,fun r' hr'=>this.2 r' ?_⟩;rw[bu]at hr';by_cases e2:r'=r
 ·subst e2;simp[cY.1]
 ·rwa [aB _ _ e2]at hr'
def wR(r:Nat)(b:Value):D where
 p:=fun ε _ _ v=>(v=ε r/\v.oneCell'=true)/\v=b
 nm:=[r]
 sh:=.one
 mono:=fun h he _=>by rw[he _ (by simp)];exact h
 ji:=fun h=>h.1.2
theorem mR{r:Nat}{b:Value}:Le (wR r b) (.own r):=⟨fun _ _ _ _ h=>h.1,fun _ h=>h⟩
theorem ai.Gt{x:Operand}{d d':D}(h:ev T x=some d)(hle:Le d d')(hr:ai P ops c os (bg T dst d') H sps T' H'):
  ai P ops c (⟨dst,.move x,ty,pos,aft,none⟩::os) T H (ps [(x,d)] d'::sps) T' H':=
 .pure [(x,d)] rfl (by simpa using h) (fun r hr=>⟨(x,d),by simp,hle.2 r hr⟩) (fun ε w S a ha=>⟨_,rfl,hle.1 _ _ _ _ (ha (x,d) (by simp))⟩) hr
def Io(c:Ctx)(m:Nat)(e:TypeId)(l:List D)(hl:bD l=[]):Ending->World->Prop:=fun e' w=>∃v F,e'=.returned v/\(Hp.row m e l hl).p ε0 w (fun k=>(c.A k\/c.base<=k\/c.L k)/\¬F k) v F/\(∀k,F k->(c.base<=k\/c.L k)/\k<w.heap.size)/\nH c.base c.L c.w0 w
theorem Ok.Bq{fn:Func}{t r m:Nat}{e:TypeId}{l:List D}{hl:bD l=[]}{Q:Exit->Act->World->Prop}(hQ:∀a w,bodyPost P fn (Io c m e l hl) .ret a w->Q .ret a w)(hx:fn.results=#[.tmp t])(ht:aM T t=some (.own r))(hh:af H r=some (.row m e l hl)):Ok P c T H .ret Q:=by
 intro a w ⟨ε,φ,hs⟩;have hv:a.tmps.getD t undef=ε r:=(hs.t t _ ht).1;refine wp_ret (hQ _ _ ⟨hs.df,a.tmps.getD t undef,?_,a.tmps.getD t undef,φ r,rfl,?_,hs.lo r (by simp[hh]),hs.pP⟩)
 ·rw[fp,hx];simp[HU]
 ·rw[hv];exact(Hp.row m e l hl).mono (hs.h r _ hh) (fun r h=>by cases h) (fun k hk _=>⟨⟨hk.1,hk.2 r (by simp[hh])⟩,rfl⟩) (fun _ _=>rfl)
theorem A3.of{f:FuncId}{fn:Func}{x:Code}{ds:List D}{m:Nat}{e:TypeId}{l:List D}{hl:Am.bD l=[]}(hf:P.funcs[f]?=some fn)(hb:fn.body=some x)(hok:oR P f=true)(hn:Am.bD ds=[])
  (hlt:Nat.ble ds.length fn.ntmps=true)(h:∀A w0,Ok P ⟨A,w0.heap.size,w0,fn.ntmps,fun _=>False⟩ (frame 0 ds) [] x (bodyPost P fn (Io ⟨A,w0.heap.size,w0,fn.ntmps,fun _=>False⟩ m e l hl))):A3 P f ds m e l where
 ok:=hok
 bD:=hn
 hl:=hl
 calls:=by
  intro A w vs hv;refine(calls_of_wp hf hb (h A w _ _ ⟨ε0,fun _ _=>False,?_⟩)).mono (fun e' w' ⟨v,F,e0,hp,hF,hb'⟩=>⟨v,F,e0,(Hp.row m e l hl).mono hp (fun r h=>by cases h) (fun k hk _=>⟨⟨hk.1.elim .inl (fun h=>h.elim .inr False.elim),hk.2⟩,rfl⟩) (fun _ _=>rfl),
   fun k hk=>⟨(hF k hk).1.elim id False.elim,(hF k hk).2⟩,⟨hb'.os,hb'.tape,hb'.output,hb'.size,fun k hk=>hb'.block k hk (fun h=>h)⟩⟩)
  have hlen:=aL hv;have hl':=Nat.le_of_ble_eq_true hlt
  constructor
  ·intro t d' ht;obtain⟨j,v,e,hj,hp,_⟩:=fo hv ht;have hjl:j<vs.length:=(List.getElem?_eq_some_iff.1 hj).1;have:(vs.toArray++Array.replicate (fn.ntmps-vs.toArray.size) undef).getD t undef=v:=by
    simp only[Nat.zero_add]at e;subst e;simp[Array.getD_eq_getD_getElem?,Array.getElem?_append,hjl];have:=(List.getElem?_eq_some_iff.1 hj).2;exact this
   rw[this];exact d'.mono hp (fun _ _=>rfl) (fun k hk _=>⟨⟨.inl hk,fun _ hr=>absurd rfl hr⟩,rfl⟩)
  ·intro t d' ht r hr;obtain⟨_,_,_,_,_,hm⟩:=fo hv ht;have:r∈Am.bD ds:=bG.2 ⟨d',hm,hr⟩;rw[hn]at this;cases this
  ·intro r y hy;cases hy
  ·intro r y hy;cases hy
  ·intro r hr;exact absurd rfl hr
  ·intro r _ hr;exact absurd rfl hr
  ·exact .of (Below.refl _ _)
  ·rfl
  ·simp[hlen];omega
  ·rfl
def Gz(c:Ctx)(d:D)(m:Nat)(e:TypeId)(l:List D)(hl:bD l=[])(b:Value):Ending->World->Prop:=fun e' w=>∃v F,e'=.returned v/\d.p ε0 w (fun k=>c.A k\/c.base<=k) v/\
 (Hp.row m e l hl).p ε0 w (fun k=>c.A k\/c.base<=k) b F/\nH c.base c.L c.w0 w
theorem xA{a:Act}{w:World}{ε:Env}{φ:Nat->ck}{r m:Nat}{e:TypeId}{l:List D}{hl:bD l=[]}{b:Value}{t:Nat}(hL:∀k,c.L k->b≠.slice none 0 0/\k=j3 b)(ht:aM T t=some (wR r b))(hh:af H r=some (.row m e l hl))(hs:cd c (aM T) (af H) a w ε φ):
  (Hp.row m e l hl).p ε w (al c (af H) φ) b (φ r)/\∀k,al c (af H) φ k->c.A k\/c.base<=k:=by
 have hp:=hs.t t _ ht;have e1:b=ε r:=hp.2.symm.trans hp.1.1;have hrow:=hs.h r _ hh;rw[←e1]at hrow;refine⟨hrow,fun k hk=>?_⟩;rcases hk.1 with h|h|h
 ·exact .inl h
 ·exact .inr h
 ·exfalso
  obtain⟨h0,h1⟩:=hL k h;rcases hrow with⟨_,e0,_⟩|⟨g,n,cap,cs,rest,e0,eF,_⟩
  ·exact h0 e0
  ·refine hk.2 r (by simp[hh]) ?_;rw[eF,h1,e0]
   rfl
theorem Ok.HH{fn:Func}{x:ResultVar}{t r m:Nat}{e:TypeId}{l:List D}{hl:bD l=[]}{b:Value}{d d':D}{Q:Exit->Act->World->Prop}(hL:∀k,c.L k->b≠.slice none 0 0/\k=j3 b)(hQ:∀a w,bodyPost P fn (Gz c d m e l hl b) .ret a w->Q .ret a w)(hx:fn.results=#[x])(h:RV P c T H x d')
  (hle:Le d' d)(hn:d.nm=[])(ht:aM T t=some (wR r b))(hh:af H r=some (.row m e l hl)):Ok P c T H .ret Q:=by
 intro a w ⟨ε,φ,hs⟩;obtain⟨v,hv,hp⟩:=h a w ε φ hs;obtain⟨hrow,hS⟩:=xA hL ht hh hs;refine wp_ret (hQ _ _ ⟨hs.df,v,?_,v,φ r,rfl,d.mono (hle.1 _ _ _ _ hp) (by rw[hn];intro r h;cases h) (fun k hk _=>⟨hS k hk,rfl⟩),(Hp.row m e l hl).mono hrow (fun r h=>by cases h) (fun k hk _=>⟨hS k hk,rfl⟩) (fun _ _=>rfl),hs.pP⟩);rw[fp,hx];simp[hv]
theorem CK.of{f:FuncId}{fn:Func}{x:Code}{ds:List D}{m:Nat}{e:TypeId}{l l':List D}{hl:Am.bD l=[]}{hl':Am.bD l'=[]}{d:D}(hf:P.funcs[f]?=some fn)(hb:fn.body=some x)(hok:oR P f=true)(hn:Am.bD ds=[])(hd:d.nm=[])
  (hlt:Nat.ble (ds.length+1) fn.ntmps=true)(h:∀A w0 b F,(∀k,F k->b≠.slice none 0 0/\k=j3 b)->Ok P ⟨A,w0.heap.size,w0,fn.ntmps,F⟩ ((0,wR 0 b)::frame 1 ds) [(0,.row m e l hl)] x (bodyPost P fn (Gz ⟨A,w0.heap.size,w0,fn.ntmps,F⟩ d m e l' hl' b))):CK P f ds m e l d l' where
 ok:=hok
 bD:=hn
 nm:=hd
 hl:=hl
 hl':=hl'
 calls:=by
  intro A w b F vs hF hrow hv;have hFb:∀k,F k->b≠.slice none 0 0/\k=j3 b:=by
   intro k hk;rcases hrow with⟨_,_,e0⟩|⟨g,n,cap,cs,rest,e0,eF,_⟩
   ·rw[e0]at hk;exact hk.elim
   ·rw[eF]at hk;refine⟨by rw[e0];simp,?_⟩;rw[e0];exact hk
  refine(calls_of_wp hf hb (h A w b F hFb _ _ ⟨db ε0 0 b,db (fun _=>noBlocks) 0 F,?_⟩)).mono (fun e' w' ⟨v,F',e0,hp,hr',hb'⟩=>⟨v,e0,hp,?_,hb'⟩)
  ·have hlen:=aL hv;have hl2:=Nat.le_of_ble_eq_true hlt;have hreg:∀k,A k->al ⟨A,w.heap.size,w,fn.ntmps,F⟩ (af [(0,.row m e l hl)]) (db (fun _=>noBlocks) 0 F) k:=fun k hk=>⟨.inl hk,fun r hr=>by
    by_cases e0:r=0
    ·subst e0;rw[aq];exact fun hf=>(hF k hf).1 hk
    ·rw[aB _ _ e0];exact fun h=>h⟩
   have h00:af [(0,Hp.row m e l hl)] 0=some (.row m e l hl):=rfl;have h0n:∀r,r≠0->af [(0,Hp.row m e l hl)] r=none:=fun r hr=>by
    simp only[af]
    cases hb:Nat.beq r 0 with
    |true=>exact absurd (Nat.eq_of_beq_eq_true hb) hr
    |false=>rfl
   have htm:∀j,((b::vs).toArray++Array.replicate (fn.ntmps-(b::vs).toArray.size) undef).getD j undef=(b::vs).getD j undef\/(b::vs).length<=j:=by
    intro j;by_cases hj:j<(b::vs).length
    ·left
     rw[Array.getD_eq_getD_getElem?,Array.getElem?_append,if_pos (by simpa using hj)];simp
    ·right;omega
   constructor
   ·intro t d' ht;simp only[aM]at ht
    cases hbq:Nat.beq t 0 with
    |true=>
     rw[hbq]at ht;injection ht with ht;subst ht;have e0:=Nat.eq_of_beq_eq_true hbq;subst e0;rcases htm 0 with h|h
     ·rw[h];exact⟨⟨by rw[aq];rfl,row_one hrow⟩,rfl⟩
     ·simp at h
    |false=>
     rw[hbq]at ht;obtain⟨j,v,e,hj,hp,hm⟩:=fo hv ht;have hjl:j<vs.length:=(List.getElem?_eq_some_iff.1 hj).1;have:((b::vs).toArray++Array.replicate (fn.ntmps-(b::vs).toArray.size) undef).getD t undef=v:=by
      rcases htm t with h|h
      ·rw[h,e,Nat.add_comm,List.getD_cons_succ];simp[hj]
      ·simp at h;omega
     rw[this];exact d'.mono hp (fun r hr=>by
      have:r∈Am.bD ds:=bG.2 ⟨d',hm,hr⟩;rw[hn]at this;cases this) (fun k hk _=>⟨hreg k hk,rfl⟩)
   ·intro t d' ht r hr;simp only[aM]at ht
    cases hbq:Nat.beq t 0 with
    |true=>
     rw[hbq]at ht;injection ht with ht;subst ht;have:r=0:=by simpa [wR]using hr
     subst this;simp[h00]
    |false=>
     rw[hbq]at ht;obtain⟨_,_,_,_,_,hm⟩:=fo hv ht;have:r∈Am.bD ds:=bG.2 ⟨d',hm,hr⟩;rw[hn]at this;cases this
   ·intro r y hy;by_cases e0:r=0
    ·subst e0;rw[h00]at hy;injection hy with hy;subst hy;rw[aq,aq];exact(Hp.row m e l hl).mono hrow (fun r h=>by cases h) (fun k hk _=>⟨hreg k hk,rfl⟩) (fun _ _=>rfl)
    ·rw[h0n r e0]at hy;cases hy
   ·intro r y hy;by_cases e0:r=0
    ·subst e0;rw[h00]at hy;injection hy with hy;subst hy;intro r' hr';cases hr'
    ·rw[h0n r e0]at hy;cases hy
   ·intro r hr k hk;by_cases e0:r=0
    ·subst e0;rw[aq]at hk;exact⟨.inr hk,(hF k hk).2⟩
    ·exact absurd (h0n r e0) hr
   ·intro r r' hr hr' hne;by_cases e0:r=0
    ·subst e0;exact absurd (h0n r' (Ne.symm hne)) hr'
    ·exact absurd (h0n r e0) hr
   ·exact .of (Below.refl _ _)
   ·rfl
   ·simp[hlen];omega
   ·rfl
  ·have hF':F'=F:=by
    rcases hrow with⟨_,e1,eF⟩|⟨g,n,cap,cs,rest,e1,eF,_⟩<;>rcases hr' with⟨_,e2,eF'⟩|⟨g',n',cap',cs',rest',e2,eF',_⟩
    ·rw[eF,eF']
    ·rw[e1]at e2;cases e2
    ·rw[e1]at e2;cases e2
    ·rw[e1]at e2;injection e2 with e3;injection e3 with e3;injection e3 with e3;rw[eF,eF',e3]
   rw[←hF'];exact hr'
end
end Go.Am
namespace Go.Am
open Go.RowKit
section
variable {P:Program} {os:List Oper} {c:Ctx} {T T':List (Nat×D)} {H H':List (Nat×Hp)} {sps:List Spec}
variable {ops:Array Oper} {dst:Option Nat} {ty:TypeId} {pos:String} {aft:Array Edge}
theorem ai.Jz{t e:TypeId}{x y:Operand}{r n m m':Nat}{l:List D}{hl:bD l=[]}{k:IntKind}{z:Int}(hx:ev T x=some (.own r))(hy:ev T y=some (.int k z))(hh:af H r=some (.row m e l hl))(ht:sle P t=some m)(hn:l.length=n*m')(hm':Nat.beq m m'=true)(hm:Nat.blt 0 m=true)(h0:0<=z)(h1:z<n)
  (hr:ai P ops c os (bg T dst (.sub r (z.toNat*m) (n-z.toNat))) H sps T' H'):
  ai P ops c (⟨dst,.slice t x (some y) none none,ty,pos,aft,none⟩::os) T H (AX [(x,.own r),(y,.int k z)] r (.row m e l hl) (.sub r (z.toNat*m) (n-z.toNat))::sps) T' H':=
 .ask rfl (two hx hy) hh (fun r' hr'=>.inl (by simpa [D.sub]using hr')) (fun ε w S a F ha hp=>by
  have h2:a.eval x=ε r:=(ha (x,.own r) (by simp)).1;have h3:a.eval y=.int k z:=ha (y,.int k z) (by simp);have hmm:=Nat.eq_of_beq_eq_true hm';subst hmm;have hm0:0<m:=by simpa using hm
  obtain⟨e',he,hs⟩:=mQ ht;rcases hp with⟨h,_,_⟩|⟨g,n',cap,cs,rest,hb,_,_,_,hcap,_,hln,hcs⟩
  ·subst h;rcases Nat.mul_eq_zero.1 (show n*m=0 from hn.symm)with hn|hn<;>omega
  ·have hnn:n'=n:=Nat.eq_of_mul_eq_mul_right hm0 (hln.symm.trans hn);subst hnn;have hle:n'<=cap:=by
    have hle:n'*m<=cap*m:=by rw[←hcap,List.length_append,aL hcs,hn];omega
    exact Nat.le_of_mul_le_mul_right hle hm0
   refine⟨.slice (some ⟨g,z.toNat*m,none⟩) (n'-z.toNat) (cap-z.toNat),?_,cap-z.toNat,by rw[hb];rfl⟩;simp only[execOp,Instr.sliceAt,run_underlying he,Sem.run_bind,Result.andThen_ok,Instr.slice,h2,hb,Option.map_some,Option.map_none,Instr.sliceBounds,fi _ k z n' _ h0 (by omega) h3,Sem.run_pure,hs];simp[gS];intro h;omega) hr
theorem u_{t u e e':TypeId}{a:Act}{w:World}{ε:Env}{φ:Nat->ck}{T:Nat->Option D}{H:Nat->Option Hp}(hs:cd c T H a w ε φ){r off nd n2 dcap cap2:Nat}{l l2 z:List D}{hl:bD l=[]}{hl2:bD l2=[]}{hl':bD (l.take off++l2++l.drop (off+n2))=[]}{bt:Nat}
  (hr:H r=some (.row 1 e l hl))(hm:oj P t=some (e',1,bt,z)){A:Option Addr}(hA:n2=0\/∃b o,A=some ⟨b,o,none⟩/\al c H φ b/\sb ε w (al c H φ) b o l2)(hln2:l2.length=n2*1)
  (hnd:n2<=nd)(hfit:off+n2<=l.length){base:Option Addr}(hbase:base=some ⟨j3 (ε r),off,none⟩\/n2=0):
  ∃w',(Builtin.copy_ #[t,u] ty #[.slice base nd dcap,.slice A n2 cap2]).run P w=.ok (.int .i64 n2) w'/\cd c T (bf H [(r,.row 1 e (l.take off++l2++l.drop (off+n2)) hl')]) a w' ε φ:=by
 obtain⟨i,v,hu,hinf,hzv,hsz,_,ez,hv1,hvs,hm0⟩:=gh hm;have hs1:(P.info? e').map (·.size)=some 1:=by rw[hinf];simp[hsz]
 by_cases h0:n2=0
 ·subst h0;have e2:l2=[]:=List.eq_nil_of_length_eq_zero (by simpa using hln2);subst e2;refine⟨w,run_copy_none w t u ty e' base A nd dcap 0 cap2 hu hs1 (by simp),?_⟩;have he:Hp.row 1 e (l.take off++[]++l.drop (off+0)) hl'=Hp.row 1 e l hl:=by
   congr 1
   simp
  rw[he];have:bf H [(r,.row 1 e l hl)]=H:=by
   rw[bu]
   funext k
   by_cases ek:k=r
   ·subst ek;rw[aq,hr]
   ·rw[aB _ _ ek]
  rw[this];exact hs
 ·have hb:=hbase.resolve_right h0;obtain⟨b,o,rfl,hSb,cells,ty2,mark,vs,hg2,hj,hv1',hall⟩:=hA.resolve_left h0;have hvl:vs.length=n2:=by rw[aL hall,hln2];omega
  rcases hs.h r _ hr with⟨e0,_,_⟩|⟨g,n',cap,cs,rest,hbv,eF,hg,h1,hcap,hmax,hln,hcs⟩
  ·subst e0;simp at hfit;omega
  ·have hlen:=aL hcs;have hbase':base=some ⟨g,off,none⟩:=by rw[hb,hbv];rfl
   subst hbase';have hrun:=run_copy_row (P:=P) w t u ty e' g off nd dcap ⟨b,o,none⟩ n2 cap2 (cs++rest).toArray e vs hu hs1 hg (by rw[hvl];exact(Nat.min_eq_left hnd).symm) (fun j u hu'=>by
    rw[gS];have:=hj j u hu';simpa [World.cell?,hg2]using this) (by simp;omega) hv1'
   have hsplit:(cs++rest).take off++vs++(cs++rest).drop (off+n2)=(cs.take off++vs++cs.drop (off+n2))++rest:=by
    rw[List.take_append_of_le_length (by omega),List.drop_append_of_le_length (by omega)];simp[List.append_assoc]
   refine⟨w.setRow g ((cs.take off++vs++cs.drop (off+n2))++rest).toArray,?_,?_⟩
   ·rw[hrun,←hsplit,hvl]
    rfl
   refine hs.tf (w':=w.setRow g ((cs.take off++vs++cs.drop (off+n2))++rest).toArray) (y:=.row 1 e (l.take off++l2++l.drop (off+n2)) hl') hr (by simp[World.setRow]) rfl rfl rfl
    (fun k hk=>fE _ _ _ _ (fun e'=>hk (by rw[eF,e'];rfl)))
    (.inr ⟨g,n',cap,cs.take off++vs++cs.drop (off+n2),rest,hbv,eF,setRow_heap w g (cs++rest).toArray _ e _ hg,(by
     intro u hu;simp only[List.mem_append]at hu;rcases hu with(hu|hu)|hu
     ·exact h1 u (List.mem_of_mem_take hu)
     ·exact hv1' u hu
     ·exact h1 u (List.mem_of_mem_drop hu)),(by rw[←hcap];simp;omega),hmax,(by rw[←hln];simp;omega),by
     refine bF ?_ (bR (bR (eP off hcs) hall) (fl (off+n2) hcs)) (fun _ _=>rfl);intro k hk _;exact⟨hk,fE _ _ _ _ (fun e'=>hk.2 r (by simp[hr]) (by rw[eF,e'];rfl))⟩⟩)
    (fun r' hr'=>by cases hr')
def Is(x:Operand)(dx:D)(y:Operand)(dy:D)(r n2:Nat)(h h':Hp):Spec:={ins:=eN x dx++eN y dy,cY:=[(r,h)],out:=.int .i64 n2,cZ:=[(r,h')],news:=[]}
theorem jR{l l2:List D}{off k:Nat}(h:bD l=[])(h2:bD l2=[]):bD (l.take off++l2++l.drop k)=[]:=dB (dB (eL h off) h2) (qd h k)
theorem ai.JV{t u e e':TypeId}{x y:Operand}{r off nd n2 bt:Nat}{l l2 z:List D}{hl:bD l=[]}{hl2:bD l2=[]}(hx:ev T x=some (.sub r off nd))(hy:ev T y=some (.jm n2 1 l2 hl2))(hh:af H r=some (.row 1 e l hl))(hm:oj P t=some (e',1,bt,z))(hnd:n2<=nd)(hfit:off+n2<=l.length)
  (hr:ai P ops c os (bg T dst (.int .i64 n2)) ((r,.row 1 e (l.take off++l2++l.drop (off+n2)) (jR hl hl2))::H) sps T' H'):
  ai P ops c (⟨dst,.call {callee:=.builtin .copy,args:=#[x,y],argTypes:=#[t,u]},ty,pos,aft,none⟩::os) T H (Is x (.sub r off nd) y (.jm n2 1 l2 hl2) r n2 (.row 1 e l hl) (.row 1 e (l.take off++l2++l.drop (off+n2)) (jR hl hl2))::sps) T' H':=by
 refine .cons (sp:=Is x (.sub r off nd) y (.jm n2 1 l2 hl2) r n2 (.row 1 e l hl) (.row 1 e (l.take off++l2++l.drop (off+n2)) (jR hl hl2))) ?_ (aU.2 ⟨(aw hx).1,(aw hy).1⟩) ⟨hh,trivial⟩ trivial hr;intro hdst T0 H0 hi cY _ a w ⟨ε,φ,hs⟩ Q K hK;rw[if_pos (a_ rfl _)];obtain⟨hi1,hi2⟩:=aU.1 hi;obtain⟨dcap,h1⟩:=(hs.ev hi1 (aw hx).2).1;obtain⟨A,cap2,h2,_,hln2,hA⟩:=(hs.ev hi2 (aw hy).2).1;obtain⟨w',hrun,hS⟩:=u_ (t:=t) (u:=u) (ty:=ty) (hl2:=hl2) (hl':=jR hl hl2) hs cY.1 hm (cap2:=cap2) (dcap:=dcap) hA hln2 hnd hfit (.inl rfl);have hrun':(Builtin.copy_ #[t,u] ty #[a.eval x,a.eval y]).run P w=.ok (.int .i64 n2) w':=by rw[h1,h2];exact hrun
 simp only[Oper.wp,rF a w w' hrun',Oper.upon];exact hK _ _ ⟨ε,φ,hS.put (d:=.int .i64 n2) (cU hdst) rfl (fun _ h=>by cases h)⟩
theorem ai.JS{t u e e':TypeId}{x y:Operand}{r n2 bt:Nat}{l l2 z:List D}{hl:bD l=[]}{hl2:bD l2=[]}(hx:ev T x=some (.own r))(hy:ev T y=some (.jm n2 1 l2 hl2))(hh:af H r=some (.row 1 e l hl))(hm:oj P t=some (e',1,bt,z))(hfit:0+n2<=l.length)
  (hr:ai P ops c os (bg T dst (.int .i64 n2)) ((r,.row 1 e (l.take 0++l2++l.drop (0+n2)) (jR hl hl2))::H) sps T' H'):
  ai P ops c (⟨dst,.call {callee:=.builtin .copy,args:=#[x,y],argTypes:=#[t,u]},ty,pos,aft,none⟩::os) T H (Is x (.own r) y (.jm n2 1 l2 hl2) r n2 (.row 1 e l hl) (.row 1 e (l.take 0++l2++l.drop (0+n2)) (jR hl hl2))::sps) T' H':=by
 refine .cons (sp:=Is x (.own r) y (.jm n2 1 l2 hl2) r n2 (.row 1 e l hl) (.row 1 e (l.take 0++l2++l.drop (0+n2)) (jR hl hl2))) ?_ (aU.2 ⟨(aw hx).1,(aw hy).1⟩) ⟨hh,trivial⟩ trivial hr;intro hdst T0 H0 hi cY _ a w ⟨ε,φ,hs⟩ Q K hK;rw[if_pos (a_ rfl _)];obtain⟨hi1,hi2⟩:=aU.1 hi;have h1:a.eval x=ε r:=(hs.ev hi1 (aw hx).2).1.1;obtain⟨A,cap2,h2,_,hln2,hA⟩:=(hs.ev hi2 (aw hy).2).1;have key:∃base nd dcap,ε r=.slice base nd dcap/\n2<=nd/\(base=some ⟨j3 (ε r),0,none⟩\/n2=0):=by
  rcases hs.h r _ cY.1 with⟨e0,eb,_⟩|⟨g,n',cap,cs,rest,hbv,eF,hg,_,_,_,hln,_⟩
  ·subst e0;simp at hfit;exact⟨none,0,0,eb,by omega,.inr (by omega)⟩
  ·exact⟨some ⟨g,0,none⟩,n',cap,hbv,by omega,.inl (by rw[hbv];rfl)⟩
 obtain⟨base,nd,dcap,h3,hnd,hbase⟩:=key;obtain⟨w',hrun,hS⟩:=u_ (t:=t) (u:=u) (ty:=ty) (hl2:=hl2) (hl':=jR hl hl2) hs cY.1 hm (cap2:=cap2) (dcap:=dcap) hA hln2 hnd hfit hbase;have hrun':(Builtin.copy_ #[t,u] ty #[a.eval x,a.eval y]).run P w=.ok (.int .i64 n2) w':=by rw[h1,h2,h3];exact hrun
 simp only[Oper.wp,rF a w w' hrun',Oper.upon];exact hK _ _ ⟨ε,φ,hS.put (d:=.int .i64 n2) (cU hdst) rfl (fun _ h=>by cases h)⟩
theorem Ok.HY{x:Code}{Q:Exit->Act->World->Prop}(t r2:Nat){r m m' n:Nat}{e:TypeId}{l:List D}{hl:bD l=[]}(ht:aM T t=some (.cut r n))(hh:af H r=some (.row m e l hl))(hf:af H r2=none)(hn:n*m'<=l.length)(hm':Nat.beq m m'=true)(h0:0<l.length)
  (h:Ok P c ((t,.own r2)::T) ((r,.dead)::(r2,.row m e (l.take (n*m)) (eL hl _))::H) x Q):Ok P c T H x Q:=by
 intro a w ⟨ε,φ,hs⟩;have hmm:=Nat.eq_of_beq_eq_true hm';subst hmm;obtain⟨capv,hv,hcv,hce⟩:=hs.t t _ ht;rcases hs.h r _ hh with⟨e0,_,_⟩|⟨g,n',cap,cs,rest,eb,eF,hg,h1,hcp,hmax,hln,hcs⟩
 ·subst e0;simp at h0
 have hlen:=aL hcs;have ecap:capv=cap:=by rw[hce,eb];rfl
 subst ecap;have hv':a.tmps.getD t undef=.slice (some ⟨g,0,none⟩) n capv:=by rw[hv,eb];rfl
 have hN:=hs.zZ (w':=w) (x:=.row m e (l.take (n*m)) (eL hl _)) (b:=.slice (some ⟨g,0,none⟩) n capv) (F:=φ r) (r:=r2) hh hf (Nat.le_refl _) rfl rfl rfl (fun _ _ _=>rfl) (fun k hk=>⟨.inl hk,(hs.lo r (by simp[hh]) k hk).2⟩)
  (.inr ⟨g,n,capv,cs.take (n*m),cs.drop (n*m)++rest,rfl,eF,by rw[←List.append_assoc,List.take_append_drop];exact hg,fun u hu=>h1 u (List.mem_of_mem_take hu),by rw[←List.append_assoc,List.take_append_drop];exact hcp,hmax,by simp;omega,?_⟩) rfl
 ·refine h a w (Sat.ext (T:=fY (aM T) (some t) (.own r2)) (H:=bf (af H) [(r,.dead),(r2,.row m e (l.take (n*m)) (eL hl _))]) ⟨_,_,{hN with t:=?_,tn:=?_}⟩ (fun t'=>?_) (fun r'=>?_))
  ·intro t' d hd;simp only[fY]at hd
   split at hd
   ·rename_i e';subst e';injection hd with hd;subst hd;exact⟨by rw[hv',aq],by rw[hv'];rfl⟩
   ·exact hN.t t' d hd
  ·intro t' d hd r' hr';simp only[fY]at hd
   split at hd
   ·injection hd with hd;subst hd;have:r'=r2:=by simpa [D.own]using hr'
    subst this;have hne:r'≠r:=fun e=>by subst e;rw[hf]at hh;cases hh
    rw[gl,aB _ _ hne,aq];simp
   ·exact hN.tn t' d hd r' hr'
  ·rw[iH];rfl
  ·rw[bq];rfl
 ·refine eP (n*m) (bF (fun k hk _=>⟨⟨hk.1,fun r' hr' hf'=>?_⟩,rfl⟩) hcs (by rw[hl];intro r' hr';cases hr'));rw[gl]at hr';by_cases e1:r'=r
  ·subst e1;have hne:r'≠r2:=fun e=>by subst e;rw[hf]at hh;cases hh
   rw[aB _ _ hne,aq]at hf';exact hf'
  ·by_cases e2:r'=r2
   ·subst e2;rw[aq]at hf';exact hk.2 r (by simp[hh]) hf'
   ·rw[aB _ _ e2,aB _ _ e1]at hf';rw[aB _ _ e1,aB _ _ e2]at hr';exact hk.2 r' hr' hf'
end
end Go.Am
namespace Go.Am
def aA(x:Nat):List Nat:=if h:x=0 then []else x%4294967296::aA (x/4294967296)
termination_by x
decreasing_by exact Nat.div_lt_self (by omega) (by omega)
def val:List Nat->Nat
 |[]=>0
 |d::l=>d+4294967296*val l
theorem cS:aA 0=[]:=by rw[aA];simp
theorem ky{x:Nat}(h:x≠0):aA x=x%4294967296::aA (x/4294967296):=by rw[aA];simp[h]
theorem dL(x:Nat):val (aA x)=x:=by
 induction x using Nat.strongRecOn with
 |_ x ih=>
  by_cases h:x=0
  ·subst h;rw[cS];rfl
  ·rw[ky h,val,ih _ (Nat.div_lt_self (by omega) (by omega))];omega
def cW(l:List Nat):Prop:=∀d∈l,d<4294967296
theorem cL(x:Nat):cW (aA x):=by
 induction x using Nat.strongRecOn with
 |_ x ih=>
  by_cases h:x=0
  ·subst h;rw[cS];intro d hd;cases hd
  ·rw[ky h];intro d hd;rcases List.mem_cons.1 hd with rfl|hd
   ·omega
   ·exact ih _ (Nat.div_lt_self (by omega) (by omega)) d hd
theorem vr{d x:Nat}(hd:d<4294967296)(h:x≠0\/d≠0):aA (d+4294967296*x)=d::aA x:=by
 rw[ky (by omega)]
 congr 1
 ·omega
 ·congr 1;omega
theorem yp:∀{l:List Nat},cW l->(∀d,l.getLast?=some d->d≠0)->aA (val l)=l
 |[],_,_=>by rw[val,cS]
 |[d],hl,hn=>by
  have h0:=hn d rfl;have hd:=hl d (by simp);rw[val,val,vr hd (.inr h0),cS]
 |d::e::l,hl,hn=>by
  have ih:=yp (l:=e::l) (fun x hx=>hl x (by simp[hx])) (fun x hx=>hn x (by simpa using hx));have hd:=hl d (by simp);rw[val,vr hd,ih]
  left
  intro e0;rw[e0,cS]at ih;cases ih
theorem kS(l m:List Nat):val (l++m)=val l+4294967296^l.length*val m:=by
 induction l with
 |nil=>simp[val]
 |cons d l ih=>
  simp only[List.cons_append,val,ih,List.length_cons,Nat.pow_succ];rw[Nat.mul_add,←Nat.mul_assoc,Nat.mul_comm 4294967296 (4294967296^l.length),Nat.add_assoc]
theorem px{l:List Nat}(h:cW l):val l<4294967296^l.length:=by
 induction l with
 |nil=>simp[val]
 |cons d l ih=>
  have h1:=ih (fun x hx=>h x (by simp[hx]));have h2:=h d (by simp);simp only[val,List.length_cons,Nat.pow_succ];omega
theorem jQ{l m:List Nat}(h:cW l)(k:cW m):cW (l++m):=fun d hd=>(List.mem_append.1 hd).elim (h d) (k d)
theorem l9{l:List Nat}(h:cW l)(n:Nat):cW (l.take n):=fun d hd=>h d (List.mem_of_mem_take hd)
theorem jy{l:List Nat}(h:cW l)(n:Nat):cW (l.drop n):=fun d hd=>h d (List.mem_of_mem_drop hd)
theorem ee{l:List Nat}{i:Nat}{d:Nat}(h:l[i]?=some d):val (l.take (i+1))=val (l.take i)+4294967296^i*d:=by
 obtain⟨hlt,he⟩:=List.getElem?_eq_some_iff.1 h;rw[List.take_succ_eq_append_getElem hlt,kS,he];have:(l.take i).length=i:=by simp;omega
 rw[this];simp[val]
theorem oM(n:Nat):val (List.replicate n 0)=0:=by
 induction n with
 |zero=>rfl
 |succ n ih=>simp[List.replicate_succ,val,ih]
def bE(l:List Nat):List D:=l.map fun d:Nat=>.int .u32 d
theorem aO(l:List Nat):bD (bE l)=[]:=wb (fun _=>rfl) l
theorem bB(l:List Nat):(bE l).length=l.length:=by simp[bE]
theorem bj{l:List Nat}{i d:Nat}(h:l[i]?=some d):(bE l)[i]?=some (.int .u32 d):=by simp[bE,h]
theorem C4(l:List Nat)(i d:Nat):(bE l).set i (.int .u32 d)=bE (l.set i d):=by simp[bE,List.map_set]
theorem vB(l:List Nat)(n:Nat):(bE l).take n=bE (l.take n):=by simp[bE,List.map_take]
theorem Bk(l:List Nat)(n:Nat):(bE l).drop n=bE (l.drop n):=by simp[bE,List.map_drop]
def dz(l:List Nat):D:=.jm l.length 1 (bE l) (aO l)
def aj(x:Nat):D:=dz (aA x)
end Go.Am
namespace Go.Am
noncomputable abbrev PP:Program:=Go.Proofs.Tryz.prog
theorem cn:PP.follows .mixedOrders=true:=by kernel_rfl
theorem pk:sle PP 24=some 1:=by kernel_rfl
theorem lP:isSlice PP 24=true:=by kernel_rfl
theorem q6:lay PP 230=some none:=by kernel_rfl
theorem Cu:oj PP 24=some (230,1,4,[.int .u32 0]):=by kernel_rfl
theorem mo:DP PP 117 230=some .u32:=by kernel_rfl
theorem nv:DP PP 230 117=some .u64:=by kernel_rfl
theorem Bm{xs:List Nat}{i:Nat}(h:val (xs.take (i+1))=val xs)(h0:xs[i]?=some 0):val (xs.take i)=val xs:=by
 rw[←h,ee h0];omega
theorem CD{xs:List Nat}{i:Nat}(hl:cW xs)(h:val (xs.take i)=val xs)(hi:i<=xs.length)(hz:i=0\/∃d,xs[i-1]?=some d/\d≠0):xs.take i=aA (val xs):=by
 rw[←h]
 symm
 apply yp (l9 hl i);intro d hd;rcases hz with hz|⟨d',hd',hne⟩
 ·subst hz;simp at hd
 ·rw[List.getLast?_eq_getElem?]at hd;have hlen:(xs.take i).length=i:=by simp;omega
  rw[hlen]at hd;by_cases h0:i=0
  ·subst h0;simp at hd
  ·rw[List.getElem?_take_of_lt (by omega),hd']at hd;injection hd with hd;subst hd;exact hne
theorem wrap_i64{n:Int}(h0:-9223372036854775808<=n)(h1:n<=9223372036854775807):IntKind.i64.wrap n=n:=by rw[IntKind.wrap_i64];omega
theorem GX{n n' m:Nat}{l l':List D}{hl:bD l=[]}{hl':bD l'=[]}(h1:n=n')(h2:l=l'):D.jm n m l hl=D.jm n' m l' hl':=by
 subst h1;subst h2;rfl
theorem nF{n:Nat}{l:List D}{hl:bD l=[]}{xs:List Nat}(h1:n=xs.length)(h2:l=bE xs):D.jm n 1 l hl=dz xs:=GX h1 h2
theorem Le.of_eq{d d':D}(h:d=d'):Le d d':=h▸.refl d
theorem m_(xs:List Nat)(hl:cW xs)(hb:xs.length<=9223372036854775807):lO PP 210 [dz xs] (aj (val xs)):=by
 refine .of Go.Proofs.Tryz.func210 rfl (by kernel_rfl) rfl rfl rfl (fun A w0=>?_);refine .al (.ao rfl .nil) rfl ?_;refine .al (.mv rfl<|.ln rfl lP<|.ao rfl .nil) rfl ?_;refine .uB (ι:={i:Nat//i<=xs.length/\val (xs.take i)=val xs/\(i=0\/∃d,xs[i-1]?=some d/\d≠0)}) (fun i=>[(0,dz xs),(3,.int .i64 (i.1:Nat))]) (fun _=>[]) ?_ ?_
 ·refine .block (.loop (ι:={i:Nat//i<=xs.length/\val (xs.take i)=val xs}) (fun i=>[(0,dz xs),(3,.int .i64 (i.1:Nat))]) (fun _=>[]) (fun i=>i.1) ⟨xs.length,Nat.le_refl _,by rw[List.take_length]⟩
   (.of rfl) trivial rfl rfl ?_)
  rintro⟨i,hi,hv⟩;refine .sq ?_
  cases i with
  |zero=>
   refine .al (.mv rfl<|.cm rfl rfl (b:=false) rfl<|.mv rfl<|.gN rfl rfl rfl rfl<|.gN rfl rfl rfl rfl<|.gN rfl rfl rfl rfl<|.gN rfl rfl rfl rfl<|.gN rfl rfl rfl rfl<|.gN rfl rfl rfl rfl<|.Jg rfl rfl .nil) rfl ?_;exact .cF rfl (.exit fun a w hs=>hs.to ⟨0,Nat.zero_le _,hv,.inl rfl⟩ (.of rfl) trivial rfl rfl)
  |succ i=>
   have hlt:i<xs.length:=hi;have hx:xs[i]?=some xs[i]:=List.getElem?_eq_getElem hlt;generalize xs[i]=d at hx;have hsub:IntKind.i64.wrap (((i+1:Nat):Int)-1)=(i:Int):=by rw[wrap_i64 (by omega) (by omega)];omega
   by_cases h0:d=0
   ·subst h0;refine .al (.mv rfl<|.cm rfl rfl (b:=true) (by simp[du])<|.mv rfl<|.gY rfl rfl rfl rfl<|.mv rfl<|.gY rfl rfl rfl rfl<|.mv rfl<|.gY rfl rfl rfl rfl<|.ar rfl rfl (congrArg some hsub)<|
     .gY rfl rfl rfl rfl<|.pV rfl rfl pk (by omega) (by omega) (bj hx)<|.gY rfl rfl rfl rfl<|.iJ rfl q6<|.gY rfl rfl rfl rfl<|.cm rfl rfl (b:=true) rfl<|.II rfl rfl .nil) rfl ?_
    refine .cT rfl (.skip (Ok.on (.block (.region (.mv rfl<|.ar rfl rfl (congrArg some hsub)<|.ao rfl .nil) rfl fun a w hs=>?_))));exact hs.round (m:=i+1) ⟨i,by omega,Bm hv hx⟩ (by simp) (.of rfl) trivial rfl rfl
   ·refine .al (.mv rfl<|.cm rfl rfl (b:=true) (by simp[du])<|.mv rfl<|.gY rfl rfl rfl rfl<|.mv rfl<|.gY rfl rfl rfl rfl<|.mv rfl<|.gY rfl rfl rfl rfl<|.ar rfl rfl (congrArg some hsub)<|
     .gY rfl rfl rfl rfl<|.pV rfl rfl pk (by omega) (by omega) (bj hx)<|.gY rfl rfl rfl rfl<|.iJ rfl q6<|.gY rfl rfl rfl rfl<|.cm rfl rfl (b:=false) (by simp[du,h0])<|.II rfl rfl .nil) rfl ?_
    exact .cF rfl (.exit fun a w hs=>hs.to ⟨i+1,hi,hv,.inr ⟨d,by simpa using hx,h0⟩⟩ (.of rfl) trivial rfl rfl)
 ·rintro⟨i,hi,hv,hz⟩;show Ok PP _ [(0,dz xs),(3,.int .i64 (i:Nat))] [] _ _;refine .al (.mv rfl<|.mv rfl<|.mv rfl<|.HB rfl rfl rfl pk (by omega) (by omega)<|.ao rfl .nil) rfl ?_;refine .qR rfl (.tmp rfl) (.of_eq ?_) rfl;have he:=CD hl hv hi hz;refine nF ?_ ?_
  ·rw[←he];simp;omega
  ·rw[←he];simp[bE,List.map_take]
end Go.Am
namespace Go.Am
theorem ng:DP PP 2 117=some .u64:=by kernel_rfl
theorem bk:DP PP 230 117=some .u64:=by kernel_rfl
theorem rZ:DP PP 230 5=some .u8:=by kernel_rfl
theorem eB:DP PP 117 230=some .u32:=by kernel_rfl
theorem sa:DP PP 117 5=some .u8:=by kernel_rfl
theorem xg:DP PP 5 3=some .i64:=by kernel_rfl
theorem se:DP PP 5 117=some .u64:=by kernel_rfl
theorem kL:wa PP 43 0=some 0:=by kernel_rfl
theorem fw:wa PP 43 1=some 1:=by kernel_rfl
theorem py:wa PP 43 2=some 2:=by kernel_rfl
theorem lV:wa PP 37 0=some 0:=by kernel_rfl
theorem l5:wa PP 37 1=some 2:=by kernel_rfl
theorem eD:wa PP 35 0=some 0:=by kernel_rfl
theorem ba:wa PP 35 1=some 1:=by kernel_rfl
theorem bL:wa PP 28 0=some 0:=by kernel_rfl
theorem lC:wa PP 28 1=some 2:=by kernel_rfl
theorem jD:wa PP 84 0=some 0:=by kernel_rfl
theorem lQ:wa PP 84 1=some 3:=by kernel_rfl
theorem aQ:wa PP 26 0=some 0:=by kernel_rfl
theorem aK:wa PP 26 1=some 1:=by kernel_rfl
theorem jF:isBool PP 4=true:=by kernel_rfl
theorem fg:isSlice PP 129=true:=by kernel_rfl
theorem ik:isSlice PP 67=true:=by kernel_rfl
theorem cr:isSlice PP 68=true:=by kernel_rfl
theorem bI:isSlice PP 33=true:=by kernel_rfl
theorem BM:isSlice PP 259=true:=by kernel_rfl
theorem bn:isSlice PP 132=true:=by kernel_rfl
theorem au:isSlice PP 24=true:=by kernel_rfl
theorem c_:isStr PP 9=true:=by kernel_rfl
theorem kD:lay PP 67=some none:=by kernel_rfl
theorem aH:lay PP 68=some none:=by kernel_rfl
theorem d_:lay PP 33=some none:=by kernel_rfl
theorem lF:lay PP 43=some (some 3):=by kernel_rfl
theorem aX:lay PP 37=some (some 4):=by kernel_rfl
theorem aF:lay PP 35=some (some 2):=by kernel_rfl
theorem bW:lay PP 4=some none:=by kernel_rfl
theorem bV:lay PP 132=some none:=by kernel_rfl
theorem aa:lay PP 28=some (some 3):=by kernel_rfl
theorem m3:lay PP 84=some (some 6):=by kernel_rfl
theorem aS:lay PP 24=some none:=by kernel_rfl
theorem bb:lay PP 26=some (some 2):=by kernel_rfl
theorem dw:lay PP 3=some none:=by kernel_rfl
theorem gX:lay PP 2=some none:=by kernel_rfl
theorem aP:lay PP 230=some none:=by kernel_rfl
theorem nB:lay PP 5=some none:=by kernel_rfl
theorem lW:oj PP 69=some (37,4,64,[.bool false,.nil,.bool false,.nil]):=by kernel_rfl
theorem bM:oj PP 68=some (28,3,56,[.bool false,.nil,.nil]):=by kernel_rfl
theorem jC:oj PP 33=some (3,1,8,[.int .i64 0]):=by kernel_rfl
theorem vg:oj PP 259=some (5,1,1,[.int .u8 0]):=by kernel_rfl
theorem lz:oj PP 134=some (69,1,24,[.nil]):=by kernel_rfl
theorem bX:oj PP 132=some (68,1,24,[.nil]):=by kernel_rfl
theorem dE:oj PP 24=some (230,1,4,[.int .u32 0]):=by kernel_rfl
theorem nh:EV PP 37=some [(0,2),(2,2)]:=by kernel_rfl
theorem fN:EV PP 35=some [(0,1),(1,1)]:=by kernel_rfl
theorem cw:EV PP 28=some [(0,2),(2,1)]:=by kernel_rfl
theorem wh:EV PP 84=some [(0,3),(3,3)]:=by kernel_rfl
theorem gj:EV PP 26=some [(0,1),(1,1)]:=by kernel_rfl
theorem j7:sle PP 129=some 1:=by kernel_rfl
theorem pq:sle PP 67=some 3:=by kernel_rfl
theorem aT:sle PP 68=some 3:=by kernel_rfl
theorem dI:sle PP 33=some 1:=by kernel_rfl
theorem om:sle PP 259=some 1:=by kernel_rfl
theorem aC:sle PP 132=some 1:=by kernel_rfl
theorem av:sle PP 24=some 1:=by kernel_rfl
theorem cV:Bu PP 37=some [.bool false,.nil,.bool false,.nil]:=by kernel_rfl
theorem b9:Bu PP 35=some [.bool false,.nil]:=by kernel_rfl
theorem az:Bu PP 28=some [.bool false,.nil,.nil]:=by kernel_rfl
theorem nN:Bu PP 84=some [.bool false,.nil,.nil,.bool false,.nil,.nil]:=by kernel_rfl
theorem dH:Bu PP 26=some [.bool false,.nil]:=by kernel_rfl
theorem F0:Bu PP 3=some [.int .i64 0]:=by kernel_rfl
end Go.Am
namespace Go.Am
open Go.RowKit
def D.HQ(q:Prop):D where
 p:=fun _ _ _ v=>∃b,v=.bool b/\(b=true->q)
 nm:=[]
 sh:=.one
 mono:=fun h _ _=>h
 ji:=fun⟨_,e,_⟩=>by subst e;rfl
section
variable {P:Program} {os:List Oper} {c:Ctx} {T T':List (Nat×D)} {H H':List (Nat×Hp)} {sps:List Spec}
variable {ops:Array Oper} {dst:Option Nat} {ty:TypeId} {pos:String} {aft:Array Edge}
theorem Ok.cQ{o:Operand}{q:Prop}{x y:Code}{Q:Exit->Act->World->Prop}(h:ev T o=some (.HQ q))(kT:q->Ok P c T H x Q)(kF:Ok P c T H y Q):Ok P c T H (.cond o x y) Q:=by
 intro a w ⟨ε,φ,hs⟩;obtain⟨b,hv,hq⟩:=(hs.ev (aw h).1 (aw h).2).1
 cases b with
 |true=>exact wp_cond_true hv (kT (hq rfl) a w ⟨ε,φ,hs⟩)
 |false=>exact wp_cond_false hv (kF a w ⟨ε,φ,hs⟩)
theorem vG(op:BinOp)(t:TypeId)(x y:Operand)(A:Option Addr)(n c:Nat)(v:Value):eqGuard op t x y (.slice A n c) v=pure ():=by cases op<;>rfl
theorem np(w:World)(d:Nat){t e:TypeId}(A:Option Addr)(n cap:Nat)(hu:P.underlying t=some (.slice e)):(Op.equalIn (d+1) t (.slice A n cap) (.slice none 0 0)).run P w=.ok A.isNone w:=by
 cases A<;>simp[Op.equalIn,run_underlying hu]
theorem ai.IW{xt yt:TypeId}{x y:Operand}{n m:Nat}{l:List D}{hl:bD l=[]}(ht:isSlice P xt=true)(hx:ev T x=some (.jm n m l hl))(hy:ev T y=some .nil)
  (hr:ai P ops c os (bg T dst (.HQ (n=0))) H sps T' H'):
  ai P ops c (⟨dst,.binOp .eql xt x y yt,ty,pos,aft,none⟩::os) T H (ps [(x,.jm n m l hl),(y,.nil)] (.HQ (n=0))::sps) T' H':=
 .pure [(x,.jm n m l hl),(y,.nil)] rfl (two hx hy) (kb rfl) (fun ε w S a ha=>by
  obtain⟨A,cap,h1,_,_,hA⟩:=ha (x,.jm n m l hl) (by simp);have h2:a.eval y=.slice none 0 0:=ha (y,.nil) (by simp);dsimp only at h1;unfold isSlice at ht
  split at ht<;>try cases ht
  rename_i e he;refine⟨.bool A.isNone,?_,A.isNone,rfl,fun h=>?_⟩
  ·have hq:(Op.equal xt (.slice A n cap) (.slice none 0 0)).run P w=.ok A.isNone w:=by
    simp only[Op.equal,Op.maxDepth];exact np w 9999 A n cap he
   simp only[execOp,h1,h2,vG,Sem.run_bind,Sem.run_pure,Result.andThen_ok];simp[binOp,hq]
  ·rcases hA with h0|⟨b,o,e,_⟩
   ·exact h0
   ·subst e;cases h) hr
theorem ai.It{t e:TypeId}{r m bt:Nat}{z:List D}(hm:oj P t=some (e,m,bt,z))(hf:af H r=none)(hr:ai P ops c os ((r,.own r)::T) ((r,.row m e [] rfl)::H) sps T' H'):
  ai P ops c (⟨some r,.buildSlice t 0 #[],ty,pos,aft,none⟩::os) T H (rws [] r (.row m e [] rfl)::sps) T' H':=by
 refine .cons (sp:=rws [] r (.row m e [] rfl)) ?_ trivial trivial ⟨hf,trivial⟩ hr;intro hd T0 H0 hi _ hnew a w ⟨ε,φ,hs⟩ Q K hK;rw[if_pos (a_ rfl _)];obtain⟨i,v,hu,hinf,hzv,hsz,_,ez,hv1,hvs,hm0⟩:=gh hm;have hex:(execOp a.eval ⟨some r,.buildSlice t 0 #[],ty,pos,aft,none⟩).run P w=.ok (.value (.slice (some ⟨w.heap.size,0,none⟩) 0 0)) (w.alloc (.cells #[] e)):=by
  simp[execOp,Instr.buildSlice,run_underlying hu,sizeOf,typeInfo,hinf,Instr.fill,newRow,Array.range_zero']
 simp only[Oper.wp,hex,Oper.upon];have hN:=hs.lB (x:=.row m e [] rfl) (b:=.slice (some ⟨w.heap.size,0,none⟩) 0 0) (F:=only w.heap.size) (w':=w.alloc (.cells #[] e)) (r:=r) hnew.1 ((Below.refl _ _).alloc (Nat.le_refl _) _)
  (fun k hk=>by simp only[only]at hk;subst hk;simp)
  (.inr ⟨w.heap.size,0,0,[],[],rfl,rfl,by rw[ia];rfl,(fun u hu=>by cases hu),by simp,Nat.zero_le _,by simp,trivial⟩) (fun r' hr'=>by cases hr')
 exact hK _ _ ⟨_,_,hN.put (dst:=some r) (d:=.own r) (cU hd) ⟨(aq _ _ _).symm,rfl⟩ (by simp[D.own,bu,aq])⟩
end
end Go.Am
namespace Go.Am
inductive St(σ ρ:Type) where
 |next (s:σ)
 |done (r:ρ)
def j6{σ ρ:Type}(body:σ->Option (St σ ρ)):Nat->σ->Option ρ
 |0,_=>none
 |k+1,s=>match body s with
  |none=>none
  |some (.next s')=>j6 body k s'
  |some (.done r)=>some r
theorem pf{σ ρ:Type}{body:σ->Option (St σ ρ)}{r:ρ}:∀{k k':Nat} {s:σ},j6 body k s=some r->k<=k'->j6 body k' s=some r
 |0,_,_,h,_=>by cases h
 |k+1,0,_,_,hle=>by omega
 |k+1,k'+1,s,h,hle=>by
  simp only[j6]at h|-
  cases hb:body s with
  |none=>rw[hb]at h;cases h
  |some st=>
   rw[hb]at h
   cases st with
   |next s'=>exact pf (k:=k) h (by omega)
   |done r'=>exact h
open Classical in
noncomputable def Loop{σ ρ:Type}(body:σ->Option (St σ ρ))(s:σ):Option ρ:=
 if h:∃k r,j6 body k s=some r then some (Classical.choose (Classical.choose_spec h))else none
theorem kv{σ ρ:Type}{body:σ->Option (St σ ρ)}{s:σ}{r:ρ}:Loop body s=some r↔∃k,j6 body k s=some r:=by
 unfold Loop
 constructor
 ·intro h
  split at h
  ·rename_i hk;injection h with h;exact⟨_,by rw[←h];exact Classical.choose_spec (Classical.choose_spec hk)⟩
  ·cases h
 ·rintro⟨k,hk⟩;have hx:∃k r,j6 body k s=some r:=⟨k,r,hk⟩;rw[dif_pos hx];have h2:=Classical.choose_spec (Classical.choose_spec hx);generalize Classical.choose (Classical.choose_spec hx)=r2 at h2|-;generalize Classical.choose hx=k2 at h2;have e1:=pf hk (Nat.le_max_left k k2);have e2:=pf h2 (Nat.le_max_right k k2);rw[e1]at e2;exact e2.symm
theorem Ek{σ ρ:Type}{body:σ->Option (St σ ρ)}{s:σ}{r:ρ}(k:Nat)(h:j6 body k s=some r):Loop body s=some r:=kv.2 ⟨k,h⟩
theorem eQ{σ ρ:Type}{body:σ->Option (St σ ρ)}{s s':σ}(h:body s=some (.next s')):Loop body s=Loop body s':=by
 have key:∀r,Loop body s=some r↔Loop body s'=some r:=by
  intro r;rw[kv,kv]
  constructor
  ·rintro⟨k,hk⟩
   cases k with
   |zero=>cases hk
   |succ k=>simp only[j6,h]at hk;exact⟨k,hk⟩
  ·rintro⟨k,hk⟩;exact⟨k+1,by simp only[j6,h];exact hk⟩
 cases e:Loop body s' with
 |some r=>exact(key r).2 e
 |none=>
  cases e2:Loop body s with
  |none=>rfl
  |some r=>rw[(key r).1 e2]at e;cases e
theorem dQ{σ ρ:Type}{body:σ->Option (St σ ρ)}{s:σ}{r:ρ}(h:body s=some (.done r)):Loop body s=some r:=Ek 1 (by simp only[j6,h])
theorem Dj{σ ρ:Type}{body:σ->Option (St σ ρ)}(I:σ->Prop)(μ:σ->Nat)(Q:ρ->Prop)
  (h:∀s,I s->(∃s',body s=some (.next s')/\I s'/\μ s'<μ s)\/(∃r,body s=some (.done r)/\Q r)):∀{s:σ},I s->∃r,Loop body s=some r/\Q r:=by
 intro s hs;generalize hn:μ s=n
 induction n using Nat.strongRecOn generalizing s with
 |_ n ih=>
  rcases h s hs with⟨s',hb,hI,hlt⟩|⟨r,hb,hq⟩
  ·obtain⟨r,hr,hq⟩:=ih (μ s') (hn▸hlt) hI rfl;exact⟨r,(eQ hb).trans hr,hq⟩
  ·exact⟨r,dQ hb,hq⟩
theorem bZ{σ ρ:Type}{body:σ->Option (St σ ρ)}(s0:σ)(I:σ->Prop)(μ:σ->Nat)(Q:ρ->Prop)(h0:I s0)
  (h:∀s,I s->(∃s',body s=some (.next s')/\I s'/\μ s'<μ s)\/(∃r,body s=some (.done r)/\Q r)):∃r,Loop body s0=some r/\Q r:=Dj I μ Q h h0
theorem bind_some{α β:Type}{x:Option α}{f:α->Option β}{r:β}(h:x.bind f=some r):∃a,x=some a/\f a=some r:=by
 cases x with
 |none=>cases h
 |some a=>exact⟨a,rfl,h⟩
theorem ab{α:Type}{p:Prop}[Decidable p]{a b r:Option α}(hp:p)(h:(if p then a else b)=r):a=r:=by rwa [if_pos hp]at h
theorem ae{α:Type}{p:Prop}[Decidable p]{a b r:Option α}(hp:¬p)(h:(if p then a else b)=r):b=r:=by rwa [if_neg hp]at h
def bO{α:Type}(p:Prop)[Decidable p](x:Option α):Option α:=if p then x else none
theorem ax{α:Type}{p:Prop}[Decidable p]{x:Option α}{r:α}(h:bO p x=some r):p/\x=some r:=by
 unfold bO at h
 split at h
 ·rename_i hp;exact⟨hp,h⟩
 ·cases h
theorem aG{α:Type}{p:Prop}[Decidable p]{x:Option α}(hp:p):bO p x=x:=if_pos hp
section
variable {P:Program} {c:Ctx} {T T':List (Nat×D)} {H H':List (Nat×Hp)} {Q:Exit->Act->World->Prop} {x y:Code}
theorem Ok.cc{σ ρ:Type}{body:σ->Option (St σ ρ)}(IT:σ->List (Nat×D))(IH:σ->List (Nat×Hp)){s0:σ}{r:ρ}(hl:Loop body s0=some r)
  (hT:iO T (IT s0))(hH:kY H (IH s0))(h1:cE (IH s0) (pN (IT s0))=true)(h2:cE (IH s0) (j4 (IH s0))=true)
  (h:∀s st,body s=some st->Ok P c (IT s) (IH s) x (Exit.then (fun a w=>∃s',st=.next s'/\Sat c (aM (IT s')) (af (IH s')) a w) (fun e a w=>∃r',st=.done r'/\(r'=r->Q e a w)))):Ok P c T H (.loop x) Q:=by
 obtain⟨k0,hk0⟩:=kv.1 hl;refine .loop (ι:={p:Nat×σ//j6 body p.1 p.2=some r}) (fun p=>IT p.1.2) (fun p=>IH p.1.2) (fun p=>p.1.1) ⟨(k0,s0),hk0⟩ hT hH h1 h2 ?_;rintro⟨⟨k,s⟩,hk⟩
 cases k with
 |zero=>cases hk
 |succ k=>
  simp only[j6]at hk
  cases hb:body s with
  |none=>rw[hb]at hk;cases hk
  |some st=>
   rw[hb]at hk;intro a w hs;refine wp_mono (h s st hb a w hs) (fun e a' w' hq=>?_)
   cases e with
   |normal=>
    obtain⟨s',rfl,hs'⟩:=hq;exact⟨⟨(k,s'),hk⟩,Nat.lt_succ_self k,hs'⟩
   |_=>
    obtain⟨r',rfl,hq'⟩:=hq;injection hk with hk;exact hq' hk
end
theorem sj{α:Type}{a b:α}(h:some a=some b):b=a:=(Option.some.inj h).symm
end Go.Am
namespace Go.Am
open Go.RowKit
structure ak(α:Type) where
 n:Nat
 c:α->List D
 len:∀a,(c a).length=n
 nm:∀a,bD (c a)=[]
def flat{α:Type}(e:ak α)(l:List α):List D:=l.flatMap e.c
theorem dN{α:Type}(e:ak α)(l:List α):bD (flat e l)=[]:=rN e.nm l
theorem bp{α:Type}(e:ak α):∀l:List α,(flat e l).length=l.length*e.n
 |[]=>by simp[flat]
 |a::l=>by
  have:=bp e l;simp only[flat,List.flatMap_cons,List.length_append,e.len,List.length_cons]at this|-;rw[this,Nat.succ_mul,Nat.add_comm]
theorem nZ{α:Type}(e:ak α)(l m:List α):flat e (l++m)=flat e l++flat e m:=by simp[flat]
theorem oq{α:Type}(e:ak α):∀(l:List α) (i:Nat),(flat e l).drop (i*e.n)=flat e (l.drop i)
 |l,0=>by simp
 |[],i+1=>by simp[flat]
 |a::l,i+1=>by
  have:=oq e l i;rw[List.drop_succ_cons,←this];simp only[flat,List.flatMap_cons];rw[Nat.succ_mul,Nat.add_comm,←List.drop_drop]
  congr 1
  rw[List.drop_append_of_le_length (by rw[e.len];exact Nat.le_refl _),List.drop_of_length_le (by rw[e.len];exact Nat.le_refl _),List.nil_append]
theorem qv{α:Type}(e:ak α){l:List α}{i:Nat}{a:α}(h:l[i]?=some a):((flat e l).drop (i*e.n)).take e.n=e.c a:=by
 obtain⟨hlt,he⟩:=List.getElem?_eq_some_iff.1 h;rw[oq,List.drop_eq_getElem_cons hlt,he];simp only[flat,List.flatMap_cons];rw[List.take_append_of_le_length (by rw[e.len];exact Nat.le_refl _),List.take_of_length_le (by rw[e.len];exact Nat.le_refl _)]
theorem rf{α:Type}(e:ak α):∀(l:List α) (i:Nat),(flat e l).take (i*e.n)=flat e (l.take i)
 |l,0=>by simp[flat]
 |[],i+1=>by simp[flat]
 |a::l,i+1=>by
  have:=rf e l i;rw[List.take_succ_cons];simp only[flat,List.flatMap_cons]at this|-;rw[←this,Nat.succ_mul,Nat.add_comm,List.take_append,e.len,Nat.add_sub_cancel_left,List.take_of_length_le (by rw[e.len];omega)]
theorem yw{α:Type}(e:ak α){l:List α}{i:Nat}(h:i<l.length)(a:α):(flat e l).take (i*e.n)++e.c a++(flat e l).drop (i*e.n+e.n)=flat e (l.set i a):=by
 rw[rf,show i*e.n+e.n=(i+1)*e.n by rw[Nat.succ_mul],oq,List.set_eq_take_append_cons_drop,if_pos h];simp[flat,List.append_assoc]
theorem tl{α:Type}(e:ak α)(a:α):∀n,flat e (List.replicate n a)=(List.replicate n (e.c a)).flatten
 |0=>rfl
 |n+1=>by rw[List.replicate_succ,List.replicate_succ,List.flatten_cons,←tl e a n];rfl
def an{α:Type}(e:ak α)(l:List α):D:=.jm l.length e.n (flat e l) (dN e l)
def aR{α:Type}(e:ak α)(ty:TypeId)(l:List α):Hp:=.row e.n ty (flat e l) (dN e l)
def ak.int(k:IntKind):ak Int:=⟨1,fun n=>[.int k n],fun _=>rfl,fun _=>rfl⟩
def ak.slice{α:Type}(e:ak α):ak (List α):=⟨1,fun l=>[an e l],fun _=>rfl,fun _=>rfl⟩
def ak.prod{α β:Type}(e:ak α)(f:ak β):ak (α×β):=⟨e.n+f.n,fun p=>e.c p.1++f.c p.2,fun p=>by rw[List.length_append,e.len,f.len],fun p=>dB (e.nm _) (f.nm _)⟩
def si:List D->List D->Prop
 |[],[]=>True
 |d::l,d'::l'=>Le d d'/\si l l'
 |_,_=>False
theorem si.all{ε:Env}{w:World}{S:ck}:∀{l l':List D} {vs:List Value},si l l'->bN ε w S l vs->bN ε w S l' vs
 |[],[],_,_,h=>h
 |_::_,_::_,[],_,h=>h.elim
 |_::_,_::_,_::_,h,ha=>⟨h.1.1 _ _ _ _ ha.1,si.all h.2 ha.2⟩
 |[],_::_,_,h,_=>h.elim
 |_::_,[],_,h,_=>h.elim
theorem si.bD:∀{l l':List D},si l l'->∀r∈bD l',r∈Am.bD l
 |[],[],_,r,h=>h
 |d::l,d'::l',h,r,hr=>by
  simp only[Am.bD,List.mem_append]at hr|-;exact hr.imp (h.1.2 r) (si.bD h.2 r)
 |[],_::_,h,_,_=>h.elim
 |_::_,[],h,_,_=>h.elim
theorem si.append:∀{l l' m m':List D},si l l'->si m m'->si (l++m) (l'++m')
 |[],[],_,_,_,h=>h
 |_::_,_::_,_,_,h,k=>⟨h.1,si.append h.2 k⟩
 |[],_::_,_,_,h,_=>h.elim
 |_::_,[],_,_,h,_=>h.elim
theorem si.rep{z z':List D}(h:si z z'):∀n,si (List.replicate n z).flatten (List.replicate n z').flatten
 |0=>trivial
 |n+1=>by rw[List.replicate_succ,List.replicate_succ,List.flatten_cons,List.flatten_cons];exact h.append (si.rep h n)
theorem Le.agg{l l':List D}(h:si l l'):Le (.agg l) (.agg l'):=⟨fun _ _ _ _ ⟨cs,e,h1,ha⟩=>⟨cs,e,h1,h.all ha⟩,fun r hr=>h.bD r hr⟩
theorem Le.gV{l l':List D}(h:si l l'):Le (.gV l) (.gV l'):=⟨fun _ _ _ _ ⟨cs,e,ha⟩=>⟨cs,e,h.all ha⟩,fun r hr=>h.bD r hr⟩
theorem Le.gT{α:Type}(e:ak α):Le .nil (an e []):=⟨fun _ _ _ _ h=>⟨none,0,h,Nat.le_refl _,by simp[flat],.inl rfl⟩,fun r hr=>by cases hr⟩
def D.sl(r n:Nat):D where
 p:=fun ε _ _ v=>v=ε r/\∃A cap,v=.slice A n cap/\(0<n->A=some ⟨j3 (ε r),0,none⟩)
 nm:=[r]
 sh:=.one
 mono:=fun h he _=>by rw[he _ (by simp)];exact h
 ji:=fun⟨_,_,_,e,_⟩=>by subst e;rfl
theorem Le.sl{r n:Nat}:Le (.sl r n) (.own r):=⟨fun _ _ _ _ h=>⟨h.1,by obtain⟨_,_,_,e,_⟩:=h;rw[e];rfl⟩,fun _ h=>h⟩
section
variable {P:Program} {os:List Oper} {c:Ctx} {T T':List (Nat×D)} {H H':List (Nat×Hp)} {sps:List Spec}
variable {ops:Array Oper} {dst:Option Nat} {ty:TypeId} {pos:String} {aft:Array Edge}
theorem wB{α:Type}{e:ak α}{te:TypeId}{xs:List α}{ε:Env}{w:World}{S:ck}{b:Value}{F:ck}(hm:0<e.n)(h:(aR e te xs).p ε w S b F):∃A cap,b=.slice A xs.length cap/\(0<xs.length->A=some ⟨j3 b,0,none⟩):=by
 rcases h with⟨h0,hb,_⟩|⟨g,n,cap,cs,rest,hb,_,_,_,_,_,hln,_⟩
 ·have:xs.length=0:=by
   have:=bp e xs;rw[h0]at this;rcases Nat.mul_eq_zero.1 this.symm with h|h<;>omega
  exact⟨none,0,by rw[hb,this],fun h=>by omega⟩
 ·rw[bp]at hln;have:=Nat.eq_of_mul_eq_mul_right hm hln;subst this;exact⟨some ⟨g,0,none⟩,cap,hb,fun _=>by rw[hb];rfl⟩
theorem Ok.sl{α:Type}{x:Code}{Q:Exit->Act->World->Prop}(t:Nat){r:Nat}{e:ak α}{te:TypeId}{xs:List α}(ht:aM T t=some (.own r))(hh:af H r=some (aR e te xs))(hm:Nat.blt 0 e.n=true)
  (h:Ok P c ((t,.sl r xs.length)::T) H x Q):Ok P c T H x Q:=by
 intro a w ⟨ε,φ,hs⟩;have hv:a.tmps.getD t undef=ε r:=(hs.t t _ ht).1;have hsl:=wB (by simpa using hm) (hs.h r _ hh);refine h a w ⟨ε,φ,{hs with t:=?_,tn:=?_}⟩
 ·intro t' d hd;simp only[aM]at hd
  cases hb:Nat.beq t' t with
  |true=>
   rw[hb]at hd;injection hd with hd;subst hd;obtain⟨A,cap,h1,h2⟩:=hsl;rw[Nat.eq_of_beq_eq_true hb];exact⟨hv,A,cap,by rw[hv,h1],h2⟩
  |false=>rw[hb]at hd;exact hs.t t' d hd
 ·intro t' d hd r' hr';simp only[aM]at hd
  cases hb:Nat.beq t' t with
  |true=>
   rw[hb]at hd;injection hd with hd;subst hd;have:r'=r:=by simpa [D.sl]using hr'
   subst this;rw[hh];simp
  |false=>rw[hb]at hd;exact hs.tn t' d hd r' hr'
theorem ai.kX{α:Type}{e:ak α}{t:TypeId}{x y:Operand}{xs:List α}{a:α}{k:IntKind}{z:Int}(hx:ev T x=some (an e xs))(hy:ev T y=some (.int k z))(ht:sle P t=some e.n)(h0:0<=z)(ha:xs[z.toNat]?=some a)
  (hr:ai P ops c os (bg T dst (.ptr (e.c a) (e.nm a))) H sps T' H'):
  ai P ops c (⟨dst,.indexAddr t x y,ty,pos,aft,none⟩::os) T H (ps [(x,an e xs),(y,.int k z)] (.ptr (e.c a) (e.nm a))::sps) T' H':=
 .Jh (e.c a) hx hy ht h0 (by have:=(List.getElem?_eq_some_iff.1 ha).1;omega) (qv e ha) hr
theorem ai.fU{α:Type}{e:ak α}{t:TypeId}{x:Operand}{xs:List α}(hx:ev T x=some (an e xs))(ht:isSlice P t=true)(hr:ai P ops c os (bg T dst (.int .i64 xs.length)) H sps T' H'):
  ai P ops c (⟨dst,.call {callee:=.builtin .len,args:=#[x],argTypes:=#[t]},ty,pos,aft,none⟩::os) T H (ps [(x,an e xs)] (.int .i64 xs.length)::sps) T' H':=.ln hx ht hr
theorem ai.zU{t:TypeId}{x:Operand}{n:Nat}{l:List D}{hnm:bD l=[]}(hx:ev T x=some (.ptr l hnm))(hl:lay P t=some (some n))(hn:l.length=n)(hr:ai P ops c os (bg T dst (.agg l)) H sps T' H'):
  ai P ops c (⟨dst,.load t x,ty,pos,aft,none⟩::os) T H (ps [(x,.ptr l hnm)] (.agg l)::sps) T' H':=by
 have e:l.take n=l:=by rw[←hn,List.take_length]
 have:=ai.JN (P:=P) (os:=os) (c:=c) (T:=T) (T':=T') (H:=H) (H':=H') (sps:=sps) (ops:=ops) (dst:=dst) (ty:=ty) (pos:=pos) (aft:=aft) hx hl (by rw[hn];simp) (by rw[e];exact hr);rw[e]at this;exact this
theorem ai.cb{t tb r off n:Nat}{x:Operand}{l:List D}(e:List D)(h:ev T x=some (.ref r off))(hh:af H r=some (.box tb l))(hl:lay P t=some (some n))(he:(l.drop off).take n=e)(hn:Nat.ble (off+n) l.length=true)
  (hr:ai P ops c os (bg T dst (.agg e)) H sps T' H'):ai P ops c (⟨dst,.load t x,ty,pos,aft,none⟩::os) T H (rs x (.ref r off) r (.box tb l) (.agg e)::sps) T' H':=by
 subst he;exact .Ju h hh hl hn hr
theorem ai.Ip{α:Type}{e:ak α}{t te:TypeId}{r m b:Nat}{x y:Operand}{zl:List D}{z:Int}(a0:α)(hx:ev T x=some (.int .i64 z))(hy:ev T y=some (.int .i64 z))(hm:oj P t=some (te,m,b,zl))(hmn:m=e.n)(hz:si zl (e.c a0))(h0:0<=z)(hb:b*z<=281474976710656)(hn:z<=9223372036854775807)(hf:af H r=none)
  (hr:ai P ops c os ((r,.own r)::T) ((r,aR e te (List.replicate z.toNat a0))::H) sps T' H'):
  ai P ops c (⟨some r,.makeSlice t x y,ty,pos,aft,none⟩::os) T H (rws [(x,.int .i64 z),(y,.int .i64 z)] r (aR e te (List.replicate z.toNat a0))::sps) T' H':=by
 subst hmn;obtain⟨n,rfl⟩:∃n:Nat,z=n:=⟨z.toNat,by omega⟩;rw[Int.toNat_natCast]at hr|-;refine .cons (sp:=rws [(x,.int .i64 n),(y,.int .i64 n)] r (aR e te (List.replicate n a0))) ?_ (eI (two hx hy)) trivial ⟨hf,trivial⟩ hr;intro hd T0 H0 hi _ hnew a w ⟨ε,φ,hs⟩ Q K hK;rw[if_pos (a_ rfl _)];have hxs:=cJ hi;have h1:a.eval x=.int .i64 n:=(hs.ev (hxs (x,.int .i64 n) (by simp)) (aw hx).2).1;have h2:a.eval y=.int .i64 n:=(hs.ev (hxs (y,.int .i64 n) (by simp)) (aw hy).2).1;obtain⟨i,v,hu,hinf,hzv,hsz,hbz,ez,hv1,hvs,hm0⟩:=gh hm;have hb':(i.bytes:Int)*(n:Int)<=281474976710656:=by rw[hbz];exact hb
 have hrun:=run_make (P:=P) w t te i v hu hinf hzv .i64 .i64 n n (by omega) (Int.le_refl _) hb' (by omega);simp only[Int.toNat_natCast,hsz]at hrun;have hex:(execOp a.eval ⟨some r,.makeSlice t x y,ty,pos,aft,none⟩).run P w=.ok (.value (.slice (some ⟨w.heap.size,0,none⟩) n n)) (w.alloc (.cells (madeCells v.cells (n*e.n)) te)):=by
  simp only[execOp,h1,h2,Sem.run_bind,hrun,Result.andThen_ok]
  rfl
 simp only[Oper.wp,hex,Oper.upon];have hcs:=eZ hvs hm0 n;have hfl:=tl e a0 n;have hall:∀(ε:Env) (w:World) (S:ck),bN ε w S (flat e (List.replicate n a0)) (List.replicate n v.cells.toList).flatten:=by
  intro ε w S;rw[hfl];refine(hz.rep n).all ?_;rw[ez];exact fI (jb _ _ _ _) n
 have hN:=hs.lB (x:=aR e te (List.replicate n a0)) (b:=.slice (some ⟨w.heap.size,0,none⟩) n n) (F:=only w.heap.size) (w':=w.alloc (.cells (madeCells v.cells (n*e.n)) te)) (r:=r) hnew.1 ((Below.refl _ _).alloc (Nat.le_refl _) _)
  (fun k hk=>by simp only[only]at hk;subst hk;simp)
  (.inr ⟨w.heap.size,n,n,(List.replicate n v.cells.toList).flatten,[],rfl,rfl,by rw[ia,List.append_nil,←hcs],(by
   intro u hu;simp only[List.mem_flatten,List.mem_replicate]at hu;obtain⟨l',⟨_,rfl⟩,hu⟩:=hu;exact hv1 u hu),by rw[List.append_nil,gB,Array.length_toList,hvs],by unfold maxLen;omega,by rw[bp,List.length_replicate],hall _ _ _⟩) (fun r' hr'=>by cases hr')
 exact hK _ _ ⟨_,_,hN.put (dst:=some r) (d:=.own r) (cU hd) ⟨(aq _ _ _).symm,rfl⟩ (by simp[D.own,bu,aq])⟩
theorem ai.pF{t:TypeId}{x y:Operand}{r n m:Nat}{k:IntKind}{z:Int}(hx:ev T x=some (.sl r n))(hy:ev T y=some (.int k z))(ht:sle P t=some m)(h0:0<=z)(h1:z<n)
  (hr:ai P ops c os (bg T dst (.ref r (z.toNat*m))) H sps T' H'):
  ai P ops c (⟨dst,.indexAddr t x y,ty,pos,aft,none⟩::os) T H (ps [(x,.sl r n),(y,.int k z)] (.ref r (z.toNat*m))::sps) T' H':=
 .pure [(x,.sl r n),(y,.int k z)] rfl (two hx hy) (fun r' hr'=>⟨(x,.sl r n),by simp,hr'⟩) (fun ε w S a ha=>by
  obtain⟨_,A,cap,h2,hA⟩:=ha (x,.sl r n) (by simp);have h3:a.eval y=.int k z:=ha (y,.int k z) (by simp);have hA':=hA (by omega);subst hA';dsimp only at h2;exact⟨_,by simp only[execOp,h2,h3,Sem.run_bind,iI ht (j3 (ε r)) 0 n cap k z h0 h1 w,Result.andThen_ok];rfl,by simp only[D.ref,Nat.zero_add]⟩) hr
theorem ai.Hc{t:TypeId}{x:Operand}{r n:Nat}(hx:ev T x=some (.sl r n))(ht:isSlice P t=true)(hr:ai P ops c os (bg T dst (.int .i64 n)) H sps T' H'):
  ai P ops c (⟨dst,.call {callee:=.builtin .len,args:=#[x],argTypes:=#[t]},ty,pos,aft,none⟩::os) T H (ps [(x,.sl r n)] (.int .i64 n)::sps) T' H':=
 .pure [(x,.sl r n)] rfl (by simpa using hx) (kb rfl) (fun ε w S a ha=>by
  obtain⟨_,A,cap,h2,_⟩:=ha (x,.sl r n) (by simp);dsimp only at h2;exact⟨_,jw a w (by rw[h2];exact pZ ht A n cap w),rfl⟩) hr
theorem ai.ID{α:Type}{e:ak α}{t tb r:Nat}{x:Operand}{xs:List α}{a:α}{d:D}{z:Int}{m:Nat}(h:ev T x=some (.ref r (z.toNat*m)))(hh:af H r=some (aR e tb xs))(ht:lay P t=some none)(hm:m=e.n)(ha:xs[z.toNat]?=some a)(he:e.c a=[d])
  (hr:ai P ops c os (bg T dst d) H sps T' H'):ai P ops c (⟨dst,.load t x,ty,pos,aft,none⟩::os) T H (AX [(x,.ref r (z.toNat*m))] r (aR e tb xs) d::sps) T' H':=by
 subst hm;refine .zp h hh ht ?_ hr;have hg:=qv e ha;have hn:e.n=1:=by rw[←e.len a,he];rfl
 rw[he,hn,Nat.mul_one]at hg;rw[hn,Nat.mul_one];have h2:((flat e xs).drop z.toNat)[0]?=some d:=by
  cases hq:(flat e xs).drop z.toNat with
  |nil=>rw[hq]at hg;cases hg
  |cons d' l=>rw[hq]at hg;injection hg with hg;rw[hg];rfl
 simpa using h2
theorem ai.Jp{α:Type}{e:ak α}{t tb r n:Nat}{x y:Operand}{xs:List α}{dy:D}{z:Int}{m:Nat}(a:α)(h:ev T x=some (.ref r (z.toNat*m)))(hy:ev T y=some dy)(hh:af H r=some (aR e tb xs))(hsz:∀w,(sizeOf t).run P w=.ok n w)(hm:m=e.n)(hn:n=e.n)(hn0:Nat.blt 0 e.n=true)(hc:C_ dy (e.c a))(hz:z.toNat<xs.length)
  (hr:ai P ops c os (bg T dst .any) ((r,aR e tb (xs.set z.toNat a))::H) sps T' H'):
  ai P ops c (⟨dst,.store t x y,ty,pos,aft,none⟩::os) T H (ws x (.ref r (z.toNat*m)) y dy r (aR e tb xs) (aR e tb (xs.set z.toNat a))::sps) T' H':=by
 subst hm;subst hn;refine .I6 h hy hh hsz ?_ (by simpa using hn0) hc (e.len a) (yw e hz a) hr;have:=Nat.mul_le_mul_right e.n (Nat.succ_le_of_lt hz);rw[bp];rw[Nat.succ_mul]at this;omega
theorem ai.Fm{α:Type}{e:ak α}{t tb r:Nat}{x y:Operand}{xs:List α}{dy:D}{z:Int}{m:Nat}(a:α)(h:ev T x=some (.ref r (z.toNat*m)))(hy:ev T y=some dy)(hh:af H r=some (aR e tb xs))(ht:lay P t=some none)(hm:m=e.n)(hn:1=e.n)(hc:e.c a=[dy])(hsh:dy.sh=.one)(hz:z.toNat<xs.length)
  (hr:ai P ops c os (bg T dst .any) ((r,aR e tb (xs.set z.toNat a))::H) sps T' H'):
  ai P ops c (⟨dst,.store t x y,ty,pos,aft,none⟩::os) T H (ws x (.ref r (z.toNat*m)) y dy r (aR e tb xs) (aR e tb (xs.set z.toNat a))::sps) T' H':=
 .Jp a h hy hh (fun w=>(iT ht w).2) hm hn (by rw[←hn];rfl) (by rw[hc];exact .one hsh) hz hr
theorem ai.Hm{α:Type}{e:ak α}{t tb r n:Nat}{x y:Operand}{xs:List α}{z:Int}{m:Nat}(a:α)(h:ev T x=some (.ref r (z.toNat*m)))(hy:ev T y=some (.agg (e.c a)))(hh:af H r=some (aR e tb xs))(ht:lay P t=some (some n))(hm:m=e.n)(hn:n=e.n)(hn0:Nat.blt 0 e.n=true)(hz:z.toNat<xs.length)
  (hr:ai P ops c os (bg T dst .any) ((r,aR e tb (xs.set z.toNat a))::H) sps T' H'):
  ai P ops c (⟨dst,.store t x y,ty,pos,aft,none⟩::os) T H (ws x (.ref r (z.toNat*m)) y (.agg (e.c a)) r (aR e tb xs) (aR e tb (xs.set z.toNat a))::sps) T' H':=
 .Jp a h hy hh (fun w=>(gI ht w).2) hm hn hn0 (.agg _) hz hr
theorem Ok.gT{α:Type}{x:Code}{Q:Exit->Act->World->Prop}(e:ak α)(t r:Nat)(te:TypeId)(ht:aM T t=some .nil)(hf:af H r=none)(h:Ok P c ((t,.own r)::T) ((r,aR e te [])::H) x Q):Ok P c T H x Q:=
 .wG t r e.n te ht hf h
theorem Ok.j9{α:Type}{x:Code}{Q:Exit->Act->World->Prop}{e:ak α}{te:TypeId}{xs:List α}(t:Nat){r:Nat}(ht:aM T t=some (.own r))(hh:af H r=some (aR e te xs))(hm:Nat.blt 0 e.n=true)(h:Ok P c ((t,an e xs)::T) ((r,.dead)::H) x Q):Ok P c T H x Q:=
 .tD t ht hh (bp e xs) (Nat.beq_refl _) hm h
theorem Ok.uF{x:Code}{Q:Exit->Act->World->Prop}(t:Nat){d:D}(d':D)(ht:aM T t=some d)(hle:Le d d')(h:Ok P c ((t,d')::T) H x Q):Ok P c T H x Q:=by
 intro a w ⟨ε,φ,hs⟩;refine h a w ⟨ε,φ,{hs with t:=?_,tn:=?_}⟩
 ·intro t' d2 hd;simp only[aM]at hd
  cases hb:Nat.beq t' t with
  |true=>
   rw[hb]at hd;injection hd with hd;subst hd;rw[Nat.eq_of_beq_eq_true hb];exact hle.1 _ _ _ _ (hs.t t _ ht)
  |false=>rw[hb]at hd;exact hs.t t' d2 hd
 ·intro t' d2 hd r hr;simp only[aM]at hd
  cases hb:Nat.beq t' t with
  |true=>
   rw[hb]at hd;injection hd with hd;subst hd;exact hs.tn t _ ht r (hle.2 r hr)
  |false=>rw[hb]at hd;exact hs.tn t' d2 hd r hr
end
end Go.Am
namespace Go.Am
open Go.RowKit
def nW(Hi:List (Nat×Hp))(φ:Nat->ck):ck:=fun k=>∃r,af Hi r≠none/\φ r k
def D.pinned(r:Nat)(b:Value):D where
 p:=fun ε _ _ _=>ε r=b
 nm:=[r]
 sh:=.Gy
 mono:=fun h he _=>by rw[he _ (by simp)];exact h
 ji:=fun _=>trivial
def BY(c:Ctx)(Ho:List (Nat×Hp))(d:D)(ε:Env)(w:World)(φ:Nat->ck)(v:Value):Prop:=
 d.p ε w (al c (af Ho) φ) v/\(∀r h,af Ho r=some h->h.p ε w (al c (af Ho) φ) (ε r) (φ r))/\(∀r,af Ho r≠none->∀k,φ r k->(c.base<=k\/c.L k)/\k<w.heap.size)/\
 (∀r r',af Ho r≠none->af Ho r'≠none->r≠r'->∀k,φ r k->¬φ r' k)/\nH c.base c.L c.w0 w
structure aW(P:Program)(f:FuncId)(Hi:List (Nat×Hp))(ds:List D)(Ho:List (Nat×Hp))(d:D):Prop where
 ok:oR P f=true
 G6:cE Hi (bD ds)=true
 Hw:cE Hi (j4 Hi)=true
 Gg:cE Ho (j4 Ho)=true
 Ev:cE Ho d.nm=true
 ta:cE Ho (names Hi)=true
 calls:∀(A:ck) (w:World) (ε:Env) (φ:Nat->ck) (vs:List Value),
  (∀r,af Hi r≠none->∀k,φ r k->¬A k/\k<w.heap.size)->(∀r r',af Hi r≠none->af Hi r'≠none->r≠r'->∀k,φ r k->¬φ r' k)->
  (∀r h,af Hi r=some h->h.p ε w A (ε r) (φ r))->bN ε w A ds vs->
  Calls P f vs.toArray w (fun e w'=>∃v ε' φ',e=.returned v/\(∀r,af Hi r≠none->ε' r=ε r)/\BY ⟨A,w.heap.size,w,0,nW Hi φ⟩ Ho d ε' w' φ' v)
def HL(Hi:List (Nat×Hp))(H:List (Nat×Hp)):Prop:=∀r h,af Hi r=some h->af H r=some h
def hasAll(H:List (Nat×Hp)):List (Nat×Hp)->Prop
 |[]=>True
 |(r,h)::l=>af H r=some h/\hasAll H l
theorem s8{H:List (Nat×Hp)}:∀{l:List (Nat×Hp)},hasAll H l->HL l H
 |[],_,r,h,hh=>by cases hh
 |(r0,h0)::l,ha,r,h,hh=>by
  simp only[af]at hh
  cases hb:Nat.beq r r0 with
  |true=>rw[hb]at hh;injection hh with hh;subst hh;rw[Nat.eq_of_beq_eq_true hb];exact ha.1
  |false=>rw[hb]at hh;exact s8 ha.2 r h hh
theorem oo{H:Nat->Option Hp}:∀{l:List (Nat×Hp)},p9 H l->∀r h,af l r=some h->H r=some h
 |[],_,r,h,hh=>by cases hh
 |(r0,h0)::l,ha,r,h,hh=>by
  simp only[af]at hh
  cases hb:Nat.beq r r0 with
  |true=>rw[hb]at hh;injection hh with hh;subst hh;rw[Nat.eq_of_beq_eq_true hb];exact ha.1
  |false=>rw[hb]at hh;exact oo ha.2 r h hh
theorem q_{H:List (Nat×Hp)}:∀{l:List (Nat×Hp)},hasAll H l->p9 (af H) l
 |[],_=>trivial
 |(_,_)::_,h=>⟨h.1,q_ h.2⟩
def fK(Hi:List (Nat×Hp)):List (Nat×Hp)->List Nat
 |[]=>[]
 |(r,_)::l=>match af Hi r with|some _=>fK Hi l|none=>r::fK Hi l
theorem qg{Hi:List (Nat×Hp)}{r:Nat}:∀{l:List (Nat×Hp)},af l r≠none->af Hi r=none->r∈fK Hi l
 |[],h,_=>absurd rfl h
 |(r0,h0)::l,h,hi=>by
  simp only[af]at h;simp only[fK]
  cases hb:Nat.beq r r0 with
  |true=>rw[←Nat.eq_of_beq_eq_true hb,hi];simp
  |false=>
   rw[hb]at h;have:=qg (l:=l) h hi
   cases af Hi r0 with
   |some _=>exact this
   |none=>exact List.mem_cons_of_mem _ this
theorem vM{H:Nat->Option Hp}:∀{l:List Nat},nj H l->∀r∈l,H r=none
 |[],_,r,h=>by cases h
 |r0::l,h,r,hr=>by
  rcases List.mem_cons.1 hr with rfl|hr
  ·exact h.1
  ·exact vM h.2 r hr
section
variable {P:Program} {os:List Oper} {c:Ctx} {T T':List (Nat×D)} {H H':List (Nat×Hp)} {sps:List Spec}
variable {ops:Array Oper} {dst:Option Nat} {ty:TypeId} {pos:String} {aft:Array Edge}
theorem cd.back{T0:Nat->Option D}{H0:Nat->Option Hp}{a:Act}{w w':World}{ε ε':Env}{φ φ':Nat->ck}{Hi Ho:List (Nat×Hp)}{d:D}{v:Value}{dst:Option Nat}{n:Nat}(hs:cd c T0 H0 a w ε φ)(cY:∀r h,af Hi r=some h->H0 r=some h)(hnew:∀r,af Ho r≠none->af Hi r=none->H0 r=none)
  (hnmo:∀r h,af Ho r=some h->∀r'∈h.nm,af Ho r'≠none)(hnr:∀r∈d.nm,af Ho r≠none)(hkeep:∀r,af Hi r≠none->af Ho r≠none)(hε:∀r,af Hi r≠none->ε' r=ε r)(hb:BY ⟨al c H0 φ,w.heap.size,w,n,nW Hi φ⟩ Ho d ε' w' φ' v)(hdst:∀t,dst=some t->t<c.n):
  ∃ε1 φ1,cd c (fY T0 dst d) (bf H0 Ho) (a.put dst v) w' ε1 φ1:=by
 obtain⟨hv,hp,hlo,hdj,hbel⟩:=hb;simp only at hv hp hlo hdj hbel;have hi0:∀r,af Hi r≠none->H0 r≠none:=fun r hr=>by
  cases hq:af Hi r with
  |none=>exact absurd hq hr
  |some h=>rw[cY r h hq];simp
 have old:∀r,H0 r≠none->af Ho r≠none->af Hi r≠none:=fun r h0 ho hi=>h0 (hnew r ho hi);have hU:∀r,bf H0 Ho r≠none↔(af Ho r≠none\/H0 r≠none):=by
  intro r;simp only[bf];cases af Ho r<;>simp
 have notL:∀k,(∀r,H0 r≠none->¬φ r k)->¬nW Hi φ k:=fun k h ⟨r,hr,hf⟩=>h r (hi0 r hr) hf
 let ε1:Env:=fun r=>match af Ho r with|some _=>ε' r|none=>ε r
 let φ1:Nat->ck:=fun r=>match af Ho r with|some _=>φ' r|none=>φ r
 have e1o:∀r,af Ho r≠none->ε1 r=ε' r:=fun r hr=>by
  show(match af Ho r with|some _=>ε' r|none=>ε r)=ε' r
  cases hq:af Ho r with
  |none=>exact absurd hq hr
  |some _=>rfl
 have e1n:∀r,af Ho r=none->ε1 r=ε r:=fun r hr=>by
  show(match af Ho r with|some _=>ε' r|none=>ε r)=ε r;rw[hr]
 have f1o:∀r,af Ho r≠none->φ1 r=φ' r:=fun r hr=>by
  show(match af Ho r with|some _=>φ' r|none=>φ r)=φ' r
  cases hq:af Ho r with
  |none=>exact absurd hq hr
  |some _=>rfl
 have f1n:∀r,af Ho r=none->φ1 r=φ r:=fun r hr=>by
  show(match af Ho r with|some _=>φ' r|none=>φ r)=φ r;rw[hr]
 have eold:∀r,H0 r≠none->ε1 r=ε r:=fun r hr=>by
  cases hq:af Ho r with
  |none=>exact e1n r hq
  |some h=>rw[e1o r (by rw[hq];simp),hε r (old r hr (by rw[hq];simp))]
 -- what the caller could read it still can
 have hreg:∀k,al c H0 φ k->k<w.heap.size->al c (bf H0 Ho) φ1 k/\w'.heap[k]?=w.heap[k]?:=by
  intro k hk hlt;refine⟨⟨hk.1,fun r hr=>?_⟩,hbel.block k hlt (notL k hk.2)⟩
  cases hq:af Ho r with
  |none=>
   rw[f1n r hq];refine hk.2 r ?_;rcases(hU r).1 hr with h|h
   ·exact absurd hq h
   ·exact h
  |some h=>
   have hne:af Ho r≠none:=by rw[hq];simp
   rw[f1o r hne];intro hf;rcases(hlo r hne k hf).1 with h1|h1
   ·omega
   ·exact notL k hk.2 h1
 -- what the call could read the caller can
 have hreg2:∀k,al ⟨al c H0 φ,w.heap.size,w,n,nW Hi φ⟩ (af Ho) φ' k->al c (bf H0 Ho) φ1 k:=by
  intro k ⟨h1,h2⟩;refine⟨?_,fun r hr=>?_⟩
  ·rcases h1 with h1|h1|⟨r0,hr0,hf⟩
   ·exact h1.1
   ·exact .inr (.inl (Nat.le_trans hs.fV h1))
   ·exact .inr ((hs.lo r0 (hi0 r0 hr0) k hf).1)
  ·cases hq:af Ho r with
   |some h=>rw[f1o r (by rw[hq];simp)];exact h2 r (by rw[hq];simp)
   |none=>
    rw[f1n r hq];have hr0:H0 r≠none:=by
     rcases(hU r).1 hr with h|h
     ·exact absurd hq h
     ·exact h
    intro hf;rcases h1 with h1|h1|⟨r1,hr1,hf1⟩
    ·exact h1.2 r hr0 hf
    ·have:=(hs.lo r hr0 k hf).2;simp only at h1;omega
    ·have hne:r1≠r:=fun e=>by subst e;exact hkeep r1 hr1 hq
     exact hs.dj r1 r (hi0 r1 hr1) hr0 hne k hf1 hf
 have hS:cd c T0 (bf H0 Ho) a w' ε1 φ1:=by
  constructor
  ·exact fun t d' ht=>d'.mono (hs.t t d' ht) (fun r hr=>eold r (hs.tn t d' ht r hr)) hreg
  ·exact fun t d' ht r hr=>(hU r).2 (.inr (hs.tn t d' ht r hr))
  ·intro r h hr
   cases hq:af Ho r with
   |some h'=>
    have:h'=h:=by simp only[bf,hq]at hr;injection hr
    subst this;have hne:af Ho r≠none:=by rw[hq];simp
    rw[e1o r hne,f1o r hne];exact h'.mono (hp r h' hq) (fun r2 h2=>e1o r2 (hnmo r h' hq r2 h2)) (fun k hk _=>⟨hreg2 k hk,rfl⟩) (fun _ _=>rfl)
   |none=>
    have hr0:H0 r=some h:=by simpa only[bf,hq]using hr
    rw[e1n r hq,f1n r hq];refine h.mono (hs.h r h hr0) (fun r2 h2=>eold r2 (hs.hn r h hr0 r2 h2)) hreg (fun k hk=>?_);refine hbel.block k (hs.lo r (by rw[hr0];simp) k hk).2 ?_;rintro⟨r1,hr1,hf1⟩;have hne:r1≠r:=fun e=>by subst e;exact hkeep r1 hr1 hq
    exact hs.dj r1 r (hi0 r1 hr1) (by rw[hr0];simp) hne k hf1 hk
  ·intro r h hr r' hr'
   cases hq:af Ho r with
   |some h'=>
    have:h'=h:=by simp only[bf,hq]at hr;injection hr
    subst this;exact(hU r').2 (.inl (hnmo r h' hq r' hr'))
   |none=>
    have hr0:H0 r=some h:=by simpa only[bf,hq]using hr
    exact(hU r').2 (.inr (hs.hn r h hr0 r' hr'))
  ·intro r hr k hk
   cases hq:af Ho r with
   |some h'=>
    have hne:af Ho r≠none:=by rw[hq];simp
    rw[f1o r hne]at hk;have:=hlo r hne k hk;refine⟨?_,this.2⟩;rcases this.1 with h1|⟨r1,hr1,hf1⟩
    ·exact .inl (Nat.le_trans hs.fV h1)
    ·exact(hs.lo r1 (hi0 r1 hr1) k hf1).1
   |none=>
    rw[f1n r hq]at hk;have hr0:H0 r≠none:=by
     rcases(hU r).1 hr with h|h
     ·exact absurd hq h
     ·exact h
    have:=hs.lo r hr0 k hk;exact⟨this.1,Nat.lt_of_lt_of_le this.2 hbel.size⟩
  ·intro r r' hr hr' hne k hk;have mixed:∀ra rb,af Ho ra≠none->af Ho rb=none->H0 rb≠none->φ' ra k->¬φ rb k:=by
    intro ra rb ha hb hb0 hfa hfb;rcases(hlo ra ha k hfa).1 with h1|⟨r1,hr1,hf1⟩
    ·have:=(hs.lo rb hb0 k hfb).2;omega
    ·have hne:r1≠rb:=fun e=>by subst e;exact hkeep r1 hr1 hb
     exact hs.dj r1 rb (hi0 r1 hr1) hb0 hne k hf1 hfb
   have h0:∀rx,bf H0 Ho rx≠none->af Ho rx=none->H0 rx≠none:=fun rx hx hq=>by
    rcases(hU rx).1 hx with h|h
    ·exact absurd hq h
    ·exact h
   cases hq:af Ho r with
   |some h1=>
    have hn1:af Ho r≠none:=by rw[hq];simp
    rw[f1o r hn1]at hk
    cases hq':af Ho r' with
    |some h2=>
     have hn2:af Ho r'≠none:=by rw[hq'];simp
     rw[f1o r' hn2];exact hdj r r' hn1 hn2 hne k hk
    |none=>rw[f1n r' hq'];exact mixed r r' hn1 hq' (h0 r' hr' hq') hk
   |none=>
    rw[f1n r hq]at hk
    cases hq':af Ho r' with
    |some h2=>
     have hn2:af Ho r'≠none:=by rw[hq'];simp
     rw[f1o r' hn2];exact fun hf=>mixed r' r hn2 hq (h0 r hr hq) hf hk
    |none=>rw[f1n r' hq'];exact hs.dj r r' (h0 r hr hq) (h0 r' hr' hq') hne k hk
  ·refine hs.pP.trans ⟨hbel.os,hbel.tape,hbel.output,hbel.size,fun k hk hl=>hbel.block k (Nat.lt_of_lt_of_le hk hs.fV) ?_⟩;rintro⟨r1,hr1,hf1⟩;rcases(hs.lo r1 (hi0 r1 hr1) k hf1).1 with h|h
   ·omega
   ·exact hl h
  ·exact hs.bs
  ·exact hs.sz
  ·exact hs.df
 refine⟨ε1,φ1,hS.put hdst ?_ (fun r hr=>(hU r).2 (.inl (hnr r hr)))⟩;exact d.mono hv (fun r hr=>e1o r (hnr r hr)) (fun k hk _=>⟨hreg2 k hk,rfl⟩)
def HI(xs:List (Operand×D))(Hi Ho:List (Nat×Hp))(d:D):Spec:={ins:=xs.flatMap fun x=>eN x.1 x.2,cY:=Hi,out:=d,cZ:=Ho,news:=fK Hi Ho}
theorem pM{Hx:List (Nat×Hp)}(h:cE Hx (j4 Hx)=true):∀r x,af Hx r=some x->∀r'∈x.nm,af Hx r'≠none:=fun _ _ hr r' hr'=>dc h r' (qG hr r' hr')
theorem ai.goes{o:Oper}{f:FuncId}{Hi Ho:List (Nat×Hp)}{ds:List D}{d:D}(xs:List (Operand×D))(hc:aW P f Hi ds Ho d)(hg:o.guard=none)(he:∀x∈xs,ev T x.1=some x.2)(cY:hasAll H Hi)(hnew:nj (af H) (fK Hi Ho))
  (hrun:∀(ε:Env) (w:World) (S:ck) (a:Act),(∀x∈xs,x.2.p ε w S (a.eval x.1))->∃vs:List Value,(execOp a.eval o).run P w=.ok (.enter f vs.toArray) w/\bN ε w S ds vs)
  (hr:ai P ops c os (bg T o.dst d) (Ho++H) sps T' H'):ai P ops c (o::os) T H (HI xs Hi Ho d::sps) T' H':=by
 refine .cons (sp:=HI xs Hi Ho d) ?_ (eI he) (q_ cY) hnew hr;intro hdst T0 H0 hi hin0 hnew0 a w ⟨ε,φ,hs⟩ Q K hK;rw[if_pos (a_ hg _)];have hx:∀x∈xs,fq T0 (eN x.1 x.2):=cJ hi;obtain⟨vs,hrn,hall⟩:=hrun ε w (al c H0 φ) a (fun x h=>(hs.ev (hx x h) (aw (he x h)).2).1);simp only[Oper.wp,hrn,Oper.upon];have hget0:=oo hin0;have hi0:∀r,af Hi r≠none->H0 r≠none:=fun r hr=>by
  cases hq:af Hi r with
  |none=>exact absurd hq hr
  |some h=>rw[hget0 r h hq];simp
 refine(hc.calls (al c H0 φ) w ε φ vs (fun r hr k hk=>⟨fun h=>h.2 r (hi0 r hr) hk,(hs.lo r (hi0 r hr) k hk).2⟩) (fun r r' hr hr'=>hs.dj r r' (hi0 r hr) (hi0 r' hr')) (fun r h hr=>hs.h r h (hget0 r h hr)) hall).mono ?_;rintro e w' ⟨v,ε',φ',rfl,hε,hb⟩;obtain⟨ε1,φ1,hS⟩:=hs.back (T0:=T0) hget0 (fun r ho hi=>vM hnew0 r (qg ho hi)) (pM hc.Gg) (dc hc.Ev) (fun r hr=>dc hc.ta r (bU.1 hr)) hε hb (cU hdst);exact hK _ _ ⟨ε1,φ1,hS⟩
theorem ai.ah{f:FuncId}{xs:List Operand}{ats:Array TypeId}{Hi Ho:List (Nat×Hp)}{ds:List D}{d:D}(hc:aW P f Hi ds Ho d)(he:zg T xs ds)(cY:hasAll H Hi)(hnew:nj (af H) (fK Hi Ho))
  (hr:ai P ops c os (bg T dst d) (Ho++H) sps T' H'):
  ai P ops c (⟨dst,.call {callee:=.value (.func f),args:=xs.toArray,argTypes:=ats},ty,pos,aft,none⟩::os) T H (HI (xs.zip ds) Hi Ho d::sps) T' H':=
 .goes (xs.zip ds) hc rfl (gM he) cY hnew (fun ε w S a ha=>⟨_,oc hc.ok a w,jd he ha⟩) hr
def D.qU(f:FuncId)(l m:List D):D where
 p:=fun ε w S v=>∃vs us:List Value,v=.func (.func f) vs.toArray us.toArray/\bN ε w S l vs/\bN ε w S m us
 nm:=bD l++bD m
 sh:=.Gy
 mono:=fun⟨vs,us,e,h1,h2⟩ he hS=>⟨vs,us,e,bF hS h1 (fun r hr=>he r (by simp[hr])),bF hS h2 (fun r hr=>he r (by simp[hr]))⟩
 ji:=fun _=>trivial
theorem By{f:FuncId}{x:Operand}{xs:List Operand}{ats:Array TypeId}(hok:oR P f=true)(a:Act)(w:World){vs us:List Value}(hx:a.eval x=.func (.func f) vs.toArray us.toArray):
  (execOp a.eval ⟨dst,.call {callee:=.value x,args:=xs.toArray,argTypes:=ats},ty,pos,aft,none⟩).run P w=.ok (.enter f (vs++(xs.map a.eval)++us).toArray) w:=by
 unfold oR at hok;cases hf:P.funcs[f]?with
 |none=>simp[hf]at hok
 |some fn=>
  simp only[hf,Bool.and_eq_true,Bool.not_eq_true']at hok;have hb:fn.body.isNone=false:=by cases h:fn.body<;>simp_all
  simp only[execOp,resolve,hx,Deferred.ofValue,Sem.run_bind,Sem.run_pure,Result.andThen_ok,invoke,callFunc,run_program,hf,hok.1,Bool.false_eq_true,if_false,hb];simp
theorem ai.F4{f:FuncId}{x:Operand}{xs:List Operand}{ats:Array TypeId}{Hi Ho:List (Nat×Hp)}{l m ds:List D}{d:D}(hx:ev T x=some (.qU f l m))(hc:aW P f Hi (l++ds++m) Ho d)(he:zg T xs ds)(cY:hasAll H Hi)(hnew:nj (af H) (fK Hi Ho))
  (hr:ai P ops c os (bg T dst d) (Ho++H) sps T' H'):
  ai P ops c (⟨dst,.call {callee:=.value x,args:=xs.toArray,argTypes:=ats},ty,pos,aft,none⟩::os) T H (HI ((x,.qU f l m)::xs.zip ds) Hi Ho d::sps) T' H':=
 .goes ((x,.qU f l m)::xs.zip ds) hc rfl (by
  intro y hy;rcases List.mem_cons.1 hy with rfl|hy
  ·exact hx
  ·exact gM he y hy) cY hnew (fun ε w S a ha=>by
  obtain⟨vs,us,e,h1,h2⟩:=ha (x,.qU f l m) (by simp);exact⟨_,By hc.ok a w e,bR (bR h1 (jd he (fun y hy=>ha y (by simp[hy])))) h2⟩) hr
theorem ai.IU{f:FuncId}{fs cs:List Operand}{l m:List D}(hl:zg T fs l)(hm:zg T cs m)(hr:ai P ops c os (bg T dst (.qU f l m)) H sps T' H'):
  ai P ops c (⟨dst,.makeFunc (.func f) fs.toArray cs.toArray,ty,pos,aft,none⟩::os) T H (ps (fs.zip l++cs.zip m) (.qU f l m)::sps) T' H':=
 .pure (fs.zip l++cs.zip m) rfl (by
  intro y hy;rcases List.mem_append.1 hy with hy|hy
  ·exact gM hl y hy
  ·exact gM hm y hy) (fun r hr=>by
  have hz:∀{xs:List Operand} {ds:List D},zg T xs ds->∀r∈bD ds,∃x∈xs.zip ds,r∈x.2.nm:=by
   intro xs ds he r hr;obtain⟨d,hd,hr'⟩:=bG.1 hr;obtain⟨i,hi⟩:=List.getElem?_of_mem hd;have hlen:xs.length=ds.length:=by
    have:∀{xs:List Operand} {ds:List D},zg T xs ds->xs.length=ds.length:=by
     intro xs
     induction xs with
     |nil=>intro ds h;cases ds with|nil=>rfl|cons _ _=>exact h.elim
     |cons x xs ih=>intro ds h;cases ds with|nil=>exact h.elim|cons d ds=>simp[ih h.2]
    exact this he
   have hix:i<xs.length:=by rw[hlen];exact(List.getElem?_eq_some_iff.1 hi).1
   exact⟨(xs[i],d),List.mem_of_getElem? (i:=i) (by rw[List.getElem?_zip_eq_some];exact⟨List.getElem?_eq_getElem hix,hi⟩),hr'⟩
  rcases List.mem_append.1 (show r∈bD l++bD m from hr)with h|h
  ·obtain⟨x,hx,hr'⟩:=hz hl r h;exact⟨x,List.mem_append_left _ hx,hr'⟩
  ·obtain⟨x,hx,hr'⟩:=hz hm r h;exact⟨x,List.mem_append_right _ hx,hr'⟩) (fun ε w S a ha=>by
  refine⟨_,by simp only[execOp,Instr.makeFunc,Sem.run_bind,Sem.run_pure,Result.andThen_ok];rfl,fs.map a.eval,cs.map a.eval,by simp,?_,?_⟩
  ·exact jd hl (fun y hy=>ha y (List.mem_append_left _ hy))
  ·exact jd hm (fun y hy=>ha y (List.mem_append_right _ hy))) hr
def A0(c:Ctx)(Hi Ho:List (Nat×Hp))(b:Nat->Value)(d:D):Ending->World->Prop:=fun e w=>∃v ε φ,e=.returned v/\(∀r,af Hi r≠none->ε r=b r)/\BY c Ho d ε w φ v
def pins(b:Nat->Value):List Nat->List (Nat×D)
 |[]=>[]
 |r::l=>(1000000+r,.pinned r (b r))::pins b l
theorem jS{b:Nat->Value}{t:Nat}{d:D}:∀{l:List Nat},aM (pins b l) t=some d->∃r∈l,t=1000000+r/\d=.pinned r (b r)
 |[],h=>by cases h
 |r::l,h=>by
  simp only[pins,aM]at h;cases hb:Nat.beq t (1000000+r)with
  |true=>rw[hb]at h;injection h with h;exact⟨r,by simp,Nat.eq_of_beq_eq_true hb,h.symm⟩
  |false=>rw[hb]at h;obtain⟨r',h1,h2⟩:=jS h;exact⟨r',by simp[h1],h2⟩
theorem iG{l m:List (Nat×D)}{t:Nat}{d:D}(h:aM (l++m) t=some d):aM l t=some d\/aM m t=some d:=by
 induction l with
 |nil=>exact .inr h
 |cons x l ih=>
  obtain⟨t',d'⟩:=x;simp only[List.cons_append,aM]at h|-
  cases hb:Nat.beq t t' with
  |true=>rw[hb]at h;exact .inl h
  |false=>rw[hb]at h;exact ih h
theorem aW.of{f:FuncId}{fn:Func}{x:Code}{Hi Ho:List (Nat×Hp)}{ds:List D}{d:D}(hf:P.funcs[f]?=some fn)(hb:fn.body=some x)(hok:oR P f=true)(hd:cE Hi (bD ds)=true)(hni:cE Hi (j4 Hi)=true)(hno:cE Ho (j4 Ho)=true)(hnr:cE Ho d.nm=true)(hk:cE Ho (names Hi)=true)
  (hl:Nat.ble ds.length fn.ntmps=true)(h:∀A w0 L b,Ok P ⟨A,w0.heap.size,w0,fn.ntmps,L⟩ (frame 0 ds++pins b (names Hi)) Hi x (bodyPost P fn (A0 ⟨A,w0.heap.size,w0,fn.ntmps,L⟩ Hi Ho b d))):aW P f Hi ds Ho d where
 ok:=hok
 G6:=hd
 Hw:=hni
 Gg:=hno
 Ev:=hnr
 ta:=hk
 calls:=by
  intro A w ε φ vs hlo hdj hp hv;refine(calls_of_wp hf hb (h A w (nW Hi φ) ε _ _ ⟨ε,φ,?_⟩)).mono (fun e w' ⟨v,ε',φ',e',hε,hB⟩=>⟨v,ε',φ',e',hε,hB⟩);have hlen:=aL hv;have hl':=Nat.le_of_ble_eq_true hl;have hreg:∀k,A k->k<w.heap.size->al ⟨A,w.heap.size,w,fn.ntmps,nW Hi φ⟩ (af Hi) φ k/\w.heap[k]?=w.heap[k]?:=fun k hk _=>⟨⟨.inl hk,fun r hr hf=>(hlo r hr k hf).1 hk⟩,rfl⟩
  constructor
  ·intro t d' ht;rcases iG ht with ht|ht
   ·obtain⟨j,v,e,hj,hp,_⟩:=fo hv ht;have hjl:j<vs.length:=(List.getElem?_eq_some_iff.1 hj).1;have:(vs.toArray++Array.replicate (fn.ntmps-vs.toArray.size) undef).getD t undef=v:=by
     simp only[Nat.zero_add]at e;subst e;simp[Array.getD_eq_getD_getElem?,Array.getElem?_append,hjl];have:=(List.getElem?_eq_some_iff.1 hj).2;exact this
    rw[this];exact d'.mono hp (fun _ _=>rfl) hreg
   ·obtain⟨r,_,_,rfl⟩:=jS ht
    rfl
  ·intro t d' ht r hr;rcases iG ht with ht|ht
   ·obtain⟨_,_,_,_,_,hm⟩:=fo hv ht;exact dc hd r (bG.2 ⟨d',hm,hr⟩)
   ·obtain⟨r',hr',_,rfl⟩:=jS ht;have:r=r':=by simpa [D.pinned]using hr
    subst this;exact bU.2 hr'
  ·exact fun r y hy=>y.mono (hp r y hy) (fun _ _=>rfl) hreg (fun _ _=>rfl)
  ·exact pM hni
  ·exact fun r hr k hk=>⟨.inr ⟨r,hr,hk⟩,(hlo r hr k hk).2⟩
  ·exact hdj
  ·exact .of (Below.refl _ _)
  ·rfl
  ·simp[hlen];omega
  ·rfl
def xh(P:Program)(c:Ctx)(T:List (Nat×D))(H:List (Nat×Hp)):List ResultVar->List D->Prop
 |[],[]=>True
 |x::xs,d::ds=>RV P c T H x d/\xh P c T H xs ds
 |_,_=>False
theorem xh.nil:xh P c T H [] []:=trivial
theorem xh.cons{x:ResultVar}{d:D}{xs:List ResultVar}{ds:List D}(h:RV P c T H x d)(k:xh P c T H xs ds):xh P c T H (x::xs) (d::ds):=⟨h,k⟩
def DJ:List D->D
 |[d]=>d
 |ds=>.gV ds
theorem xh.run{P:Program}{a:Act}{w:World}{ε:Env}{φ:Nat->ck}(hs:cd c (aM T) (af H) a w ε φ):∀{xs:List ResultVar} {ds:List D},xh P c T H xs ds->
  ∃vs:List Value,(xs.mapM (HU a.tmps)).run P w=.ok vs w/\bN ε w (al c (af H) φ) ds vs
 |[],[],_=>⟨[],rfl,trivial⟩
 |x::xs,d::ds,h=>by
  obtain⟨v,hv,hp⟩:=h.1 a w ε φ hs;obtain⟨vs,hvs,hps⟩:=xh.run hs h.2;exact⟨v::vs,by simp[List.mapM_cons,hv,hvs],hp,hps⟩
 |[],_::_,h=>h.elim
 |_::_,[],h=>h.elim
theorem xh.res{P:Program}{fn:Func}{xs:List ResultVar}{ds:List D}(hx:fn.results=xs.toArray)(h:xh P c T H xs ds){a:Act}{w:World}{ε:Env}{φ:Nat->ck}(hs:cd c (aM T) (af H) a w ε φ):
  ∃v,(results fn a.tmps).run P w=.ok v w/\(DJ ds).p ε w (al c (af H) φ) v:=by
 obtain⟨vs,hvs,hp⟩:=xh.run hs h;have hlen:=aL hp;rw[fp,hx]
 match ds,vs,hp,hlen with
 |[d],[v],hp,_=>exact⟨v,by simp[hvs],hp.1⟩
 |[],[],_,_=>exact⟨.tuple #[],by simp[hvs],[],rfl,trivial⟩
 |d1::d2::ds,v1::v2::vs,hp,_=>exact⟨.tuple (v1::v2::vs).toArray,by simp[hvs],v1::v2::vs,rfl,hp⟩
theorem Sat.aN{fn:Func}{xs:List ResultVar}{ds:List D}{d:D}{Hi Ho:List (Nat×Hp)}{b:Nat->Value}(hx:fn.results=xs.toArray)(h:xh P c T H xs ds)(hle:Le (DJ ds) d)
  (hT:iO T (pins b (names Hi)))(hH:kY H Ho):∀a w,Sat c (aM T) (af H) a w->bodyPost P fn (A0 c Hi Ho b d) .ret a w:=by
 intro a w ⟨ε,φ,hs⟩;obtain⟨v,hv,hp⟩:=h.res hx hs;have live:∀r,af Ho r≠none->af H r≠none:=by
  intro r hr
  cases hq:af Ho r with
  |none=>exact absurd hq hr
  |some y=>obtain⟨z,hz,_⟩:=nP hH r y hq;rw[hz];simp
 have hreg:∀k,Am.al c (af H) φ k->k<w.heap.size->Am.al c (af Ho) φ k/\w.heap[k]?=w.heap[k]?:=fun k hk _=>⟨⟨hk.1,fun r hr=>hk.2 r (live r hr)⟩,rfl⟩;have hB:BY c Ho d ε w φ v:=by
  refine⟨d.mono (hle.1 _ _ _ _ hp) (fun _ _=>rfl) hreg,fun r h' hr=>?_,fun r hr=>hs.lo r (live r hr),fun r r' hr hr'=>hs.dj r r' (live r hr) (live r' hr'),hs.pP⟩;obtain⟨h,hh,hle⟩:=nP hH r h' hr;exact h'.mono (hle.1 _ _ _ _ _ (hs.h r h hh)) (fun _ _=>rfl) hreg (fun _ _=>rfl)
 refine⟨hs.df,v,hv,v,ε,φ,rfl,fun r hr=>?_,hB⟩
 ·have hm:=bU.1 hr;have hpin:∀{l:List Nat},r∈l->∃d',aM (pins b l) (1000000+r)=some d':=by
   intro l
   induction l with
   |nil=>intro h;cases h
   |cons r0 l ih=>
    intro h;simp only[pins,aM];cases hb:Nat.beq (1000000+r) (1000000+r0)with
    |true=>exact⟨_,rfl⟩
    |false=>
     rcases List.mem_cons.1 h with rfl|h
     ·simp at hb
     ·exact ih h
  obtain⟨d',hd'⟩:=hpin hm;obtain⟨r2,_,e2,rfl⟩:=jS hd';have:r2=r:=by omega
  subst this;obtain⟨d0,h0,hle0⟩:=nS hT _ _ hd';exact hle0.1 _ _ _ _ (hs.t _ _ h0)
theorem Ok.aN{fn:Func}{xs:List ResultVar}{ds:List D}{d:D}{Hi Ho:List (Nat×Hp)}{b:Nat->Value}{Q:Exit->Act->World->Prop}(hQ:∀a w,bodyPost P fn (A0 c Hi Ho b d) .ret a w->Q .ret a w)(hx:fn.results=xs.toArray)(h:xh P c T H xs ds)(hle:Le (DJ ds) d)
  (hT:iO T (pins b (names Hi)))(hH:kY H Ho):Ok P c T H .ret Q:=fun a w hs=>wp_ret (hQ a w (Sat.aN hx h hle hT hH a w hs))
theorem Sat.H_{fn:Func}{xs:List ResultVar}{ds:List D}{d:D}{Hi Ho:List (Nat×Hp)}{b:Nat->Value}{a:Act}{w:World}(hs:Sat c (aM T) (af H) a w)(hx:fn.results=xs.toArray)(h:xh P c T H xs ds)(hle:Le (DJ ds) d)(hT:iO T (pins b (names Hi)))(hH:kY H Ho):
  bodyPost P fn (A0 c Hi Ho b d) .normal a w:=Sat.aN hx h hle hT hH a w hs
theorem aW.plain{f:FuncId}{ds:List D}{d:D}(h:aW P f [] ds [] d):lO P f ds d where
 ok:=h.ok
 bD:=by
  cases e:Am.bD ds with
  |nil=>rfl
  |cons r l=>exact absurd rfl (dc h.G6 r (by rw[e];simp))
 nm:=by
  cases e:d.nm with
  |nil=>rfl
  |cons r l=>exact absurd rfl (dc h.Ev r (by rw[e];simp))
 calls:=by
  intro A w vs hv;refine(h.calls A w ε0 (fun _=>noBlocks) vs (fun r hr=>absurd rfl hr) (fun r _ hr=>absurd rfl hr) (fun r y hy=>by cases hy) hv).mono ?_;rintro e w' ⟨v,ε',φ',rfl,_,hp,_,_,_,hb⟩;have hnm:d.nm=[]:=by
   cases e:d.nm with
   |nil=>rfl
   |cons r l=>exact absurd rfl (dc h.Ev r (by rw[e];simp))
  refine⟨v,rfl,d.mono hp (by rw[hnm];intro r hr;cases hr) (fun k hk _=>⟨?_,rfl⟩),⟨hb.os,hb.tape,hb.output,hb.size,fun k hk=>hb.block k hk ?_⟩⟩
  ·rcases hk.1 with h|h|⟨r,hr,_⟩
   ·exact .inl h
   ·exact .inr h
   ·exact absurd rfl hr
  ·rintro⟨r,hr,_⟩;exact absurd rfl hr
theorem lO.gen{f:FuncId}{ds:List D}{d:D}(h:lO P f ds d):aW P f [] ds [] d where
 ok:=h.ok
 G6:=by rw[h.bD];rfl
 Hw:=rfl
 Gg:=rfl
 Ev:=by rw[h.nm];rfl
 ta:=rfl
 calls:=by
  intro A w ε φ vs _ _ _ hv;refine(h.calls A w vs (bF (fun k hk _=>⟨hk,rfl⟩) hv (by rw[h.bD];intro r hr;cases hr))).mono ?_;rintro e w' ⟨v,rfl,hp,hb⟩;have hB:BY ⟨A,w.heap.size,w,0,nW [] φ⟩ [] d ε0 w' (fun _=>noBlocks) v:=by
   refine⟨d.mono hp (fun _ _=>rfl) (fun k hk _=>⟨⟨hk.elim .inl (fun h=>.inr (.inl h)),fun r hr=>absurd rfl hr⟩,rfl⟩),?_,fun r hr=>absurd rfl hr,fun r _ hr=>absurd rfl hr,nH.of hb⟩;intro r y hy;cases hy
  exact⟨v,ε0,fun _=>noBlocks,rfl,fun r hr=>absurd rfl hr,hB⟩
end
theorem xh.t1{P:Program}{c:Ctx}{T:List (Nat×D)}{H:List (Nat×Hp)}{x:ResultVar}{d:D}(h:RV P c T H x d):xh P c T H [x] [d]:=⟨h,trivial⟩
end Go.Am
namespace Go.Am
open Go.RowKit
inductive Ex(σ ρ:Type) where
 |cp (s:σ)
 |ret (r:ρ)
section
variable {P:Program} {os:List Oper} {c:Ctx} {T T':List (Nat×D)} {H H':List (Nat×Hp)} {sps:List Spec}
variable {ops:Array Oper} {dst:Option Nat} {ty:TypeId} {pos:String} {aft:Array Edge} {Q:Exit->Act->World->Prop} {x y:Code}
theorem Ok.cz{ι:Type}(q:ι->Prop)(JT:ι->List (Nat×D))(JH:ι->List (Nat×Hp))(h:Ok P c T H x (Exit.then (fun a w=>∃i,q i/\Sat c (aM (JT i)) (af (JH i)) a w) Q))(k:∀i,q i->Ok P c (JT i) (JH i) y Q):Ok P c T H (.seq x y) Q:=
 .seq h (fun a w ⟨i,hq,hs⟩=>k i hq a w hs)
theorem Ok.cq{o:Operand}{b:Bool}(h:ev T o=some (.bool b))(hb:b=true)(k:Ok P c T H x Q):Ok P c T H (.cond o x y) Q:=by subst hb;exact .cT h k
theorem Ok.cA{o:Operand}{b:Bool}(h:ev T o=some (.bool b))(hb:¬b=true)(k:Ok P c T H y Q):Ok P c T H (.cond o x y) Q:=by
 have hb:b=false:=by simpa using hb
 subst hb;exact .cF h k
theorem ai.JQ{op:Op}{j g:Nat}{b:Bool}{sp:Spec}(hj:(ops[j]?).bind (·.dst)=some g)(hlt:Nat.blt g c.n=true)(hg:aM T g=some (.bool b))(hb:b=true)
  (hr:ai P ops c (⟨dst,op,ty,pos,aft,none⟩::os) T H (sp::sps) T' H'):ai P ops c (⟨dst,op,ty,pos,aft,some (j,true)⟩::os) T H (gs g b sp::sps) T' H':=.gY hj hlt hg (by rw[hb];rfl) hr
theorem ai.lT{op:Op}{j g:Nat}{b:Bool}{sp:Spec}(hj:(ops[j]?).bind (·.dst)=some g)(hlt:Nat.blt g c.n=true)(hg:aM T g=some (.bool b))(hb:¬b=true)
  (hr:ai P ops c (⟨dst,op,ty,pos,aft,none⟩::os) T H (sp::sps) T' H'):ai P ops c (⟨dst,op,ty,pos,aft,some (j,false)⟩::os) T H (gs g b sp::sps) T' H':=.gY hj hlt hg (by simp[hb]) hr
def D.uM:D:={p:=fun _ _ _ v=>v=undef,nm:=[],sh:=.Gy,mono:=fun h _ _=>h,ji:=fun _=>trivial}
theorem ai.Jm{op:Op}{j g:Nat}{b want:Bool}(hj:(ops[j]?).bind (·.dst)=some g)(hlt:Nat.blt g c.n=true)(hg:aM T g=some (.bool b))(hb:(b==want)=false)
  (hr:ai P ops c os (bg T dst .uM) H sps T' H'):ai P ops c (⟨dst,op,ty,pos,aft,some (j,want)⟩::os) T H (gs g b (ps [] .uM)::sps) T' H':=by
 refine .cons (sp:=gs g b (ps [] .uM)) ?_ ⟨hg,trivial⟩ trivial trivial hr;intro hd T0 H0 hi hh hn a w hsat Q K hK;obtain⟨ε,φ,hs'⟩:=hsat;have hy:yielded ops a.tmps j=some b:=zC hj (by rw[hs'.sz];simpa using hlt) (hs'.t g _ hi.1);have hw:¬Region.wanted (⟨dst,op,ty,pos,aft,some (j,want)⟩:Oper) (yielded ops a.tmps)=true:=by
  have:b≠want:=by intro e;subst e;simp at hb
  simp[Region.wanted,hy,this]
 rw[if_neg hw];exact hK _ _ ⟨ε,φ,hs'.put (d:=.uM) (cU hd) rfl (fun _ h=>by cases h)⟩
theorem ai.I7{op:Op}{j g:Nat}{b:Bool}(hj:(ops[j]?).bind (·.dst)=some g)(hlt:Nat.blt g c.n=true)(hg:aM T g=some (.bool b))(hb:¬b=true)
  (hr:ai P ops c os (bg T dst .uM) H sps T' H'):ai P ops c (⟨dst,op,ty,pos,aft,some (j,true)⟩::os) T H (gs g b (ps [] .uM)::sps) T' H':=.Jm hj hlt hg (by simp[hb]) hr
theorem ai.uQ{op:Op}{j g:Nat}{b:Bool}(hj:(ops[j]?).bind (·.dst)=some g)(hlt:Nat.blt g c.n=true)(hg:aM T g=some (.bool b))(hb:b=true)
  (hr:ai P ops c os (bg T dst .uM) H sps T' H'):ai P ops c (⟨dst,op,ty,pos,aft,some (j,false)⟩::os) T H (gs g b (ps [] .uM)::sps) T' H':=.Jm hj hlt hg (by rw[hb];rfl) hr
def IY(g:Nat):Spec:={ins:=[(g,.uM)],cY:=[],out:=.uM,cZ:=[],news:=[]}
theorem ai.gU{op:Op}{j g:Nat}{want:Bool}(hj:(ops[j]?).bind (·.dst)=some g)(hg:aM T g=some .uM)
  (hr:ai P ops c os (bg T dst .uM) H sps T' H'):ai P ops c (⟨dst,op,ty,pos,aft,some (j,want)⟩::os) T H (IY g::sps) T' H':=by
 refine .cons (sp:=IY g) ?_ ⟨hg,trivial⟩ trivial trivial hr;intro hd T0 H0 hi hh hn a w hsat Q K hK;obtain⟨ε,φ,hs'⟩:=hsat;have hv:a.tmps.getD g undef=undef:=hs'.t g _ hi.1;have hy:yielded ops a.tmps j=none:=by
  unfold yielded;simp only[hj,Option.bind_some];cases hq:a.tmps[g]?with
  |none=>rfl
  |some v=>
   have:v=undef:=by rw[←hv,Array.getD_eq_getD_getElem?,hq];rfl
   rw[this];rfl
 have hw:¬Region.wanted (⟨dst,op,ty,pos,aft,some (j,want)⟩:Oper) (yielded ops a.tmps)=true:=by simp[Region.wanted,hy]
 rw[if_neg hw];exact hK _ _ ⟨ε,φ,hs'.put (d:=.uM) (cU hd) rfl (fun _ h=>by cases h)⟩
theorem ai.bm{z x y:Operand}{d:D}{b:Bool}(hz:ev T z=some (.bool b))(hb:b=true)(hx:ev T x=some d)(hr:ai P ops c os (bg T dst d) H sps T' H'):
  ai P ops c (⟨dst,.pick z x y,ty,pos,aft,none⟩::os) T H (ps [(z,.bool true),(x,d)] d::sps) T' H':=by subst hb;exact .II hz hx hr
theorem ai.bh{z x y:Operand}{d:D}{b:Bool}(hz:ev T z=some (.bool b))(hb:¬b=true)(hy:ev T y=some d)(hr:ai P ops c os (bg T dst d) H sps T' H'):
  ai P ops c (⟨dst,.pick z x y,ty,pos,aft,none⟩::os) T H (ps [(z,.bool false),(y,d)] d::sps) T' H':=by
 have hb:b=false:=by simpa using hb
 subst hb;exact .Jg hz hy hr
end
theorem wx.GD{ρ:Nat->Nat}{r n:Nat}:wx ρ (.sl (ρ r) n) (.own r):=⟨fun _ _ _ _ h=>Le.sl.1 _ _ _ _ (show(D.sl r n).p _ _ _ _ from h),fun r' hr'=>by simp[D.own,D.sl]at hr'|-;rw[hr']⟩
section
variable {P:Program} {os:List Oper} {c:Ctx} {T T':List (Nat×D)} {H H':List (Nat×Hp)} {sps:List Spec}
variable {ops:Array Oper} {dst:Option Nat} {ty:TypeId} {pos:String} {aft:Array Edge} {Q:Exit->Act->World->Prop} {x y:Code}
def cf(l:List UInt8):D:=.str ⟨l.toArray⟩
theorem BF(a b:List UInt8):(⟨a.toArray⟩:ByteArray)++⟨b.toArray⟩=⟨(a++b).toArray⟩:=by
 apply ByteArray.ext;rw[ByteArray.data_append];simp
theorem tz(a:List UInt8)(i j:Nat):ByteArray.extract ⟨a.toArray⟩ i j=⟨((a.take j).drop i).toArray⟩:=by
 apply ByteArray.ext;rw[ByteArray.data_extract];simp[List.extract_eq_take_drop,List.drop_take]
theorem vn(a:List UInt8):ByteArray.toList ⟨a.toArray⟩=a:=ByteArray.toList_eq _
theorem ai.EM{xt yt:TypeId}{x y:Operand}{s u:List UInt8}(hx:ev T x=some (cf s))(hy:ev T y=some (cf u))(h:s.length+u.length<=9223372036854775807)
  (hr:ai P ops c os (bg T dst (cf (s++u))) H sps T' H'):ai P ops c (⟨dst,.binOp .add xt x y yt,ty,pos,aft,none⟩::os) T H (ps [(x,cf s),(y,cf u)] (cf (s++u))::sps) T' H':=by
 have e:=BF s u;have:=ai.cat (P:=P) (os:=os) (c:=c) (T:=T) (T':=T') (H:=H) (H':=H') (sps:=sps) (ops:=ops) (dst:=dst) (ty:=ty) (pos:=pos) (aft:=aft) (xt:=xt) (yt:=yt) hx hy h;rw[e]at this;exact this hr
theorem ai.Hy{xt yt:TypeId}{x y:Operand}{s u:List UInt8}(hx:ev T x=some (cf s))(hy:ev T y=some (cf u))(hr:ai P ops c os (bg T dst (.bool (s==u))) H sps T' H'):
  ai P ops c (⟨dst,.binOp .eql xt x y yt,ty,pos,aft,none⟩::os) T H (ps [(x,cf s),(y,cf u)] (.bool (s==u))::sps) T' H':=
 .sc hx hy (by simp only[HK,vn]) hr
theorem ai.Jl{xt yt:TypeId}{x y:Operand}{s u:List UInt8}(hx:ev T x=some (cf s))(hy:ev T y=some (cf u))(hr:ai P ops c os (bg T dst (.bool (!(s==u)))) H sps T' H'):
  ai P ops c (⟨dst,.binOp .neq xt x y yt,ty,pos,aft,none⟩::os) T H (ps [(x,cf s),(y,cf u)] (.bool (!(s==u)))::sps) T' H':=
 .sc hx hy (by simp only[HK,vn]) hr
theorem ai.wy{t:TypeId}{x:Operand}{s:List UInt8}(hx:ev T x=some (cf s))(ht:isStr P t=true)(hr:ai P ops c os (bg T dst (.int .i64 s.length)) H sps T' H'):
  ai P ops c (⟨dst,.call {callee:=.builtin .len,args:=#[x],argTypes:=#[t]},ty,pos,aft,none⟩::os) T H (ps [(x,cf s)] (.int .i64 s.length)::sps) T' H':=.Jj hx ht hr
theorem ai.Jx{t:TypeId}{x y:Operand}{s:List UInt8}{k:IntKind}{z:Int}{b:UInt8}(hx:ev T x=some (cf s))(hy:ev T y=some (.int k z))(ht:isStr P t=true)(h0:0<=z)(hb:s[z.toNat]?=some b)
  (hr:ai P ops c os (bg T dst (.int .u8 b.toNat)) H sps T' H'):
  ai P ops c (⟨dst,.index t x y,ty,pos,aft,none⟩::os) T H (ps [(x,cf s),(y,.int k z)] (.int .u8 b.toNat)::sps) T' H':=by
 obtain⟨hlt,he⟩:=List.getElem?_eq_some_iff.1 hb;refine .I4 hx hy ht h0 ?_ hr;have hlt':z.toNat<(ByteArray.mk s.toArray).size:=hlt;rw[getElem?_pos (c:=ByteArray.mk s.toArray) (i:=z.toNat) hlt'];exact congrArg some he
theorem ai.Jo{t:TypeId}{x y:Operand}{s:List UInt8}{k:IntKind}{z:Int}(hx:ev T x=some (cf s))(hy:ev T y=some (.int k z))(ht:isStr P t=true)(h0:0<=z)(h1:z<=s.length)(hr:ai P ops c os (bg T dst (cf (s.drop z.toNat))) H sps T' H'):
  ai P ops c (⟨dst,.slice t x (some y) none none,ty,pos,aft,none⟩::os) T H (ps [(x,cf s),(y,.int k z)] (cf (s.drop z.toNat))::sps) T' H':=by
 have e:ByteArray.extract ⟨s.toArray⟩ z.toNat (ByteArray.mk s.toArray).size=⟨(s.drop z.toNat).toArray⟩:=by
  rw[tz];congr 3;exact List.take_of_length_le (Nat.le_refl _)
 have:=ai.JE (P:=P) (os:=os) (c:=c) (T:=T) (T':=T') (H:=H) (H':=H') (sps:=sps) (ops:=ops) (dst:=dst) (ty:=ty) (pos:=pos) (aft:=aft) hx hy ht h0 h1;rw[e]at this;exact this hr
theorem ai.Ji{t:TypeId}{x y:Operand}{s:List UInt8}{k:IntKind}{z:Int}(hx:ev T x=some (cf s))(hy:ev T y=some (.int k z))(ht:isStr P t=true)(h0:0<=z)(h1:z<=s.length)(hr:ai P ops c os (bg T dst (cf (s.take z.toNat))) H sps T' H'):
  ai P ops c (⟨dst,.slice t x none (some y) none,ty,pos,aft,none⟩::os) T H (ps [(x,cf s),(y,.int k z)] (cf (s.take z.toNat))::sps) T' H':=by
 have e:ByteArray.extract ⟨s.toArray⟩ 0 z.toNat=⟨(s.take z.toNat).toArray⟩:=by rw[tz];rfl
 have:=ai.mj (P:=P) (os:=os) (c:=c) (T:=T) (T':=T') (H:=H) (H':=H') (sps:=sps) (ops:=ops) (dst:=dst) (ty:=ty) (pos:=pos) (aft:=aft) hx hy ht h0 h1;rw[e]at this;exact this hr
theorem ai.JP{t:TypeId}{parts:List (Nat×Operand)}{z l:List D}{pl:List (Nat×Nat)}(q:List (Nat×Operand×D×List D))(hz:Bu P t=some z)(hp:EV P t=some pl)(hq:iQ pl z.length parts q)(he:∀x∈qs q,ev T x.1=some x.2)(hle:si (over z q) l)
  (hr:ai P ops c os (bg T dst (.agg l)) H sps T' H'):
  ai P ops c (⟨dst,.build t parts.toArray,ty,pos,aft,none⟩::os) T H (ps (qs q) (.agg l)::sps) T' H':=by
 have hb:=ai.bd (P:=P) (os:=[]) (c:=c) (T:=T) (T':=bg T dst (.agg (over z q))) (H:=H) (H':=H) (sps:=[]) (ops:=ops) (dst:=dst) (ty:=ty) (pos:=pos) (aft:=aft) q hz hp hq he .nil
 cases hb with
 |cons hs hi hh hn _=>
  refine .cons (sp:=ps (qs q) (.agg l)) ?_ hi hh hn hr;intro hd T0 H0 hi0 hh0 hn0 a w hsat Q K hK;refine hs hd T0 H0 hi0 hh0 hn0 a w hsat Q K (fun a' w' hs'=>hK a' w' ?_);obtain⟨ε,φ,hs'⟩:=hs';refine⟨ε,φ,{hs' with t:=?_,tn:=?_}⟩
  ·intro t' d hd'
   cases dst with
   |none=>exact hs'.t t' d hd'
   |some t0=>
    simp only[fY]at hd';by_cases e:t'=t0
    ·rw[if_pos e]at hd';injection hd' with hd';subst hd';exact(Le.agg hle).1 _ _ _ _ (hs'.t t' _ (by simp only[fY];rw[if_pos e];rfl))
    ·rw[if_neg e]at hd';exact hs'.t t' d (by simp only[fY];rw[if_neg e];exact hd')
  ·intro t' d hd' r hr'
   cases dst with
   |none=>exact hs'.tn t' d hd' r hr'
   |some t0=>
    simp only[fY]at hd';by_cases e:t'=t0
    ·rw[if_pos e]at hd';injection hd' with hd';subst hd';exact hs'.tn t' (.agg (over z q)) (by simp only[fY];rw[if_pos e];rfl) r (hle.bD r hr')
    ·rw[if_neg e]at hd';exact hs'.tn t' d (by simp only[fY];rw[if_neg e];exact hd') r hr'
theorem ai.fW{t r:Nat}{z:List D}(l:List D)(hz:Bu P t=some z)(hle:si z l)(hf:af H r=none)(hr:ai P ops c os ((r,.ref r 0)::T) ((r,.box t l)::H) sps T' H'):
  ai P ops c (⟨some r,.alloc t,ty,pos,aft,none⟩::os) T H (bs [] r t l::sps) T' H':=by
 unfold Bu at hz
 cases hi:P.info? t with
 |none=>simp[hi]at hz
 |some i=>
  cases hv:i.zero with
  |none=>simp[hi,hv]at hz
  |some v=>
   simp only[hi,hv]at hz
   split at hz
   ·rename_i h1;injection hz with hz;subst hz;refine .new [] t _ rfl rfl (by simp) hf (fun r hr=>by have:=hle.bD r hr;rw[wN]at this;cases this) (fun ε w S a _=>⟨v.cells.toList,?_,fun u hu=>Array.all_eq_true_iff_forall_mem.1 h1 u (by simpa using hu),hle.all (jb _ _ _ _)⟩) hr;simp only[execOp,Instr.alloc,zeroValue,typeInfo,Sem.run_bind,run_program,Result.andThen_ok,hi,hv,Sem.run_pure,newVar,newRow,run_newObj,Array.toArray_toList]
    rfl
   ·cases hz
theorem ai.JJ{α:Type}{e:ak α}{t te:TypeId}{parts:List (Nat×Operand)}{m bt n:Nat}{z:List D}(xs:List α)(q:List (Nat×Operand×D×List D))(hm:oj P t=some (te,m,bt,z))(hmn:m=e.n)(hs:Nat.ble (n*m) 16777216=true)(hn0:Nat.blt 0 n=true)(hq:iQ (B7 m 0 n) (n*m) parts q)(he:∀x∈qs q,ev T x.1=some x.2)
  (hle:over (List.replicate n z).flatten q=flat e xs)(hln:xs.length=n)
  (hr:ai P ops c os (bg T dst (an e xs)) H sps T' H'):
  ai P ops c (⟨dst,.buildSlice t n parts.toArray,ty,pos,aft,none⟩::os) T H (ps (qs q) (an e xs)::sps) T' H':=by
 subst hmn;subst hln;exact .bl (hl:=dN e xs) q hm hs hn0 hq he hle (by rw[bp];simp) hr
theorem ai.Iv{α:Type}{e:ak α}{t:TypeId}{x y:Operand}{xs:List α}{k:IntKind}{z:Int}(hx:ev T x=some (an e xs))(hy:ev T y=some (.int k z))(ht:sle P t=some e.n)(h0:0<=z)(h1:z<=xs.length)(hr:ai P ops c os (bg T dst (an e (xs.take z.toNat))) H sps T' H'):
  ai P ops c (⟨dst,.slice t x none (some y) none,ty,pos,aft,none⟩::os) T H (ps [(x,an e xs),(y,.int k z)] (an e (xs.take z.toNat))::sps) T' H':=by
 have hzl:(xs.take z.toNat).length=z.toNat:=by rw[List.length_take];omega
 have e1:D.jm z.toNat e.n ((flat e xs).take (z.toNat*e.n)) (eL (dN e xs) _)=an e (xs.take z.toNat):=by
  unfold an
  congr 1
  ·exact hzl.symm
  ·rw[rf]
 have:=ai.I9 (P:=P) (os:=os) (c:=c) (T:=T) (T':=T') (H:=H) (H':=H') (sps:=sps) (ops:=ops) (dst:=dst) (ty:=ty) (pos:=pos) (aft:=aft) (l:=flat e xs) (hl:=dN e xs) hx hy ht h0 h1;rw[e1]at this;exact this hr
theorem ai.xi{α:Type}{e:ak α}{t te:TypeId}{x y:Operand}{r1 r m bt:Nat}{xs ys:List α}{z:List D}{dx dy:D}(hx:ev T x=some dx)(hdx:Le dx (.own r1))(hy:ev T y=some dy)(hdy:Le dy (an e ys))(hh:af H r1=some (aR e te xs))(hm:oj P t=some (te,m,bt,z))(hmn:m=e.n)
  (hb:(xs.length+ys.length)*bt<=140737488355328)(hmax:xs.length+ys.length<=9223372036854775807)(hf:af H r=none)
  (hr:ai P ops c os ((r,.own r)::T) ((r1,.dead)::(r,aR e te (xs++ys))::H) sps T' H'):
  ai P ops c (⟨some r,.call {callee:=.builtin .append,args:=#[x,y],argTypes:=#[t,t]},ty,pos,aft,none⟩::os) T H
   (apps x dx y dy r1 r [(r1,aR e te xs)] (aR e te (xs++ys))::sps) T' H':=by
 subst hmn;refine .cons (sp:=apps x dx y dy r1 r [(r1,aR e te xs)] (aR e te (xs++ys))) ?_ (aU.2 ⟨(aw hx).1,(aw hy).1⟩) ⟨hh,trivial⟩ ⟨hf,trivial⟩ hr;intro hd T0 H0 hi cY hnew a w ⟨ε,φ,hs⟩ Q K hK;rw[if_pos (a_ rfl _)];obtain⟨hi1,hi2⟩:=aU.1 hi;have h1:a.eval x=ε r1:=(hdx.1 _ _ _ _ (hs.ev hi1 (aw hx).2).1).1;obtain⟨A,cap2,h2,_,hln,hA⟩:=hdy.1 _ _ _ _ (hs.ev hi2 (aw hy).2).1;obtain⟨vs,hvA,hv1,hv⟩:=Ab hln hA;obtain⟨v',w',ε',φ',hrun,hS,ev',ho⟩:=hs.app (ty:=ty) hm (r:=r) (hl:=dN e (xs++ys)) cY.1 hnew.1 (bp e xs) hln (dN e ys) (nZ e xs ys).symm hvA hv1 hv hb hmax (cap2:=cap2);have hrun':(Builtin.append_ #[t,t] ty #[a.eval x,a.eval y]).run P w=.ok v' w':=by rw[h1,h2];exact hrun
 simp only[Oper.wp,m6 a w w' hrun',Oper.upon];refine hK _ _ ⟨ε',φ',hS.put (d:=.own r) (cU hd) ⟨ev'.symm,ho⟩ (fun r' hr'=>?_)⟩;have:r'=r:=by simpa [D.own]using hr'
 subst this;show bf H0 [(r1,.dead),(r',aR e te (xs++ys))] r'≠none;rw[gl];have hne:r'≠r1:=fun e=>by subst e;have:=cY.1;have h0:=hnew.1;rw[h0]at this;cases this
 rw[aB _ _ hne,aq];simp
theorem ai.cH{t tb r off n:Nat}{x y:Operand}{l m:List D}(l':List D)(h:ev T x=some (.ref r off))(hy:ev T y=some (.agg m))(hh:af H r=some (.box tb l))(hl:lay P t=some (some n))(hm:Nat.beq m.length n=true)
  (hn:Nat.ble (off+n) l.length=true)(hle:l.take off++m++l.drop (off+n)=l')
  (hr:ai P ops c os (bg T dst .any) ((r,.box tb l')::H) sps T' H'):
  ai P ops c (⟨dst,.store t x y,ty,pos,aft,none⟩::os) T H (ws x (.ref r off) y (.agg m) r (.box tb l) (.box tb l')::sps) T' H':=by
 subst hle;exact .JD h hy hh hl hm hn hr
theorem ai.zi{t tb r off:Nat}{x y:Operand}{l:List D}{e:D}(l':List D)(h:ev T x=some (.ref r off))(hy:ev T y=some e)(hh:af H r=some (.box tb l))(hl:lay P t=some none)(hsh:e.sh=.one)
  (hn:Nat.ble (off+1) l.length=true)(hle:l.take off++[e]++l.drop (off+1)=l')
  (hr:ai P ops c os (bg T dst .any) ((r,.box tb l')::H) sps T' H'):
  ai P ops c (⟨dst,.store t x y,ty,pos,aft,none⟩::os) T H (ws x (.ref r off) y e r (.box tb l) (.box tb l')::sps) T' H':=by
 subst hle;exact .JA h hy hh hl hsh hn hr
theorem ai.bA{t tb r off:Nat}{x:Operand}{l:List D}(d:D)(h:ev T x=some (.ref r off))(hh:af H r=some (.box tb l))(hl:lay P t=some none)(hd:l[off]?=some d)
  (hr:ai P ops c os (bg T dst d) H sps T' H'):ai P ops c (⟨dst,.load t x,ty,pos,aft,none⟩::os) T H (rs x (.ref r off) r (.box tb l) d::sps) T' H':=.JF h hh hl hd hr
end
def ix{α:Type}(xs:List α)(i:Int):Option α:=if 0<=i then xs[i.toNat]?else none
theorem ag{α:Type}{xs:List α}{i:Int}{a:α}(h:ix xs i=some a):0<=i/\xs[i.toNat]?=some a:=by
 unfold ix at h
 split at h
 ·rename_i h0;exact⟨h0,h⟩
 ·cases h
theorem cO{α:Type}{xs:List α}{i:Int}{a:α}(h:ix xs i=some a):i.toNat<xs.length:=(List.getElem?_eq_some_iff.1 (ag h).2).1
theorem ai.gy{P:Program}{os:List Oper}{c:Ctx}{T T':List (Nat×D)}{H H':List (Nat×Hp)}{sps:List Spec}{ops:Array Oper}{dst:Option Nat}{ty:TypeId}{pos:String}{aft:Array Edge}{op:Op}{j g:Nat}{b:Bool}{sp:Spec}(hb:b=true)(hr:ai P ops c (⟨dst,op,ty,pos,aft,none⟩::os) T H (sp::sps) T' H')(hj:(ops[j]?).bind (·.dst)=some g:=by exact rfl)(hlt:Nat.blt g c.n=true:=by exact rfl)(hg:aM T g=some (.bool b):=by exact rfl):ai P ops c (⟨dst,op,ty,pos,aft,some (j,true)⟩::os) T H (gs g b sp::sps) T' H':=.JQ hj hlt hg hb hr
theorem ai.gz{P:Program}{os:List Oper}{c:Ctx}{T T':List (Nat×D)}{H H':List (Nat×Hp)}{sps:List Spec}{ops:Array Oper}{dst:Option Nat}{ty:TypeId}{pos:String}{aft:Array Edge}{op:Op}{j g:Nat}{b:Bool}{sp:Spec}(hb:¬b=true)(hr:ai P ops c (⟨dst,op,ty,pos,aft,none⟩::os) T H (sp::sps) T' H')(hj:(ops[j]?).bind (·.dst)=some g:=by exact rfl)(hlt:Nat.blt g c.n=true:=by exact rfl)(hg:aM T g=some (.bool b):=by exact rfl):ai P ops c (⟨dst,op,ty,pos,aft,some (j,false)⟩::os) T H (gs g b sp::sps) T' H':=.lT hj hlt hg hb hr
theorem ai.D9{P:Program}{os:List Oper}{c:Ctx}{T T':List (Nat×D)}{H H':List (Nat×Hp)}{sps:List Spec}{ops:Array Oper}{dst:Option Nat}{ty:TypeId}{pos:String}{aft:Array Edge}{op:Op}{j g:Nat}{sp:Spec}(hr:ai P ops c (⟨dst,op,ty,pos,aft,none⟩::os) T H (sp::sps) T' H')(hj:(ops[j]?).bind (·.dst)=some g:=by exact rfl)(hlt:Nat.blt g c.n=true:=by exact rfl)(hg:aM T g=some (.bool false):=by exact rfl):ai P ops c (⟨dst,op,ty,pos,aft,some (j,false)⟩::os) T H (gs g false sp::sps) T' H':=.lT hj hlt hg (by decide) hr
theorem ai.gm{P:Program}{os:List Oper}{c:Ctx}{T T':List (Nat×D)}{H H':List (Nat×Hp)}{sps:List Spec}{ops:Array Oper}{dst:Option Nat}{ty:TypeId}{pos:String}{aft:Array Edge}{op:Op}{j g:Nat}{b:Bool}(hb:¬b=true)(hr:ai P ops c os (bg T dst .uM) H sps T' H')(hj:(ops[j]?).bind (·.dst)=some g:=by exact rfl)(hlt:Nat.blt g c.n=true:=by exact rfl)(hg:aM T g=some (.bool b):=by exact rfl):ai P ops c (⟨dst,op,ty,pos,aft,some (j,true)⟩::os) T H (gs g b (ps [] .uM)::sps) T' H':=.I7 hj hlt hg hb hr
theorem ai.ca{P:Program}{os:List Oper}{c:Ctx}{T T':List (Nat×D)}{H H':List (Nat×Hp)}{sps:List Spec}{ops:Array Oper}{dst:Option Nat}{ty:TypeId}{pos:String}{aft:Array Edge}{op:Op}{j g:Nat}(hr:ai P ops c os (bg T dst .uM) H sps T' H')(hj:(ops[j]?).bind (·.dst)=some g:=by exact rfl)(hlt:Nat.blt g c.n=true:=by exact rfl)(hg:aM T g=some (.bool false):=by exact rfl):ai P ops c (⟨dst,op,ty,pos,aft,some (j,true)⟩::os) T H (gs g false (ps [] .uM)::sps) T' H':=.I7 hj hlt hg (by decide) hr
theorem ai.gk{P:Program}{os:List Oper}{c:Ctx}{T T':List (Nat×D)}{H H':List (Nat×Hp)}{sps:List Spec}{ops:Array Oper}{dst:Option Nat}{ty:TypeId}{pos:String}{aft:Array Edge}{op:Op}{j g:Nat}{b:Bool}(hb:b=true)(hr:ai P ops c os (bg T dst .uM) H sps T' H')(hj:(ops[j]?).bind (·.dst)=some g:=by exact rfl)(hlt:Nat.blt g c.n=true:=by exact rfl)(hg:aM T g=some (.bool b):=by exact rfl):ai P ops c (⟨dst,op,ty,pos,aft,some (j,false)⟩::os) T H (gs g b (ps [] .uM)::sps) T' H':=.uQ hj hlt hg hb hr
theorem ai.gu{P:Program}{os:List Oper}{c:Ctx}{T T':List (Nat×D)}{H H':List (Nat×Hp)}{sps:List Spec}{ops:Array Oper}{dst:Option Nat}{ty:TypeId}{pos:String}{aft:Array Edge}{op:Op}{j g:Nat}{want:Bool}(hr:ai P ops c os (bg T dst .uM) H sps T' H')(hj:(ops[j]?).bind (·.dst)=some g:=by exact rfl)(hg:aM T g=some .uM:=by exact rfl):ai P ops c (⟨dst,op,ty,pos,aft,some (j,want)⟩::os) T H (IY g::sps) T' H':=.gU hj hg hr
theorem jh{α:Type}{xs:List α}{i:Int}{a:α}(h:ix xs i=some a):i<(xs.length:Int):=by have:=cO h;have:=(ag h).1;omega
end Go.Am
namespace Go.Am
open Go.RowKit
section
variable {P:Program} {os:List Oper} {c:Ctx} {T T':List (Nat×D)} {H H':List (Nat×Hp)} {sps:List Spec}
variable {ops:Array Oper} {dst:Option Nat} {ty:TypeId} {pos:String} {aft:Array Edge} {Q:Exit->Act->World->Prop} {x y:Code}
theorem ai.Js{α:Type}{e:ak α}{t te:TypeId}{r:Nat}{parts:List (Nat×Operand)}{m bt n:Nat}{z:List D}(xs:List α)(q:List (Nat×Operand×D×List D))(hm:oj P t=some (te,m,bt,z))(hmn:m=e.n)(hs:Nat.ble (n*m) 16777216=true)(hn0:Nat.blt 0 n=true)(hq:iQ (B7 m 0 n) (n*m) parts q)(he:∀x∈qs q,ev T x.1=some x.2)
  (hle:over (List.replicate n z).flatten q=flat e xs)(hln:xs.length=n)(hf:af H r=none)
  (hr:ai P ops c os ((r,.own r)::T) ((r,aR e te xs)::H) sps T' H'):
  ai P ops c (⟨some r,.buildSlice t n parts.toArray,ty,pos,aft,none⟩::os) T H (rws (qs q) r (aR e te xs)::sps) T' H':=by
 subst hmn;subst hln;refine .cons (sp:=rws (qs q) r (aR e te xs)) ?_ (eI he) trivial ⟨hf,trivial⟩ hr;intro hd T0 H0 hi _ hnew a w ⟨ε,φ,hs'⟩ Q K hK;rw[if_pos (a_ rfl _)];have hx:∀x∈qs q,fq T0 (eN x.1 x.2):=cJ hi;obtain⟨i,v,hu,hinf,hzv,hsz,_,ez,hv1,hvs,hm0⟩:=gh hm;obtain⟨hpl,hg⟩:=j2 hq;have hn1:0<xs.length:=by simpa using hn0
 have hcs:=eZ hvs hm0 xs.length;have hz0:bN ε w (al c H0 φ) (List.replicate xs.length z).flatten (madeCells v.cells (xs.length*e.n)).toList:=by rw[hcs,ez];exact fI (jb _ _ _ _) _
 have hzl:(List.replicate xs.length z).flatten.length=xs.length*e.n:=by
  have h1:v.cells.toList.length=e.n:=by rw[Array.length_toList,hvs]
  rw[gB,ez,List.length_map,h1]
 obtain⟨cs',hfl,hA,hO⟩:=mu (a:=a) (place:=fun i=>some (i*e.n,e.n)) hpl (fun k u x hu' hx=>by
  have:=hg k u x hu' hx;have h2:=sr e.n 0 xs.length u.1 _ this.2.1;simp only[Prod.mk.injEq,Nat.zero_add]at h2;exact⟨this.1,by rw[h2.1,h2.2],this.2.2.1,by rw[hzl];exact this.2.2.2⟩) hz0 (by
   intro u hu';rw[hcs]at hu';simp only[List.mem_flatten,List.mem_replicate]at hu';obtain⟨l',⟨_,rfl⟩,hu'⟩:=hu';exact hv1 u hu') (fun x hxm=>(hs'.ev (hx (x.2.1,x.2.2.1) (List.mem_map.2 ⟨x,hxm,rfl⟩)) (aw (he (x.2.1,x.2.2.1) (List.mem_map.2 ⟨x,hxm,rfl⟩))).2).1)
 have hlim:¬(xs.length*e.n>2^24):=by have:=Nat.le_of_ble_eq_true hs;omega
 have hf':Instr.fill (fun i=>some (i*e.n,e.n)) (madeCells v.cells (xs.length*e.n)) (parts.map fun x=>(x.1,a.eval x.2))=some cs':=hfl;have h0:¬(xs.length*e.n=0):=by
  intro h;rcases Nat.mul_eq_zero.1 h with h|h<;>omega
 have hrun:(execOp a.eval ⟨some r,.buildSlice t xs.length parts.toArray,ty,pos,aft,none⟩).run P w=.ok (.value (.slice (some ⟨w.heap.size,0,none⟩) xs.length xs.length)) (w.alloc (.cells cs' te)):=by
  simp only[execOp,Instr.buildSlice,run_underlying hu,Sem.run_bind,Result.andThen_ok,sizeOf,typeInfo,run_program,hinf,Sem.run_pure,hsz];simp[hlim,h0,zeroValue,typeInfo,hinf,hzv,newRow];rw[show(Array.map (fun x=>v.cells[x%v.cells.size]!) (Array.range (xs.length*e.n)))=madeCells v.cells (xs.length*e.n)from rfl,hf'];simp
 simp only[Oper.wp,hrun,Oper.upon];rw[hle]at hA;have hlen:=aL hA;have hmx:xs.length<=maxLen:=by
  have h1:=Nat.le_of_ble_eq_true hs;have h2:xs.length*1<=xs.length*e.n:=Nat.mul_le_mul_left _ hm0;unfold maxLen;omega
 have hA':bN (db ε r (.slice (some ⟨w.heap.size,0,none⟩) xs.length xs.length)) (w.alloc (.cells cs' te)) (Am.al c (bf H0 [(r,aR e te xs)]) (db φ r (only w.heap.size))) (flat e xs) cs'.toList:=by
  refine bF (fun k hk hlt=>⟨⟨hk.1,fun r' hr'=>?_⟩,Below.heap_alloc _ _ _ hlt⟩) hA (by rw[dN];intro r' hr';cases hr');rw[bu]at hr';by_cases e':r'=r
  ·subst e';rw[aq];intro hf';simp only[only]at hf';omega
  ·rw[aB _ _ e']at hr'|-;exact hk.2 r' hr'
 have hN:=hs'.lB (x:=aR e te xs) (b:=.slice (some ⟨w.heap.size,0,none⟩) xs.length xs.length) (F:=only w.heap.size) (w':=w.alloc (.cells cs' te)) (r:=r) hnew.1 ((Below.refl _ _).alloc (Nat.le_refl _) _)
  (fun k hk=>by simp only[only]at hk;subst hk;simp)
  (.inr ⟨w.heap.size,xs.length,xs.length,cs'.toList,[],rfl,rfl,by rw[ia,List.append_nil],hO,by rw[List.append_nil,hlen,bp],hmx,bp e xs,hA'⟩) (fun r' hr'=>by cases hr')
 exact hK _ _ ⟨_,_,hN.put (dst:=some r) (d:=.own r) (cU hd) ⟨(aq _ _ _).symm,rfl⟩ (by simp[D.own,bu,aq])⟩
theorem rj{ε:Env}{w:World}{S:ck}{d:D}:∀{l:List D} {vs:List Value} {i:Nat} {v:Value},bN ε w S l vs->vs[i]?=some v->d.p ε w S v->bN ε w S (l.set i d) vs
 |[],[],_,_,_,h,_=>by simp at h
 |d0::l,v0::vs,0,v,h,hi,hd=>by simp at hi;subst hi;exact⟨hd,h.2⟩
 |d0::l,v0::vs,i+1,v,h,hi,hd=>⟨h.1,rj h.2 (by simpa using hi) hd⟩
 |[],_::_,_,_,h,_,_=>h.elim
 |_::_,[],_,_,h,_,_=>h.elim
theorem rG{l:List D}{d:D}{i r:Nat}(h:r∈bD (l.set i d)):r∈bD l\/r∈d.nm:=by
 obtain⟨d',hd',hr⟩:=bG.1 h;rcases List.mem_or_eq_of_mem_set hd' with h|rfl
 ·exact .inl (bG.2 ⟨d',h,hr⟩)
 ·exact .inr hr
theorem cd.tell{T0:Nat->Option D}{H0:Nat->Option Hp}{a:Act}{w:World}{ε:Env}{φ:Nat->ck}(hs:cd c T0 H0 a w ε φ){r0:Nat}{x y:Hp}(hr:H0 r0=some x)(hy:y.p ε w (Am.al c H0 φ) (ε r0) (φ r0))(hn:∀r'∈y.nm,H0 r'≠none):cd c T0 (bf H0 [(r0,y)]) a w ε φ:=
 hs.tf hr rfl rfl rfl rfl (fun _ _=>rfl) hy hn
theorem Ok.Iy{α:Type}(e:ak α)(r0 off r te:Nat){tb:TypeId}{l:List D}(l':List D)(hh:af H r0=some (.box tb l))(hd:l[off]?=some .nil)(hf:af H r=none)(hl:l.set off (.own r)=l')
  (h:Ok P c T ((r0,.box tb l')::(r,aR e te [])::H) x Q):Ok P c T H x Q:=by
 intro a w ⟨ε,φ,hs⟩;subst hl;have hN:=hs.lB (x:=aR e te []) (b:=.slice none 0 0) (F:=noBlocks) (r:=r) hf (Below.refl _ _) (fun k hk=>hk.elim) (.inl ⟨rfl,rfl,rfl⟩) (fun r' hr'=>by cases hr');have hne:r0≠r:=fun e=>by subst e;rw[hh]at hf;cases hf
 have hr0:bf (af H) [(r,aR e te [])] r0=some (.box tb l):=by rw[bu,aB _ _ hne];exact hh
 obtain⟨eF,cs,hb,h1,hc⟩:=hN.h r0 _ hr0;obtain⟨v,hv,hp⟩:=fP hc hd;have hS:=hN.tell (y:=.box tb (l.set off (.own r))) hr0 ⟨eF,cs,hb,h1,rj hc hv ⟨by rw[show v=_ from hp,aq],by rw[show v=_ from hp];rfl⟩⟩ (fun r' hr'=>by
  rcases rG (show r'∈bD (l.set off (.own r))from hr')with h|h
  ·exact hN.hn r0 _ hr0 r' h
  ·have:r'=r:=by simpa [D.own]using h
   subst this;rw[bu,aq];simp)
 refine h a w (Sat.ext (T:=aM T) (H:=bf (bf (af H) [(r,aR e te [])]) [(r0,.box tb (l.set off (.own r)))]) ⟨_,_,hS⟩ (fun _=>rfl) (fun r'=>?_));rw[bq,bq];rfl
theorem Ok.HD{α:Type}{e:ak α}{te:TypeId}{xs:List α}(r0 off:Nat){r:Nat}{tb:TypeId}{l:List D}(l':List D)(hh:af H r0=some (.box tb l))(hd:l[off]?=some (.own r))(hr:af H r=some (aR e te xs))(hm:Nat.blt 0 e.n=true)(hl:l.set off (an e xs)=l')
  (h:Ok P c T ((r0,.box tb l')::(r,.dead)::H) x Q):Ok P c T H x Q:=by
 intro a w ⟨ε,φ,hs⟩;subst hl;have hne:r0≠r:=fun e=>by subst e;rw[hh]at hr;injection hr with hr;exact absurd (congrArg Hp.nm hr) (by intro hq;have:=List.getElem?_eq_some_iff.1 hd;have hx:r0∈bD l:=bG.2 ⟨.own r0,List.mem_of_getElem? hd,by simp[D.own]⟩;rw[show bD l=[]from hq]at hx;cases hx)
 have hm0:0<e.n:=by simpa using hm
 have hG:=vZ hs hr;have hr0:af ((r,Hp.dead)::H) r0=some (.box tb l):=by
  simp only[af]
  cases hb:Nat.beq r0 r with
  |true=>exact absurd (Nat.eq_of_beq_eq_true hb) hne
  |false=>exact hh
 obtain⟨eF,cs,hb,h1,hc⟩:=hG.h r0 _ hr0;obtain⟨v,hv,hp⟩:=fP hc hd;have hev:v=ε r:=hp.1;have hrow:=hs.h r _ hr;have hslc:(an e xs).p ε w (Am.al c (af ((r,Hp.dead)::H)) (db φ r noBlocks)) v:=by
  have hH:af ((r,Hp.dead)::H)=db (af H) r (some .dead):=by rw[←bu,bq];rfl
  have hliv:∀r',r'≠r->af ((r,Hp.dead)::H) r'≠none->af H r'≠none:=by
   intro r' e' hr';rw[hH,aB _ _ e']at hr';exact hr'
  rcases hrow with⟨e0,eb,_⟩|⟨g,n',cap,cs,rest,eb,eF',hg,h1',hcap,_,hln,hcs⟩
  ·have h0:=bp e xs;rw[e0]at h0;have:xs.length=0:=by rcases Nat.mul_eq_zero.1 h0.symm with h|h<;>omega
   exact⟨none,0,by rw[hev,eb,this],by omega,bp e xs,.inl this⟩
  ·have hn':n'=xs.length:=Nat.eq_of_mul_eq_mul_right hm0 (hln.symm.trans (bp e xs));subst hn';have hlo:=hs.lo r (by simp[hr]) g (by rw[eF'];rfl);have hSg:Am.al c (af ((r,Hp.dead)::H)) (db φ r noBlocks) g:=by
    refine⟨.inr hlo.1,fun r' hr'=>?_⟩;by_cases e':r'=r
    ·subst e';rw[aq];exact fun h=>h
    ·rw[aB _ _ e'];exact hs.dj r r' (by simp[hr]) (hliv r' e' hr') (Ne.symm e') g (by rw[eF'];rfl)
   refine⟨some ⟨g,0,none⟩,cap,by rw[hev,eb],?_,bp e xs,.inr ⟨g,0,rfl,hSg,(cs++rest).toArray,te,(0,0),cs,hg,fun j u hj=>?_,h1',?_⟩⟩
   ·have hle:xs.length*e.n<=cap*e.n:=by rw[←hcap,List.length_append,aL hcs,bp];omega
    exact Nat.le_of_mul_le_mul_right hle hm0
   ·rw[Nat.zero_add];simp only[List.getElem?_toArray];rw[List.getElem?_append_left (List.getElem?_eq_some_iff.1 hj).1];exact hj
   ·refine bF (fun k hk _=>⟨⟨hk.1,fun r' hr'=>?_⟩,rfl⟩) hcs (by rw[dN];intro r' hr';cases hr');by_cases e':r'=r
    ·subst e';rw[aq];exact fun h=>h
    ·rw[aB _ _ e'];exact hk.2 r' (hliv r' e' hr')
 have hS:=hG.tell (y:=.box tb (l.set off (an e xs))) hr0 ⟨eF,cs,hb,h1,rj hc hv hslc⟩ (fun r' hr'=>by
  rcases rG (show r'∈bD (l.set off (an e xs))from hr')with h|h
  ·exact hG.hn r0 _ hr0 r' h
  ·cases h)
 refine h a w (Sat.ext (T:=aM T) (H:=bf (af ((r,Hp.dead)::H)) [(r0,.box tb (l.set off (an e xs)))]) ⟨_,_,hS⟩ (fun _=>rfl) (fun r'=>?_));rw[bq];rfl
theorem cd.tD{α:Type}{T0:Nat->Option D}{H0:Nat->Option Hp}{a:Act}{w:World}{ε:Env}{φ:Nat->ck}{e:ak α}{te:TypeId}{xs:List α}{r:Nat}(hs:cd c T0 H0 a w ε φ)(hh:H0 r=some (aR e te xs))(hm0:0<e.n):
  cd c T0 (db H0 r (some .dead)) a w ε (db φ r noBlocks)/\(an e xs).p ε w (Am.al c (db H0 r (some .dead)) (db φ r noBlocks)) (ε r):=by
 have hl2:∀r',db H0 r (some .dead) r'≠none↔H0 r'≠none:=by
  intro r';by_cases e':r'=r
  ·subst e';simp[aq,hh]
  ·rw[aB _ _ e']
 have hreg:∀k,Am.al c H0 φ k->k<w.heap.size->Am.al c (db H0 r (some .dead)) (db φ r noBlocks) k/\w.heap[k]?=w.heap[k]?:=by
  intro k hk _;refine⟨⟨hk.1,fun r' hr'=>?_⟩,rfl⟩;by_cases e':r'=r
  ·subst e';rw[aq];exact fun h=>h
  ·rw[aB _ _ e'];exact hk.2 r' ((hl2 r').1 hr')
 refine⟨?_,?_⟩
 ·constructor
  ·exact fun t d ht=>d.mono (hs.t t d ht) (fun _ _=>rfl) hreg
  ·exact fun t d ht r' hr'=>(hl2 r').2 (hs.tn t d ht r' hr')
  ·intro r' y hy;by_cases e':r'=r
   ·subst e';rw[aq]at hy;injection hy with hy;subst hy;rw[aq];rfl
   ·rw[aB _ _ e']at hy;rw[aB _ _ e'];exact y.mono (hs.h r' y hy) (fun _ _=>rfl) hreg (fun _ _=>rfl)
  ·intro r' y hy r2 h2;by_cases e':r'=r
   ·subst e';rw[aq]at hy;injection hy with hy;subst hy;cases h2
   ·rw[aB _ _ e']at hy;exact(hl2 r2).2 (hs.hn r' y hy r2 h2)
  ·intro r' hr' k hk;by_cases e':r'=r
   ·subst e';rw[aq]at hk;exact hk.elim
   ·rw[aB _ _ e']at hk;exact hs.lo r' ((hl2 r').1 hr') k hk
  ·intro ra rb ha hb hne k hk;by_cases ea:ra=r
   ·subst ea;rw[aq]at hk;exact hk.elim
   ·by_cases eb:rb=r
    ·subst eb;rw[aq];exact fun h=>h
    ·rw[aB _ _ ea]at hk;rw[aB _ _ eb];exact hs.dj ra rb ((hl2 ra).1 ha) ((hl2 rb).1 hb) hne k hk
  ·exact hs.pP
  ·exact hs.bs
  ·exact hs.sz
  ·exact hs.df
 ·rcases hs.h r _ hh with⟨e0,eb,_⟩|⟨g,n',cap,cs,rest,eb,eF',hg,h1',hcap,_,hln,hcs⟩
  ·have h0:=bp e xs;rw[e0]at h0;have:xs.length=0:=by rcases Nat.mul_eq_zero.1 h0.symm with h|h<;>omega
   exact⟨none,0,by rw[eb,this],by omega,bp e xs,.inl this⟩
  ·have hn':n'=xs.length:=Nat.eq_of_mul_eq_mul_right hm0 (hln.symm.trans (bp e xs));subst hn';have hlo:=hs.lo r (by simp[hh]) g (by rw[eF'];rfl);have hSg:Am.al c (db H0 r (some .dead)) (db φ r noBlocks) g:=by
    refine⟨.inr hlo.1,fun r' hr'=>?_⟩;by_cases e':r'=r
    ·subst e';rw[aq];exact fun h=>h
    ·rw[aB _ _ e'];exact hs.dj r r' (by simp[hh]) ((hl2 r').1 hr') (Ne.symm e') g (by rw[eF'];rfl)
   refine⟨some ⟨g,0,none⟩,cap,eb,?_,bp e xs,.inr ⟨g,0,rfl,hSg,(cs++rest).toArray,te,(0,0),cs,hg,fun j u hj=>?_,h1',?_⟩⟩
   ·have hle:xs.length*e.n<=cap*e.n:=by rw[←hcap,List.length_append,aL hcs,bp];omega
    exact Nat.le_of_mul_le_mul_right hle hm0
   ·rw[Nat.zero_add];simp only[List.getElem?_toArray];rw[List.getElem?_append_left (List.getElem?_eq_some_iff.1 hj).1];exact hj
   ·refine bF (fun k hk _=>⟨⟨hk.1,fun r' hr'=>?_⟩,rfl⟩) hcs (by rw[dN];intro r' hr';cases hr');by_cases e':r'=r
    ·subst e';rw[aq];exact fun h=>h
    ·rw[aB _ _ e'];exact hk.2 r' ((hl2 r').1 hr')
theorem ai.gv{α:Type}{o:Oper}{sp:Spec}{r t:Nat}{e:ak α}{te:TypeId}{xs:List α}{T1:List (Nat×D)}{H1:List (Nat×Hp)}(h:ai P ops c [o] T H [sp] T1 H1)(hd:o.dst=some t)(ho:sp.out=.own r)(hh:af sp.cZ r=some (aR e te xs))(hm:Nat.blt 0 e.n=true)
  (hr:ai P ops c os ((t,an e xs)::T) ((r,.dead)::sp.cZ++H) sps T' H'):
  ai P ops c (o::os) T H ({sp with out:=an e xs,cZ:=(r,.dead)::sp.cZ}::sps) T' H':=by
 cases h with
 |cons hst hi hhi hn _=>
  refine .cons (sp:={sp with out:=an e xs,cZ:=(r,.dead)::sp.cZ}) ?_ hi hhi hn (by rw[hd];exact hr);intro hdst T0 H0 hi0 hh0 hn0 a w hsat Q K hK;refine hst hdst T0 H0 hi0 hh0 hn0 a w hsat Q K (fun a' w' hs'=>hK a' w' ?_);obtain⟨ε,φ,hs'⟩:=hs';have hu:bf H0 sp.cZ r=some (aR e te xs):=by simp only[bf,hh]
  obtain⟨hG,hp⟩:=hs'.tD hu (by simpa using hm);have eH:db (bf H0 sp.cZ) r (some .dead)=bf H0 ((r,.dead)::sp.cZ):=by
   funext r'
   simp only[db,bf,af];by_cases e':r'=r
   ·subst e';simp
   ·have:Nat.beq r' r=false:=by
     cases hb:Nat.beq r' r with
     |false=>rfl
     |true=>exact absurd (Nat.eq_of_beq_eq_true hb) e'
    simp[e',this]
  rw[eH]at hG hp;have hv:a'.tmps.getD t undef=ε r:=by
   have:=hs'.t t (.own r) (by simp only[fY,hd,if_true,ho]);exact this.1
  refine⟨ε,_,{hG with t:=?_,tn:=?_}⟩
  ·intro t' d hd';simp only[fY,hd]at hd';by_cases e':t'=t
   ·rw[if_pos e']at hd';injection hd' with hd';subst hd';rw[e',hv];exact hp
   ·rw[if_neg e']at hd';exact hG.t t' d (by simp only[fY,hd];rw[if_neg e'];exact hd')
  ·intro t' d hd' r' hr';simp only[fY,hd]at hd';by_cases e':t'=t
   ·rw[if_pos e']at hd';injection hd' with hd';subst hd';cases hr'
   ·rw[if_neg e']at hd';exact hG.tn t' d (by simp only[fY,hd];rw[if_neg e'];exact hd') r' hr'
theorem aZ{id:Nat}{Q:Exit->Act->World->Prop}{a:Act}{w:World}(h:Q .normal a w):Exit.inBlock id Q (.exit id) a w:=by simp only[Exit.inBlock,if_true];exact h
def I1(P:Program)(s:TypeId)(k:Nat):Option TypeId:=
 match P.underlying s with
 |some (.struct fs)=>(fs[k]?).map (·.type)
 |_=>none
theorem CV{s k t:Nat}(h:I1 P s k=some t):∀fs f,P.underlying s=some (.struct fs)->fs[k]?=some f->f.type=t:=by
 intro fs f hu hf;simp only[I1,hu,hf,Option.map_some,Option.some.injEq]at h;exact h
theorem ai.Jw{s k o t:Nat}{x:Operand}{l:List D}{d:D}(hx:ev T x=some (.agg l))(hf:wa P s k=some o)(ht:I1 P s k=some t)(hl:lay P t=some none)(hd:l[o]?=some d)
  (hr:ai P ops c os (bg T dst d) H sps T' H'):
  ai P ops c (⟨dst,.field s x k,ty,pos,aft,none⟩::os) T H (ps [(x,.agg l)] d::sps) T' H':=
 .JW hx hf (fun fs f hu hfk=>by rw[CV ht fs f hu hfk];exact hl) hd hr
def uv(ρ:Nat->Nat):List D->List D->Prop
 |[],[]=>True
 |d::l,d'::l'=>wx ρ d d'/\uv ρ l l'
 |_,_=>False
theorem uv.all{ρ:Nat->Nat}{ε:Env}{w:World}{S:ck}:∀{l l':List D} {vs:List Value},uv ρ l l'->bN ε w S l vs->bN (fun r=>ε (ρ r)) w S l' vs
 |[],[],[],_,_=>trivial
 |[],[],_::_,_,h=>h.elim
 |_::_,_::_,[],_,h=>h.elim
 |_::_,_::_,_::_,h,ha=>⟨h.1.1 _ _ _ _ ha.1,uv.all h.2 ha.2⟩
 |[],_::_,_,h,_=>h.elim
 |_::_,[],_,h,_=>h.elim
theorem uv.bD{ρ:Nat->Nat}:∀{l l':List D},uv ρ l l'->∀r∈bD l',ρ r∈Am.bD l
 |[],[],_,r,h=>by cases h
 |d::l,d'::l',h,r,hr=>by
  simp only[Am.bD,List.mem_append]at hr|-;exact hr.imp (h.1.2 r) (uv.bD h.2 r)
 |[],_::_,h,_,_=>h.elim
 |_::_,[],h,_,_=>h.elim
theorem wX.box{ρ:Nat->Nat}{ty:TypeId}{l l':List D}(h:uv ρ l l'):wX ρ (.box ty l) (.box ty l'):=⟨fun _ _ _ _ _ ⟨e,cs,hb,h1,ha⟩=>⟨e,cs,hb,h1,h.all ha⟩,fun r hr=>h.bD r hr⟩
theorem wx.wR{ρ:Nat->Nat}{r:Nat}{b:Value}:wx ρ (.pinned (ρ r) b) (.pinned r b):=⟨fun _ _ _ _ h=>h,fun r' hr'=>by simp[D.pinned]at hr'|-;rw[hr']⟩
end
end Go.Am
