/- Part 1 of 5 of what the laws of layer 1 share: contracts of functions of the program, each for every argument of its description; no condition beyond it. -/
import Derived.WalkKit
import Derived.Orders
import Derived.KernelRfl
import Derived.Laws.Rows
import Derived.Laws.Tables
import Derived.Deep.AppendSrc
import Derived.Laws.CopyRow
import Derived.Laws.IdiomCopy
import Derived.Test.YtgnepgenefcnpaaGreatDoorProg
import Derived.Laws.BytesString
set_option linter.unusedVariables false
set_option linter.unusedSimpArgs false
namespace Go.Am
open Go.RowKit
abbrev Env:=Nat->Value
abbrev cl:=Nat->Prop
def iv:Value->Nat
 |.pointer (some a)=>a.block
 |.slice (some a) _ _=>a.block
 |_=>0
inductive Shape where
 |Bf|one|agg (n:Nat)
def Shape.ok:Shape->Value->Prop
 |.Bf,_=>True
 |.one,v=>v.oneCell'=true
 |.agg n,v=>∃cs:Array Value,v=.agg cs/\cs.size=n
structure D where
 p:Env->World->cl->Value->Prop
 nm:List Nat
 sh:Shape
 mono:∀{ε ε':Env} {w w':World} {S S':cl} {v:Value},p ε w S v->(∀r∈nm,ε' r=ε r)->(∀k,S k->k<w.heap.size->S' k/\w'.heap[k]?=w.heap[k]?)->p ε' w' S' v
 iD:∀{ε:Env} {w:World} {S:cl} {v:Value},p ε w S v->sh.ok v
structure Hp where
 p:Env->World->cl->Value->cl->Prop
 nm:List Nat
 mono:∀{ε ε':Env} {w w':World} {S S':cl} {b:Value} {F:cl},p ε w S b F->(∀r∈nm,ε' r=ε r)->(∀k,S k->k<w.heap.size->S' k/\w'.heap[k]?=w.heap[k]?)->(∀k,F k->w'.heap[k]?=w.heap[k]?)->p ε' w' S' b F
structure lj(B:Nat)(L:cl)(w w':World):Prop where
 os:w'.os=w.os
 tape:w'.tape=w.tape
 output:w'.output=w.output
 size:w.heap.size<=w'.heap.size
 block:∀k,k<B->¬L k->w'.heap[k]?=w.heap[k]?
theorem lj.trans{B:Nat}{L:cl}{a b c:World}(h:lj B L a b)(k:lj B L b c):lj B L a c:=
 ⟨k.os.trans h.os,k.tape.trans h.tape,k.output.trans h.output,Nat.le_trans h.size k.size,fun i hi hl=>(k.block i hi hl).trans (h.block i hi hl)⟩
theorem lj.of{B:Nat}{L:cl}{a b:World}(h:Below B a b):lj B L a b:=⟨h.os,h.tape,h.output,h.size,fun k hk _=>h.block k hk⟩
structure Ctx where
 A:cl
 base:Nat
 w0:World
 n:Nat
 L:cl
def ak(c:Ctx)(H:Nat->Option Hp)(φ:Nat->cl):cl:=fun k=>(c.A k\/c.base<=k\/c.L k)/\∀r,H r≠none->¬φ r k
structure cf(c:Ctx)(T:Nat->Option D)(H:Nat->Option Hp)(a:Act)(w:World)(ε:Env)(φ:Nat->cl):Prop where
 t:∀t d,T t=some d->d.p ε w (ak c H φ) (a.tmps.getD t undef)
 tn:∀t d,T t=some d->∀r∈d.nm,H r≠none
 h:∀r h,H r=some h->h.p ε w (ak c H φ) (ε r) (φ r)
 hn:∀r h,H r=some h->∀r'∈h.nm,H r'≠none
 lo:∀r,H r≠none->∀k,φ r k->(c.base<=k\/c.L k)/\k<w.heap.size
 dj:∀r r',H r≠none->H r'≠none->r≠r'->∀k,φ r k->¬φ r' k
 oL:lj c.base c.L c.w0 w
 bs:c.base=c.w0.heap.size
 sz:a.tmps.size=c.n
 df:a.defers=[]
def Sat(c:Ctx)(T:Nat->Option D)(H:Nat->Option Hp)(a:Act)(w:World):Prop:=∃ε φ,cf c T H a w ε φ
theorem Sat.ext{c:Ctx}{T T':Nat->Option D}{H H':Nat->Option Hp}{a:Act}{w:World}(h:Sat c T H a w)(hT:∀t,T' t=T t)(hH:∀r,H' r=H r):Sat c T' H' a w:=by
 have e1:T'=T:=funext hT;have e2:H'=H:=funext hH;subst e1;subst e2;exact h
theorem cf.grow{c:Ctx}{T:Nat->Option D}{H:Nat->Option Hp}{a:Act}{w w':World}{ε:Env}{φ:Nat->cl}(h:cf c T H a w ε φ)(hb:Below w.heap.size w w'):cf c T H a w' ε φ where
 t:=fun t d ht=>d.mono (h.t t d ht) (fun _ _=>rfl) (fun k hk hlt=>⟨hk,hb.block k hlt⟩)
 tn:=h.tn
 h:=fun r x hr=>x.mono (h.h r x hr) (fun _ _=>rfl) (fun k hk hlt=>⟨hk,hb.block k hlt⟩) (fun k hk=>hb.block k (h.lo r (by simp[hr]) k hk).2)
 hn:=h.hn
 lo:=fun r hr k hk=>⟨(h.lo r hr k hk).1,Nat.lt_of_lt_of_le (h.lo r hr k hk).2 hb.size⟩
 dj:=h.dj
 oL:=h.oL.trans (.of (hb.mono (by rw[h.bs];exact h.oL.size)))
 bs:=h.bs
 sz:=h.sz
 df:=h.df
def fR(T:Nat->Option D)(dst:Option Nat)(d:D):Nat->Option D:=
 match dst with
 |none=>T
 |some t=>fun t'=>if t'=t then some d else T t'
theorem cf.fp{c:Ctx}{T:Nat->Option D}{H:Nat->Option Hp}{a:Act}{w:World}{ε:Env}{φ:Nat->cl}(h:cf c T H a w ε φ):c.base<=w.heap.size:=by
 rw[h.bs];exact h.oL.size
theorem cf.put{c:Ctx}{T:Nat->Option D}{H:Nat->Option Hp}{a:Act}{w:World}{ε:Env}{φ:Nat->cl}(h:cf c T H a w ε φ){dst:Option Nat}{v:Value}{d:D}
  (hd:∀t,dst=some t->t<c.n)(hv:d.p ε w (ak c H φ) v)(hn:∀r∈d.nm,H r≠none):cf c (fR T dst d) H (a.put dst v) w ε φ:=by
 cases dst with
 |none=>exact h
 |some t0=>
  refine{h with t:=?_,tn:=?_,sz:=by simpa [Act.put]using h.sz,df:=h.df}
  ·intro t d' ht;simp only[fR]at ht
   split at ht
   ·rename_i e;subst e;injection ht with ht;subst ht;have:t<a.tmps.size:=by rw[h.sz];exact hd t rfl
    simpa [Act.put,this]using hv
   ·rename_i e;have:=h.t t d' ht;simpa [Act.put,Array.getElem?_setIfInBounds_ne (Ne.symm e)]using this
  ·intro t d' ht;simp only[fR]at ht
   split at ht
   ·injection ht with ht;subst ht;exact hn
   ·exact h.tn t d' ht
def aO:List (Nat×D)->Nat->Option D
 |[],_=>none
 |(t',d)::T,t=>match Nat.beq t t' with|true=>some d|false=>aO T t
def ai:List (Nat×Hp)->Nat->Option Hp
 |[],_=>none
 |(t',d)::T,t=>match Nat.beq t t' with|true=>some d|false=>ai T t
def bf(T:List (Nat×D)):Option Nat->D->List (Nat×D)
 |none,_=>T
 |some t,d=>(t,d)::T
theorem fX(T:List (Nat×D))(dst:Option Nat)(d:D):fR (aO T) dst d=aO (bf T dst d):=by
 funext t
 cases dst with
 |none=>rfl
 |some t0=>
  simp only[fR,bf,aO];by_cases e:t=t0
  ·subst e;simp
  ·have:Nat.beq t t0=false:=by
    cases hb:Nat.beq t t0 with
    |false=>rfl
    |true=>exact absurd (Nat.eq_of_beq_eq_true hb) e
   simp[e,this]
def bp(H:Nat->Option Hp)(l:List (Nat×Hp)):Nat->Option Hp:=fun r=>match ai l r with|some h=>some h|none=>H r
theorem bu(l H:List (Nat×Hp)):bp (ai H) l=ai (l++H):=by
 funext r
 induction l with
 |nil=>rfl
 |cons x l ih=>
  obtain⟨r0,h⟩:=x;simp only[bp,ai,List.cons_append]at ih|-
  cases Nat.beq r r0 with
  |true=>rfl
  |false=>exact ih
theorem sS(H:Nat->Option Hp):bp H []=H:=rfl
structure Spec where
 ins:List (Nat×D)
 cO:List (Nat×Hp)
 out:D
 c_:List (Nat×Hp)
 news:List Nat
def eV(T:Nat->Option D):List (Nat×D)->Prop
 |[]=>True
 |(t,d)::l=>T t=some d/\eV T l
def nC(H:Nat->Option Hp):List (Nat×Hp)->Prop
 |[]=>True
 |(t,d)::l=>H t=some d/\nC H l
def jQ(H:Nat->Option Hp):List Nat->Prop
 |[]=>True
 |r::l=>H r=none/\jQ H l
def p0(n:Nat)(o:Oper):Bool:=match o.dst with|none=>true|some t=>Nat.blt t n
def m7(P:Program)(ops:Array Oper)(c:Ctx)(o:Oper)(sp:Spec):Prop:=
 p0 c.n o=true->∀T H,eV T sp.ins->nC H sp.cO->jQ H sp.news->∀a w,Sat c T H a w->∀(Q:Exit->Act->World->Prop) (K:Act->World->Prop),
  (∀a' w',Sat c (fR T o.dst sp.out) (bp H sp.c_) a' w'->K a' w')->
  (if Region.wanted o (yielded ops a.tmps)then o.wp P a w K Q else K (a.put o.dst undef) w)
inductive aj(P:Program)(ops:Array Oper)(c:Ctx):List Oper->List (Nat×D)->List (Nat×Hp)->List Spec->List (Nat×D)->List (Nat×Hp)->Prop where
 |nil {T H}:aj P ops c [] T H [] T H
 |cons {o os T H sp sps T' H'} (hs:m7 P ops c o sp) (hi:eV (aO T) sp.ins) (hh:nC (ai H) sp.cO) (hn:jQ (ai H) sp.news)
   (hr:aj P ops c os (bf T o.dst sp.out) (sp.c_++H) sps T' H'):aj P ops c (o::os) T H (sp::sps) T' H'
def dZ(n:Nat):List Oper->Bool
 |[]=>true
 |o::l=>match p0 n o with|true=>dZ n l|false=>false
theorem k_{n:Nat}{o:Oper}{l:List Oper}(h:dZ n (o::l)=true):p0 n o=true/\dZ n l=true:=by
 simp only[dZ]at h
 split at h
 ·rename_i e;exact⟨e,h⟩
 ·cases h
theorem aj.wp{P:Program}{ops:Array Oper}{c:Ctx}{l:List Oper}{T:List (Nat×D)}{H:List (Nat×Hp)}{sps:List Spec}{T':List (Nat×D)}{H':List (Nat×Hp)}
  (h:aj P ops c l T H sps T' H')(hd:dZ c.n l=true){Q:Exit->Act->World->Prop}(hQ:∀a w,Sat c (aO T') (ai H') a w->Q .normal a w):
  ∀a w,Sat c (aO T) (ai H) a w->wpList P ops Q l a w:=by
 induction h with
 |nil=>exact fun a w hs=>hQ a w hs
 |@cons o os T H sp sps T' H' hs hi hh hn _ ih=>
  intro a w hsat;obtain⟨h1,h2⟩:=k_ hd;have:=hs h1 (aO T) (ai H) hi hh hn a w hsat Q (wpList P ops Q os) (fun a' w' hs'=>ih h2 hQ a' w' (by rw[fX,bu]at hs';exact hs'));unfold wpList
  split
  ·rename_i hw;rw[if_pos hw]at this;exact .inl this
  ·rename_i hw;rw[if_neg hw]at this;exact this
def Ok(P:Program)(c:Ctx)(T:List (Nat×D))(H:List (Nat×Hp))(x:Code)(Q:Exit->Act->World->Prop):Prop:=
 ∀a w,Sat c (aO T) (ai H) a w->x.wp P Q a w
section
variable {P:Program} {c:Ctx} {T T':List (Nat×D)} {H H':List (Nat×Hp)} {Q:Exit->Act->World->Prop} {x y:Code} {id:Nat} {sps:List Spec}
theorem Ok.region{l:List Oper}(h:aj P l.toArray c l T H sps T' H')(hd:dZ c.n l=true)(hQ:∀a w,Sat c (aO T') (ai H') a w->Q .normal a w):Ok P c T H (.region id l.toArray false) Q:=
 fun a w hs=>wp_region_lit (h.wp hd hQ a w hs)
theorem Ok.ak{l:List Oper}(h:aj P l.toArray c l T H sps T' H')(hd:dZ c.n l=true)(hy:Ok P c T' H' y Q):Ok P c T H (.seq (.region id l.toArray false) y) Q:=
 fun a w hs=>wp_seq (Ok.region h hd (fun a' w' hs'=>hy a' w' hs') a w hs)
theorem Ok.seq{K:Act->World->Prop}(h:Ok P c T H x (Exit.then K Q))(hy:∀a w,K a w->y.wp P Q a w):Ok P c T H (.seq x y) Q:=
 fun a w hs=>wp_seq (wp_mono (h a w hs) (fun e a' w' q=>by cases e<;>first|exact q|exact hy _ _ q))
end
def bX(ε:Env)(w:World)(S:cl):List D->List Value->Prop
 |[],[]=>True
 |d::l,v::vs=>d.p ε w S v/\bX ε w S l vs
 |_,_=>False
def bF:List D->List Nat
 |[]=>[]
 |d::l=>d.nm++bF l
theorem aS{ε:Env}{w:World}{S:cl}:∀{l:List D} {vs:List Value},bX ε w S l vs->vs.length=l.length
 |[],[],_=>rfl
 |_::_,_::_,h=>by simp[aS h.2]
 |[],_::_,h=>h.elim
 |_::_,[],h=>h.elim
theorem bN{ε ε':Env}{w w':World}{S S':cl}(hS:∀k,S k->k<w.heap.size->S' k/\w'.heap[k]?=w.heap[k]?):∀{l:List D} {vs:List Value},bX ε w S l vs->(∀r∈bF l,ε' r=ε r)->bX ε' w' S' l vs
 |[],[],_,_=>trivial
 |d::l,_::_,h,he=>⟨d.mono h.1 (fun r hr=>he r (by simp[bF,hr])) hS,bN hS h.2 (fun r hr=>he r (by simp[bF,hr]))⟩
 |[],_::_,h,_=>h.elim
 |_::_,[],h,_=>h.elim
theorem gF{ε:Env}{w:World}{S:cl}:∀{l:List D} {vs:List Value} {i:Nat} {d:D},bX ε w S l vs->l[i]?=some d->∃v,vs[i]?=some v/\d.p ε w S v
 |d::l,v::vs,0,d',h,hi=>by simp at hi;subst hi;exact⟨v,rfl,h.1⟩
 |d::l,v::vs,i+1,d',h,hi=>by simpa using gF (i:=i) h.2 (by simpa using hi)
 |[],_::_,_,_,h,_=>h.elim
 |_::_,[],_,_,h,_=>h.elim
 |[],[],_,_,_,hi=>by simp at hi
theorem dA{ε:Env}{w:World}{S:cl}:∀{l:List D} {vs:List Value} (n:Nat),bX ε w S l vs->bX ε w S (l.take n) (vs.take n)
 |[],[],n,_=>by simp[bX]
 |d::l,v::vs,0,_=>by simp[bX]
 |d::l,v::vs,n+1,h=>⟨h.1,dA n h.2⟩
 |[],_::_,_,h=>h.elim
 |_::_,[],_,h=>h.elim
theorem dK{ε:Env}{w:World}{S:cl}:∀{l:List D} {vs:List Value} (n:Nat),bX ε w S l vs->bX ε w S (l.drop n) (vs.drop n)
 |[],[],n,_=>by simp[bX]
 |d::l,v::vs,0,h=>h
 |d::l,v::vs,n+1,h=>dK n h.2
 |[],_::_,_,h=>h.elim
 |_::_,[],_,h=>h.elim
theorem bS{ε:Env}{w:World}{S:cl}:∀{l m:List D} {vs us:List Value},bX ε w S l vs->bX ε w S m us->bX ε w S (l++m) (vs++us)
 |[],_,[],_,_,h=>h
 |_::_,_,_::_,_,h,h'=>⟨h.1,bS h.2 h'⟩
 |[],_,_::_,_,h,_=>h.elim
 |_::_,_,[],_,h,_=>h.elim
theorem pZ{ε:Env}{w:World}{S:cl}{d:D}{v:Value}(hd:d.p ε w S v):∀{l:List D} {vs:List Value} (i:Nat),bX ε w S l vs->bX ε w S (l.set i d) (vs.set i v)
 |[],[],_,_=>trivial
 |_::_,_::_,0,h=>⟨hd,h.2⟩
 |_::_,_::_,i+1,h=>⟨h.1,pZ hd i h.2⟩
 |[],_::_,_,h=>h.elim
 |_::_,[],_,h=>h.elim
theorem bM{r:Nat}:∀{l:List D},r∈bF l↔∃d∈l,r∈d.nm
 |[]=>by simp[bF]
 |d::l=>by simp[bF,bM (l:=l)]
namespace D
def any:D:={p:=fun _ _ _ _=>True,nm:=[],sh:=.Bf,mono:=fun _ _ _=>trivial,iD:=fun _=>trivial}
def int(k:IntKind)(n:Int):D:={p:=fun _ _ _ v=>v=.int k n,nm:=[],sh:=.one,mono:=fun h _ _=>h,iD:=fun e=>by subst e;rfl}
def bool(b:Bool):D:={p:=fun _ _ _ v=>v=.bool b,nm:=[],sh:=.one,mono:=fun h _ _=>h,iD:=fun e=>by subst e;rfl}
def str(s:ByteArray):D:={p:=fun _ _ _ v=>v=.string s,nm:=[],sh:=.one,mono:=fun h _ _=>h,iD:=fun e=>by subst e;rfl}
def nil:D:={p:=fun _ _ _ v=>v=.slice none 0 0,nm:=[],sh:=.one,mono:=fun h _ _=>h,iD:=fun e=>by subst e;rfl}
def lit(u:Value):D:={p:=fun _ _ _ v=>v=u,nm:=[],sh:=.Bf,mono:=fun h _ _=>h,iD:=fun _=>trivial}
def agg(l:List D):D where
 p:=fun ε w S v=>∃cs:List Value,v=.agg cs.toArray/\(∀u∈cs,u.oneCell'=true)/\bX ε w S l cs
 nm:=bF l
 sh:=.agg l.length
 mono:=fun⟨cs,e,h1,h⟩ he hS=>⟨cs,e,h1,bN hS h he⟩
 iD:=fun⟨cs,e,_,h⟩=>⟨cs.toArray,e,by simpa using aS h⟩
def fA(l:List D):D where
 p:=fun ε w S v=>∃cs:List Value,v=.tuple cs.toArray/\bX ε w S l cs
 nm:=bF l
 sh:=.Bf
 mono:=fun⟨cs,e,h⟩ he hS=>⟨cs,e,bN hS h he⟩
 iD:=fun _=>trivial
def ref(r off:Nat):D where
 p:=fun ε _ _ v=>v=.pointer (some ⟨iv (ε r),off,none⟩)
 nm:=[r]
 sh:=.one
 mono:=fun h he _=>by rw[he _ (by simp)];exact h
 iD:=fun e=>by subst e;rfl
def own(r:Nat):D where
 p:=fun ε _ _ v=>v=ε r/\v.oneCell'=true
 nm:=[r]
 sh:=.one
 mono:=fun h he _=>by rw[he _ (by simp)];exact h
 iD:=fun h=>h.2
def Ci:Value->Nat
 |.slice _ _ c=>c
 |_=>0
def cut(r n:Nat):D where
 p:=fun ε _ _ v=>∃cap,v=.slice (some ⟨iv (ε r),0,none⟩) n cap/\n<=cap/\cap=Ci (ε r)
 nm:=[r]
 sh:=.one
 mono:=fun h he _=>by rw[he _ (by simp)];exact h
 iD:=fun⟨_,e,_⟩=>by subst e;rfl
end D
def wZ:Value->D
 |.int k n=>.int k n
 |.bool b=>.bool b
 |.string s=>.str s
 |.slice none 0 0=>.nil
 |v=>.lit v
def ev(T:List (Nat×D)):Operand->Option D
 |.tmp t=>aO T t
 |.const v=>some (wZ v)
 |.func f=>some (.lit (.func (.func f) #[] #[]))
 |.global g=>some (.lit (.pointer (some ⟨g,0,none⟩)))
theorem z7(ε:Env)(w:World)(S:cl)(v:Value):(wZ v).p ε w S v:=by
 unfold wZ
 split<;>rfl
theorem w9(v:Value):(wZ v).nm=[]:=by
 unfold wZ
 split<;>rfl
def dM:Operand->D->List (Nat×D)
 |.tmp t,d=>[(t,d)]
 |_,_=>[]
def Bk:Operand->D->Prop
 |.tmp _,_=>True
 |.const v,d=>d=wZ v
 |.func f,d=>d=.lit (.func (.func f) #[] #[])
 |.global g,d=>d=.lit (.pointer (some ⟨g,0,none⟩))
theorem aA{T:List (Nat×D)}{x:Operand}{d:D}(h:ev T x=some d):eV (aO T) (dM x d)/\Bk x d:=by
 cases x<;>simp[ev]at h
 ·exact⟨⟨h,trivial⟩,trivial⟩
 ·exact⟨trivial,h.symm⟩
 ·exact⟨trivial,h.symm⟩
 ·exact⟨trivial,h.symm⟩
theorem aV{T:Nat->Option D}:∀{l m:List (Nat×D)},eV T (l++m)↔eV T l/\eV T m
 |[],m=>by simp[eV]
 |(t,d)::l,m=>by simp[eV,aV (l:=l),and_assoc]
theorem cf.ev{c:Ctx}{T:Nat->Option D}{H:Nat->Option Hp}{a:Act}{w:World}{ε:Env}{φ:Nat->cl}(h:cf c T H a w ε φ){x:Operand}{d:D}
  (hi:eV T (dM x d))(hc:Bk x d):d.p ε w (ak c H φ) (a.eval x)/\∀r∈d.nm,H r≠none:=by
 cases x with
 |tmp t=>exact⟨h.t t d hi.1,h.tn t d hi.1⟩
 |const v=>simp only[Bk]at hc;subst hc;exact⟨z7 _ _ _ _,by simp[w9]⟩
 |func f=>simp only[Bk]at hc;subst hc;exact⟨rfl,by simp[D.lit]⟩
 |global g=>simp only[Bk]at hc;subst hc;exact⟨rfl,by simp[D.lit]⟩
theorem cz{T:Nat->Option D}:∀{xs:List (Operand×D)},eV T (xs.flatMap fun x=>dM x.1 x.2)->∀x∈xs,eV T (dM x.1 x.2)
 |[],_,x,h=>by cases h
 |y::ys,hi,x,h=>by
  simp only[List.flatMap_cons,aV]at hi;rcases List.mem_cons.1 h with rfl|h
  ·exact hi.1
  ·exact cz hi.2 x h
theorem dQ{T:List (Nat×D)}:∀{xs:List (Operand×D)},(∀x∈xs,ev T x.1=some x.2)->eV (aO T) (xs.flatMap fun x=>dM x.1 x.2)
 |[],_=>trivial
 |y::ys,h=>by
  simp only[List.flatMap_cons,aV];exact⟨(aA (h y (by simp))).1,dQ (fun x hx=>h x (by simp[hx]))⟩
theorem cG{n:Nat}{o:Oper}(hd:p0 n o=true):∀t,o.dst=some t->t<n:=by
 intro t ht;simp only[p0,ht,Nat.blt_eq]at hd;exact hd
theorem a_{o:Oper}(hg:o.guard=none)(y:Nat->Option Bool):Region.wanted o y=true:=by simp[Region.wanted,hg]
section
variable {P:Program} {ops os:List Oper} {c:Ctx} {T T':List (Nat×D)} {H H':List (Nat×Hp)} {sps:List Spec} {o:Oper}
theorem m7.pure{ops:Array Oper}{xs:List (Operand×D)}{d:D}(hg:o.guard=none)(hc:∀x∈xs,Bk x.1 x.2)
  (hnm:∀r∈d.nm,∃x∈xs,r∈x.2.nm)
  (hrun:∀(ε:Env) (w:World) (S:cl) (a:Act),(∀x∈xs,x.2.p ε w S (a.eval x.1))->∃v,(execOp a.eval o).run P w=.ok (.value v) w/\d.p ε w S v):
  m7 P ops c o {ins:=xs.flatMap fun x=>dM x.1 x.2,cO:=[],out:=d,c_:=[],news:=[]}:=by
 intro hd T H hi _ _ a w ⟨ε,φ,hs⟩ Q K hK;rw[if_pos (a_ hg _)];have hx:∀x∈xs,eV T (dM x.1 x.2):=cz hi;obtain⟨v,hr,hv⟩:=hrun ε w (ak c H φ) a (fun x h=>(hs.ev (hx x h) (hc x h)).1);simp only[Oper.wp,hr,Oper.upon];refine hK _ _ ⟨ε,φ,?_⟩;rw[sS];refine hs.put ?_ hv ?_
 ·exact cG hd
 ·intro r hr;obtain⟨x,hxm,hrx⟩:=hnm r hr;exact(hs.ev (hx x hxm) (hc x hxm)).2 r hrx
def ps(xs:List (Operand×D))(d:D):Spec:={ins:=xs.flatMap fun x=>dM x.1 x.2,cO:=[],out:=d,c_:=[],news:=[]}
theorem aj.pure{ops:Array Oper}(xs:List (Operand×D)){d:D}(hg:o.guard=none)(he:∀x∈xs,ev T x.1=some x.2)
  (hnm:∀r∈d.nm,∃x∈xs,r∈x.2.nm)
  (hrun:∀(ε:Env) (w:World) (S:cl) (a:Act),(∀x∈xs,x.2.p ε w S (a.eval x.1))->∃v,(execOp a.eval o).run P w=.ok (.value v) w/\d.p ε w S v)
  (hr:aj P ops c os (bf T o.dst d) H sps T' H'):
  aj P ops c (o::os) T H (ps xs d::sps) T' H':=
 .cons (m7.pure hg (fun x hx=>(aA (he x hx)).2) hnm hrun) (dQ he) trivial trivial hr
variable {ops:Array Oper} {dst:Option Nat} {ty:TypeId} {pos:String} {aft:Array Edge}
theorem aj.mv{x:Operand}{d:D}(h:ev T x=some d)(hr:aj P ops c os (bf T dst d) H sps T' H'):
  aj P ops c (⟨dst,.move x,ty,pos,aft,none⟩::os) T H (ps [(x,d)] d::sps) T' H':=
 .pure [(x,d)] rfl (by simpa using h) (fun r hr=>⟨(x,d),by simp,hr⟩) (fun ε w S a hx=>⟨_,rfl,hx (x,d) (by simp)⟩) hr
theorem aj.av{x:Operand}{d:D}(h:ev T x=some d)(hr:aj P ops c os (bf T dst d) H sps T' H'):
  aj P ops c (⟨dst,.assign x,ty,pos,aft,none⟩::os) T H (ps [(x,d)] d::sps) T' H':=
 .pure [(x,d)] rfl (by simpa using h) (fun r hr=>⟨(x,d),by simp,hr⟩) (fun ε w S a hx=>⟨_,rfl,hx (x,d) (by simp)⟩) hr
theorem aj.ext{x:Operand}{i:Nat}{l:List D}{d:D}(h:ev T x=some (.fA l))(hi:l[i]?=some d)(hr:aj P ops c os (bf T dst d) H sps T' H'):
  aj P ops c (⟨dst,.extract x i,ty,pos,aft,none⟩::os) T H (ps [(x,.fA l)] d::sps) T' H':=
 .pure [(x,.fA l)] rfl (by simpa using h) (fun r hr=>⟨(x,.fA l),by simp,(bM (l:=l)).2 ⟨d,List.mem_of_getElem? hi,hr⟩⟩) (fun ε w S a hx=>by
  obtain⟨cs,e,hl⟩:=hx (x,.fA l) (by simp);obtain⟨v,hv,hp⟩:=gF hl hi;dsimp only at e;exact⟨v,by simp[execOp,e,Instr.extract,hv],hp⟩) hr
end
def only(b:Nat):cl:=fun k=>k=b
def Hp.box(ty:TypeId)(l:List D):Hp where
 p:=fun ε w S b F=>F=only (iv b)/\∃cs:List Value,w.heap[iv b]?=some (.cells cs.toArray ty (0,0))/\(∀u∈cs,u.oneCell'=true)/\bX ε w S l cs
 nm:=bF l
 mono:=fun⟨e,cs,hb,h1,h⟩ he hS hF=>⟨e,cs,(hF _ (by rw[e];rfl)).trans hb,h1,bN hS h he⟩
def cW{α:Type}(f:Nat->α)(r:Nat)(x:α):Nat->α:=fun k=>if k=r then x else f k
theorem aB{α:Type}(f:Nat->α)(r:Nat)(x:α):cW f r x r=x:=by simp[cW]
theorem aL{α:Type}(f:Nat->α){r k:Nat}(x:α)(h:k≠r):cW f r x k=f k:=by simp[cW,h]
theorem bG(H:Nat->Option Hp)(r:Nat)(h:Hp):bp H [(r,h)]=cW H r (some h):=by
 funext k
 simp only[bp,ai,cW];by_cases e:k=r
 ·subst e;simp
 ·have:Nat.beq k r=false:=by
   cases hb:Nat.beq k r with
   |false=>rfl
   |true=>exact absurd (Nat.eq_of_beq_eq_true hb) e
  simp[e,this]
section
variable {c:Ctx} {T:Nat->Option D} {H:Nat->Option Hp} {a:Act} {w w':World} {ε:Env} {φ:Nat->cl}
theorem cf.ky(h:cf c T H a w ε φ){r:Nat}{x:Hp}{b:Value}{F:cl}(hr:H r=none)(hb:Below w.heap.size w w')(hF:∀k,F k->w.heap.size<=k/\k<w'.heap.size)
  (hx:x.p (cW ε r b) w' (ak c (bp H [(r,x)]) (cW φ r F)) b F)(hn:∀r'∈x.nm,H r'≠none):cf c T (bp H [(r,x)]) a w' (cW ε r b) (cW φ r F):=by
 rw[bG]at hx|-;have live:∀r',H r'≠none->r'≠r:=fun r' h' e=>h' (e▸hr);have hreg:∀k,ak c H φ k->k<w.heap.size->ak c (cW H r (some x)) (cW φ r F) k/\w'.heap[k]?=w.heap[k]?:=by
  intro k hk hlt;refine⟨⟨hk.1,fun r' hr'=>?_⟩,hb.block k hlt⟩;by_cases e:r'=r
  ·subst e;rw[aB];intro hf;have:=(hF k hf).1;omega
  ·rw[aL _ _ e];exact hk.2 r' (by rwa [aL _ _ e]at hr')
 have up:∀r',H r'≠none->cW H r (some x) r'≠none:=fun r' h'=>by rw[aL _ _ (live r' h')];exact h'
 constructor
 ·exact fun t d ht=>d.mono (h.t t d ht) (fun r' hr'=>aL _ _ (live r' (h.tn t d ht r' hr'))) hreg
 ·exact fun t d ht r' hr'=>up r' (h.tn t d ht r' hr')
 ·intro r' y hy;by_cases e:r'=r
  ·subst e;rw[aB]at hy;injection hy with hy;subst hy;rw[aB,aB];exact hx
  ·rw[aL _ _ e]at hy;rw[aL _ _ e,aL _ _ e];exact y.mono (h.h r' y hy) (fun r2 h2=>aL _ _ (live r2 (h.hn r' y hy r2 h2))) hreg (fun k hk=>hb.block k (h.lo r' (by simp[hy]) k hk).2)
 ·intro r' y hy r2 h2;by_cases e:r'=r
  ·subst e;rw[aB]at hy;injection hy with hy;subst hy;exact up r2 (hn r2 h2)
  ·rw[aL _ _ e]at hy;exact up r2 (h.hn r' y hy r2 h2)
 ·intro r' hr' k hk;by_cases e:r'=r
  ·subst e;rw[aB]at hk;exact⟨.inl (Nat.le_trans h.fp (hF k hk).1),(hF k hk).2⟩
  ·rw[aL _ _ e]at hk hr';have:=h.lo r' hr' k hk;exact⟨this.1,Nat.lt_of_lt_of_le this.2 hb.size⟩
 ·intro r1 r2 h1 h2 hne k hk;by_cases e1:r1=r
  ·subst e1;rw[aB]at hk;have e2:r2≠r1:=Ne.symm hne;rw[aL _ _ e2]at h2|-;intro hk2;have:=(h.lo r2 h2 k hk2).2;have:=(hF k hk).1;omega
  ·rw[aL _ _ e1]at hk h1;by_cases e2:r2=r
   ·subst e2;rw[aB];intro hk2;have:=(h.lo r1 h1 k hk).2;have:=(hF k hk2).1;omega
   ·rw[aL _ _ e2]at h2|-;exact h.dj r1 r2 h1 h2 hne k hk
 ·exact h.oL.trans (.of (hb.mono (by rw[h.bs];exact h.oL.size)))
 ·exact h.bs
 ·exact h.sz
 ·exact h.df
theorem cf.pM(h:cf c T H a w ε φ){r:Nat}{x y:Hp}(hr:H r=some x)(hsz:w'.heap.size=w.heap.size)(ho:w'.os=w.os)(htp:w'.tape=w.tape)(hop:w'.output=w.output)
  (hb:∀k,¬φ r k->w'.heap[k]?=w.heap[k]?)(hy:y.p ε w' (ak c H φ) (ε r) (φ r))(hn:∀r'∈y.nm,H r'≠none):cf c T (bp H [(r,y)]) a w' ε φ:=by
 rw[bG];have hl:∀r',cW H r (some y) r'≠none↔H r'≠none:=by
  intro r';by_cases e:r'=r
  ·subst e;simp[aB,hr]
  ·rw[aL _ _ e]
 have hreg:ak c (cW H r (some y)) φ=ak c H φ:=by
  funext k
  simp only[ak];apply propext
  constructor
  ·exact fun⟨h1,h2⟩=>⟨h1,fun r' hr'=>h2 r' ((hl r').2 hr')⟩
  ·exact fun⟨h1,h2⟩=>⟨h1,fun r' hr'=>h2 r' ((hl r').1 hr')⟩
 have hS:∀k,ak c H φ k->k<w.heap.size->ak c H φ k/\w'.heap[k]?=w.heap[k]?:=fun k hk _=>⟨hk,hb k (hk.2 r (by simp[hr]))⟩
 constructor
 ·rw[hreg];exact fun t d ht=>d.mono (h.t t d ht) (fun _ _=>rfl) hS
 ·exact fun t d ht r' hr'=>(hl r').2 (h.tn t d ht r' hr')
 ·rw[hreg];intro r' z hz;by_cases e:r'=r
  ·subst e;rw[aB]at hz;injection hz with hz;subst hz;exact hy
  ·rw[aL _ _ e]at hz;exact z.mono (h.h r' z hz) (fun _ _=>rfl) hS (fun k hk=>hb k (h.dj r' r (by simp[hz]) (by simp[hr]) e k hk))
 ·intro r' z hz r2 h2;by_cases e:r'=r
  ·subst e;rw[aB]at hz;injection hz with hz;subst hz;exact(hl r2).2 (hn r2 h2)
  ·rw[aL _ _ e]at hz;exact(hl r2).2 (h.hn r' z hz r2 h2)
 ·intro r' hr' k hk;have:=h.lo r' ((hl r').1 hr') k hk;exact⟨this.1,by rw[hsz];exact this.2⟩
 ·exact fun r1 r2 h1 h2=>h.dj r1 r2 ((hl r1).1 h1) ((hl r2).1 h2)
 ·exact h.oL.trans ⟨ho,htp,hop,Nat.le_of_eq hsz.symm,fun k hk hl=>hb k (fun hf=>by
   rcases(h.lo r (by simp[hr]) k hf).1 with h1|h1
   ·omega
   ·exact hl h1)⟩
 ·exact h.bs
 ·exact h.sz
 ·exact h.df
end
def lay(P:Program)(t:TypeId):Option (Option Nat):=
 match P.underlying t,P.info? t with
 |some (.struct _),some i=>some (some i.size)
 |some (.array _ _),some i=>some (some i.size)
 |some _,some i=>if i.size=1 then some none else none
 |_,_=>none
def wU(P:Program)(s:TypeId)(k:Nat):Option Nat:=
 match P.underlying s with
 |some (.struct fs)=>match fs[k]?with
  |some f=>match P.info? f.type with
   |some i=>if i.size=0 then none else some f.offset
   |none=>none
  |none=>none
 |_=>none
theorem ij{P:Program}{t:TypeId}(h:lay P t=some none)(w:World):(isAgg t).run P w=.ok false w/\(sizeOf t).run P w=.ok 1 w:=by
 unfold lay at h
 split at h<;>try (first|cases h|skip)
 rename_i d i hns hna hu hi
 split at h
 ·rename_i hs
  constructor
  ·unfold isAgg;rw[Sem.run_bind,run_underlying hu w];cases d<;>first|rfl|exact absurd rfl (hns _)|exact absurd rfl (hna _ _)
  ·simp[sizeOf,typeInfo,hi,hs]
 ·cases h
theorem dT{P:Program}{t:TypeId}{n:Nat}(h:lay P t=some (some n))(w:World):(isAgg t).run P w=.ok true w/\(sizeOf t).run P w=.ok n w:=by
 unfold lay at h
 split at h
 ·rename_i fs i hu hi;injection h with h;injection h with h;refine⟨?_,by simp[sizeOf,typeInfo,hi,h]⟩;unfold isAgg;rw[Sem.run_bind,run_underlying hu w];rfl
 ·rename_i _ _ i hu hi;injection h with h;injection h with h;refine⟨?_,by simp[sizeOf,typeInfo,hi,h]⟩;unfold isAgg;rw[Sem.run_bind,run_underlying hu w];rfl
 ·split at h<;>cases h
 ·cases h
theorem vt{P:Program}{s:TypeId}{k off:Nat}(h:wU P s k=some off)(b o:Nat)(w:World):
  (Instr.fieldAt s (.pointer (some ⟨b,o,none⟩)) k).run P w=.ok (.pointer (some ⟨b,o+off,none⟩)) w:=by
 unfold wU at h
 split at h<;>try cases h
 rename_i fs hu
 split at h<;>try cases h
 rename_i f hf
 split at h<;>try cases h
 rename_i i hi
 split at h
 ·cases h
 ·rename_i hs;injection h with h;unfold Instr.fieldAt;simp only[Sem.run_bind,run_underlying hu w,Result.andThen_ok,hf,Instr.sureAddr,Sem.run_pure,fieldPlace,sizeOf,typeInfo,run_program,hi,hs,if_false,h]
  congr 4
  unfold Addr.add;split<;>simp_all
theorem fO{w:World}{b:Nat}{cs:List Value}{ty:TypeId}(hb:w.heap[b]?=some (.cells cs.toArray ty (0,0)))(i:Nat):w.cell? ⟨b,i,none⟩=cs[i]?:=by
 simp[World.cell?,hb]
theorem gA(b o j:Nat):(⟨b,o,none⟩:Addr).add j=⟨b,o+j,none⟩:=by unfold Addr.add;split<;>simp_all
theorem gK(w:World)(o:Obj):(w.alloc o).heap[w.heap.size]?=some o:=by show(w.heap.push o)[w.heap.size]?=_;simp
theorem cf.AG{c:Ctx}{T:Nat->Option D}{H:Nat->Option Hp}{a:Act}{w:World}{ε:Env}{φ:Nat->cl}(hs:cf c T H a w ε φ){r:Nat}(t:TypeId){l:List D}{cs:List Value}
  (hn:H r=none)(h1:∀u∈cs,u.oneCell'=true)(hl:bX ε w (ak c H φ) l cs)(hnm:∀r'∈bF l,H r'≠none):
  cf c T (bp H [(r,.box t l)]) a (w.alloc (.cells cs.toArray t)) (cW ε r (.pointer (some ⟨w.heap.size,0,none⟩))) (cW φ r (only w.heap.size)):=by
 refine hs.ky (x:=.box t l) (b:=.pointer (some ⟨w.heap.size,0,none⟩)) (F:=only w.heap.size) (w':=w.alloc (.cells cs.toArray t)) hn ((Below.refl _ _).alloc (Nat.le_refl _) _) (fun k hk=>by simp only[only]at hk;subst hk;simp)
  ⟨rfl,cs,gK _ _,h1,bN ?_ hl ?_⟩ hnm
 ·intro k hk hlt;refine⟨⟨hk.1,fun r' hr'=>?_⟩,Below.heap_alloc _ _ _ hlt⟩;rw[bG]at hr';by_cases e':r'=r
  ·subst e';rw[aB];intro hf';simp only[only]at hf';omega
  ·rw[aL _ _ e']at hr'|-;exact hk.2 r' hr'
 ·intro r' hr';exact aL _ _ (fun e'=>by subst e';exact hnm r' hr' hn)
section
variable {P:Program} {os:List Oper} {c:Ctx} {T T':List (Nat×D)} {H H':List (Nat×Hp)} {sps:List Spec}
variable {ops:Array Oper} {dst:Option Nat} {ty:TypeId} {pos:String} {aft:Array Edge}
def bs(xs:List (Operand×D))(r:Nat)(t:TypeId)(l:List D):Spec:={ins:=xs.flatMap fun x=>dM x.1 x.2,cO:=[],out:=.ref r 0,c_:=[(r,.box t l)],news:=[r]}
theorem aj.new{r:Nat}{o:Oper}(xs:List (Operand×D))(t:TypeId)(l:List D)(hg:o.guard=none)(hdst:o.dst=some r)(he:∀x∈xs,ev T x.1=some x.2)(hf:ai H r=none)
  (hnm:∀r∈bF l,∃x∈xs,r∈x.2.nm)
  (hrun:∀(ε:Env) (w:World) (S:cl) (a:Act),(∀x∈xs,x.2.p ε w S (a.eval x.1))->
   ∃cs:List Value,(execOp a.eval o).run P w=.ok (.value (.pointer (some ⟨w.heap.size,0,none⟩))) (w.alloc (.cells cs.toArray t))/\(∀u∈cs,u.oneCell'=true)/\bX ε w S l cs)
  (hr:aj P ops c os ((r,.ref r 0)::T) ((r,.box t l)::H) sps T' H'):aj P ops c (o::os) T H (bs xs r t l::sps) T' H':=by
 refine .cons (sp:=bs xs r t l) ?_ (dQ he) trivial ⟨hf,trivial⟩ (by rw[hdst];exact hr);intro hd T0 H0 hi _ hn a w ⟨ε,φ,hs⟩ Q K hK;rw[if_pos (a_ hg _)];have hx:∀x∈xs,eV T0 (dM x.1 x.2):=cz hi;obtain⟨cs,hrn,h1,hl⟩:=hrun ε w (ak c H0 φ) a (fun x h=>(hs.ev (hx x h) (aA (he x h)).2).1);simp only[Oper.wp,hrn,Oper.upon];refine hK _ _ ⟨cW ε r (.pointer (some ⟨w.heap.size,0,none⟩)),cW φ r (only w.heap.size),?_⟩;have hN:=hs.AG t hn.1 h1 hl (fun r' hr'=>by
  obtain⟨x,hxm,hrx⟩:=hnm r' hr';exact(hs.ev (hx x hxm) (aA (he x hxm)).2).2 r' hrx)
 rw[hdst];exact hN.put (dst:=some r) (v:=.pointer (some ⟨w.heap.size,0,none⟩)) (d:=.ref r 0) (by rw[←hdst];exact cG hd) (by simp[D.ref,aB,iv]) (by simp[D.ref,bG,aB])
theorem aj.iL{t r:Nat}{x:Operand}{l:List D}(h:ev T x=some (.agg l))(hf:ai H r=none)
  (hr:aj P ops c os ((r,.ref r 0)::T) ((r,.box t l)::H) sps T' H'):
  aj P ops c (⟨some r,.box t x,ty,pos,aft,none⟩::os) T H (bs [(x,.agg l)] r t l::sps) T' H':=
 .new [(x,.agg l)] t l rfl rfl (by simpa using h) hf (fun r hr=>⟨(x,.agg l),by simp,hr⟩) (fun ε w S a hx=>by
  obtain⟨cs,e,h1,hl⟩:=hx (x,.agg l) (by simp);dsimp only at e;exact⟨cs,by simp only[execOp,Instr.box,newVar,newRow,Value.cells,e];rfl,h1,hl⟩) hr
theorem nV:∀{v:Value},v.oneCell'=true->v.cells=#[v]:=by
 intro v h;cases v<;>first|rfl|cases h
theorem aj.Cx{t r:Nat}{x:Operand}{d:D}(h:ev T x=some d)(hsh:d.sh=.one)(hf:ai H r=none)
  (hr:aj P ops c os ((r,.ref r 0)::T) ((r,.box t [d])::H) sps T' H'):
  aj P ops c (⟨some r,.box t x,ty,pos,aft,none⟩::os) T H (bs [(x,d)] r t [d]::sps) T' H':=
 .new [(x,d)] t [d] rfl rfl (by simpa using h) hf (fun r hr=>⟨(x,d),by simp,by simpa [bF]using hr⟩) (fun ε w S a hx=>by
  have hp:=hx (x,d) (by simp);have ho:(a.eval x).oneCell'=true:=by have:=d.iD hp;rw[hsh]at this;exact this
  exact⟨[a.eval x],by simp only[execOp,Instr.box,newVar,newRow,nV ho];rfl,by simpa using ho,hp,trivial⟩) hr
def wX(P:Program)(t:TypeId):Option (List D):=
 match P.info? t with
 |some i=>match i.zero with
  |some v=>if v.cells.all (·.oneCell')then some (v.cells.toList.map wZ)else none
  |none=>none
 |none=>none
theorem iz(ε:Env)(w:World)(S:cl):∀vs:List Value,bX ε w S (vs.map wZ) vs
 |[]=>trivial
 |_::vs=>⟨z7 _ _ _ _,iz ε w S vs⟩
theorem sI:∀vs:List Value,bF (vs.map wZ)=[]
 |[]=>rfl
 |_::vs=>by simp[bF,w9,sI vs]
def rs(x:Operand)(d:D)(r:Nat)(h:Hp)(out:D):Spec:={ins:=dM x d,cO:=[(r,h)],out:=out,c_:=[],news:=[]}
theorem aj.CO{t tb r off:Nat}{x:Operand}{l:List D}{d:D}(h:ev T x=some (.ref r off))(hh:ai H r=some (.box tb l))
  (hd:∀(ε:Env) (w:World) (S:cl) (b:Nat) (cs:List Value),w.heap[b]?=some (.cells cs.toArray tb (0,0))->(∀u∈cs,u.oneCell'=true)->bX ε w S l cs->
   ∃v,(loadVar t ⟨b,off,none⟩).run P w=.ok v w/\d.p ε w S v)(hnm:∀r'∈d.nm,r'∈bF l)
  (hr:aj P ops c os (bf T dst d) H sps T' H'):aj P ops c (⟨dst,.load t x,ty,pos,aft,none⟩::os) T H (rs x (.ref r off) r (.box tb l) d::sps) T' H':=by
 refine .cons (sp:=rs x (.ref r off) r (.box tb l) d) ?_ (aA h).1 ⟨hh,trivial⟩ trivial hr;intro hdst T0 H0 hi cO _ a w ⟨ε,φ,hs⟩ Q K hK;rw[if_pos (a_ rfl _)];have hx:=(hs.ev hi (aA h).2).1;obtain⟨eF,cs,hb,h1,hc⟩:=hs.h r _ cO.1;obtain⟨v,hv,hp⟩:=hd ε w _ (iv (ε r)) cs hb h1 hc;have hrun:(execOp a.eval ⟨dst,.load t x,ty,pos,aft,none⟩).run P w=.ok (.value v) w:=by
  have hx':a.eval x=.pointer (some ⟨iv (ε r),off,none⟩):=hx;simp only[execOp,Instr.loadAt,hx',Instr.sureAddr,Sem.run_bind,Sem.run_pure,Result.andThen_ok,hv]
 simp only[Oper.wp,hrun,Oper.upon];exact hK _ _ ⟨ε,φ,hs.put (cG hdst) hp (fun r' hr'=>hs.hn r _ cO.1 r' (hnm r' hr'))⟩
theorem aj.Dg{t tb r off:Nat}{x:Operand}{l:List D}{d:D}(h:ev T x=some (.ref r off))(hh:ai H r=some (.box tb l))(hl:lay P t=some none)(hd:l[off]?=some d)
  (hr:aj P ops c os (bf T dst d) H sps T' H'):aj P ops c (⟨dst,.load t x,ty,pos,aft,none⟩::os) T H (rs x (.ref r off) r (.box tb l) d::sps) T' H':=
 .CO h hh (fun ε w S b cs hb h1 hc=>by
  obtain⟨v,hv,hp⟩:=gF hc hd;refine⟨v,?_,hp⟩;simp only[loadVar,Sem.run_bind,(ij hl w).1,Result.andThen_ok,Bool.false_eq_true,if_false,run_load,fO hb,hv]) (fun r' hr'=>bM.2 ⟨d,List.mem_of_getElem? hd,hr'⟩) hr
theorem aj.C4{t tb r off n:Nat}{x:Operand}{l:List D}(h:ev T x=some (.ref r off))(hh:ai H r=some (.box tb l))(hl:lay P t=some (some n))(hn:Nat.ble (off+n) l.length=true)
  (hr:aj P ops c os (bf T dst (.agg ((l.drop off).take n))) H sps T' H'):aj P ops c (⟨dst,.load t x,ty,pos,aft,none⟩::os) T H (rs x (.ref r off) r (.box tb l) (.agg ((l.drop off).take n))::sps) T' H':=
 .CO h hh (fun ε w S b cs hb h1 hc=>by
  have hlen:=aS hc;have hn':=Nat.le_of_ble_eq_true hn;have hq:((cs.drop off).take n).length=n:=by simp;omega
  have hld:=run_loadCells_list (P:=P) w ⟨b,off,none⟩ ((cs.drop off).take n) (fun j v hv=>by
   have hj:j<n:=by have:=(List.getElem?_eq_some_iff.1 hv).1;omega
   rw[gA,fO hb];rw[List.getElem?_take_of_lt hj,List.getElem?_drop]at hv;exact hv)
  rw[hq]at hld;refine⟨.agg ((cs.drop off).take n).toArray,?_,(cs.drop off).take n,rfl,fun u hu=>h1 u (List.mem_of_mem_drop (List.mem_of_mem_take hu)),dA n (dK off hc)⟩;simp only[loadVar,Sem.run_bind,(dT hl w).1,(dT hl w).2,Result.andThen_ok,if_true,hld,Sem.run_pure]) (fun r' hr'=>by
   obtain⟨d,hd,hr''⟩:=bM.1 (show r'∈bF ((l.drop off).take n)from hr');exact bM.2 ⟨d,List.mem_of_mem_drop (List.mem_of_mem_take hd),hr''⟩) hr
theorem aj.fa{s k r off o':Nat}{x:Operand}(h:ev T x=some (.ref r off))(hf:wU P s k=some o')
  (hr:aj P ops c os (bf T dst (.ref r (off+o'))) H sps T' H'):aj P ops c (⟨dst,.fieldAddr s x k,ty,pos,aft,none⟩::os) T H (ps [(x,.ref r off)] (.ref r (off+o'))::sps) T' H':=
 .pure [(x,.ref r off)] rfl (by simpa using h) (fun r' hr'=>⟨(x,.ref r off),by simp,hr'⟩) (fun ε w S a hx=>by
  have hx':a.eval x=.pointer (some ⟨iv (ε r),off,none⟩):=hx (x,.ref r off) (by simp);exact⟨_,by simp only[execOp,hx',Sem.run_bind,vt hf,Result.andThen_ok];rfl,rfl⟩) hr
def ws(x:Operand)(d:D)(y:Operand)(e:D)(r:Nat)(h h':Hp):Spec:={ins:=dM x d++dM y e,cO:=[(r,h)],out:=.any,c_:=[(r,h')],news:=[]}
theorem eP(w:World)(g:Nat)(cs:Array Value)(k:Nat)(h:k≠g):(w.setRow g cs).heap[k]?=w.heap[k]?:=by
 simp only[World.setRow,Array.getElem?_modify];rw[if_neg (by omega)]
theorem aj.Cv{t tb r off n:Nat}{x y:Operand}{l m:List D}{e:D}(h:ev T x=some (.ref r off))(hy:ev T y=some e)(hh:ai H r=some (.box tb l))
  (hsz:∀w,(sizeOf t).run P w=.ok n w)(hn:Nat.ble (off+n) l.length=true)
  (hv:∀(ε:Env) (w:World) (S:cl) (v:Value),e.p ε w S v->∃vs:List Value,v.cells.toList=vs/\vs.length=n/\(∀u∈vs,u.oneCell'=true)/\bX ε w S m vs)(hnm:∀r'∈bF m,r'∈e.nm)
  (hr:aj P ops c os (bf T dst .any) ((r,.box tb (l.take off++m++l.drop (off+n)))::H) sps T' H'):
  aj P ops c (⟨dst,.store t x y,ty,pos,aft,none⟩::os) T H (ws x (.ref r off) y e r (.box tb l) (.box tb (l.take off++m++l.drop (off+n)))::sps) T' H':=by
 refine .cons (sp:=ws x (.ref r off) y e r (.box tb l) (.box tb (l.take off++m++l.drop (off+n)))) ?_ (aV.2 ⟨(aA h).1,(aA hy).1⟩) ⟨hh,trivial⟩ trivial hr;intro hdst T0 H0 hi cO _ a w ⟨ε,φ,hs⟩ Q K hK;rw[if_pos (a_ rfl _)];obtain⟨hi1,hi2⟩:=aV.1 hi;have hx:a.eval x=.pointer (some ⟨iv (ε r),off,none⟩):=(hs.ev hi1 (aA h).2).1;obtain⟨hp,hpn⟩:=hs.ev hi2 (aA hy).2;obtain⟨vs,hvs,hvl,hv1,hvm⟩:=hv ε w _ _ hp;obtain⟨eF,cs,hb,h1,hc⟩:=hs.h r _ cO.1;have hlen:=aS hc;have hn':=Nat.le_of_ble_eq_true hn;have hst:=run_storeCells_at (P:=P) (iv (ε r)) off tb vs 0 cs.toArray w hb (by simp;omega) hv1;simp only[Nat.add_zero,hvl]at hst;have hrun:(execOp a.eval ⟨dst,.store t x y,ty,pos,aft,none⟩).run P w=.ok .skip (w.setRow (iv (ε r)) (cs.take off++vs++cs.drop (off+n)).toArray):=by
  have hsize:(a.eval y).cells.size=n:=by rw[←hvl,←hvs,Array.length_toList]
  simp only[execOp,Instr.storeAt,hx,Instr.sureAddr,Sem.run_bind,Sem.run_pure,Result.andThen_ok,storeVar,hsz w,hsize,ne_eq,not_true_eq_false,if_false,hvs,hst]
 simp only[Oper.wp,hrun,Oper.upon];have hS:=hs.pM (w':=w.setRow (iv (ε r)) (cs.take off++vs++cs.drop (off+n)).toArray) (y:=.box tb (l.take off++m++l.drop (off+n))) cO.1 (by simp[World.setRow]) rfl rfl rfl
  (fun k hk=>eP _ _ _ _ (fun e'=>hk (by rw[eF,e'];rfl)))
  ⟨eF,cs.take off++vs++cs.drop (off+n),setRow_heap w (iv (ε r)) cs.toArray _ tb _ hb,(by
   intro u hu;simp only[List.mem_append]at hu;rcases hu with(hu|hu)|hu
   ·exact h1 u (List.mem_of_mem_take hu)
   ·exact hv1 u hu
   ·exact h1 u (List.mem_of_mem_drop hu)),by
   refine bN ?_ (bS (bS (dA off hc) hvm) (dK (off+n) hc)) (fun _ _=>rfl);intro k hk _;exact⟨hk,eP _ _ _ _ (fun e'=>hk.2 r (by simp[cO.1]) (by rw[eF,e'];rfl))⟩⟩
  (by
   intro r' hr';obtain⟨d,hd,hr''⟩:=bM.1 (show r'∈bF (l.take off++m++l.drop (off+n))from hr');simp only[List.mem_append]at hd;rcases hd with(hd|hd)|hd
   ·exact hs.hn r _ cO.1 r' (bM.2 ⟨d,List.mem_of_mem_take hd,hr''⟩)
   ·exact hpn r' (hnm r' (bM.2 ⟨d,hd,hr''⟩))
   ·exact hs.hn r _ cO.1 r' (bM.2 ⟨d,List.mem_of_mem_drop hd,hr''⟩))
 exact hK _ _ ⟨ε,φ,hS.put (d:=.any) (cG hdst) trivial (fun _ h=>by cases h)⟩
theorem aj.Dc{t tb r off:Nat}{x y:Operand}{l:List D}{e:D}(h:ev T x=some (.ref r off))(hy:ev T y=some e)(hh:ai H r=some (.box tb l))(hl:lay P t=some none)(hsh:e.sh=.one)
  (hn:Nat.ble (off+1) l.length=true)
  (hr:aj P ops c os (bf T dst .any) ((r,.box tb (l.take off++[e]++l.drop (off+1)))::H) sps T' H'):
  aj P ops c (⟨dst,.store t x y,ty,pos,aft,none⟩::os) T H (ws x (.ref r off) y e r (.box tb l) (.box tb (l.take off++[e]++l.drop (off+1)))::sps) T' H':=
 .Cv h hy hh (fun w=>(ij hl w).2) hn (fun ε w S v hp=>by
  have ho:v.oneCell'=true:=by have:=e.iD hp;rw[hsh]at this;exact this
  exact⟨[v],by rw[nV ho],rfl,by simpa using ho,hp,trivial⟩) (fun r' hr'=>by simpa [bF]using hr') hr
theorem aj.C7{t tb r off n:Nat}{x y:Operand}{l m:List D}(h:ev T x=some (.ref r off))(hy:ev T y=some (.agg m))(hh:ai H r=some (.box tb l))(hl:lay P t=some (some n))(hm:Nat.beq m.length n=true)
  (hn:Nat.ble (off+n) l.length=true)
  (hr:aj P ops c os (bf T dst .any) ((r,.box tb (l.take off++m++l.drop (off+n)))::H) sps T' H'):
  aj P ops c (⟨dst,.store t x y,ty,pos,aft,none⟩::os) T H (ws x (.ref r off) y (.agg m) r (.box tb l) (.box tb (l.take off++m++l.drop (off+n)))::sps) T' H':=
 .Cv h hy hh (fun w=>(dT hl w).2) hn (fun ε w S v ⟨cs,e,h1,hc⟩=>⟨cs,by rw[e];simp[Value.cells],by rw[aS hc];exact Nat.eq_of_beq_eq_true hm,h1,hc⟩) (fun r' hr'=>hr') hr
end
def ε0:Env:=fun _=>undef
def l8(P:Program)(f:FuncId):Bool:=
 match P.funcs[f]?with
 |some fn=> !(fn.name== "runtime.NumGoroutine")&&fn.body.isSome
 |none=>false
structure j5(P:Program)(f:FuncId)(ds:List D)(d:D):Prop where
 ok:l8 P f=true
 bF:bF ds=[]
 nm:d.nm=[]
 calls:∀(A:cl) (w:World) (vs:List Value),bX ε0 w A ds vs->Calls P f vs.toArray w (fun e w'=>∃v,e=.returned v/\d.p ε0 w' (fun k=>A k\/w.heap.size<=k) v/\Below w.heap.size w w')
def Le(d d':D):Prop:=(∀ε w S v,d.p ε w S v->d'.p ε w S v)/\∀r∈d'.nm,r∈d.nm
theorem Le.refl(d:D):Le d d:=⟨fun _ _ _ _ h=>h,fun _ h=>h⟩
def tT(T:List (Nat×D)):List Operand->List D->Prop
 |[],[]=>True
 |x::xs,d::ds=>ev T x=some d/\tT T xs ds
 |_,_=>False
theorem fl{T:List (Nat×D)}:∀{xs:List Operand} {ds:List D},tT T xs ds->∀x∈xs.zip ds,ev T x.1=some x.2
 |[],[],_,x,h=>by cases h
 |y::ys,d::ds,h,x,hx=>by
  rcases List.mem_cons.1 hx with rfl|hx
  ·exact h.1
  ·exact fl h.2 x hx
 |[],_::_,h,_,_=>h.elim
 |_::_,[],h,_,_=>h.elim
theorem fI{T:List (Nat×D)}{ε:Env}{w:World}{S:cl}{a:Act}:∀{xs:List Operand} {ds:List D},tT T xs ds->(∀x∈xs.zip ds,x.2.p ε w S (a.eval x.1))->bX ε w S ds (xs.map a.eval)
 |[],[],_,_=>trivial
 |y::ys,d::ds,h,hx=>⟨hx (y,d) (by simp),fI h.2 (fun x hx'=>hx x (by simp[hx']))⟩
 |[],_::_,h,_=>h.elim
 |_::_,[],h,_=>h.elim
section
variable {P:Program} {os:List Oper} {c:Ctx} {T T':List (Nat×D)} {H H':List (Nat×Hp)} {sps:List Spec}
variable {ops:Array Oper} {dst:Option Nat} {ty:TypeId} {pos:String} {aft:Array Edge}
theorem jY{f:FuncId}{xs:List Operand}{ats:Array TypeId}(hok:l8 P f=true)(a:Act)(w:World):
  (execOp a.eval ⟨dst,.call {callee:=.value (.func f),args:=xs.toArray,argTypes:=ats},ty,pos,aft,none⟩).run P w=.ok (.enter f (xs.map a.eval).toArray) w:=by
 unfold l8 at hok;cases hf:P.funcs[f]?with
 |none=>simp[hf]at hok
 |some fn=>
  simp only[hf,Bool.and_eq_true,Bool.not_eq_true']at hok;simp only[execOp,resolve,Act.eval,Deferred.ofValue,Sem.run_bind,Sem.run_pure,Result.andThen_ok,invoke,callFunc,run_program,hf,hok.1,Bool.false_eq_true,if_false];have hb:fn.body.isNone=false:=by cases h:fn.body<;>simp_all
  simp[hb]
theorem aj.call{f:FuncId}{xs:List Operand}{ats:Array TypeId}{ds:List D}{d:D}(hc:j5 P f ds d)(he:tT T xs ds)
  (hr:aj P ops c os (bf T dst d) H sps T' H'):
  aj P ops c (⟨dst,.call {callee:=.value (.func f),args:=xs.toArray,argTypes:=ats},ty,pos,aft,none⟩::os) T H (ps (xs.zip ds) d::sps) T' H':=by
 refine .cons (sp:=ps (xs.zip ds) d) ?_ (dQ (fl he)) trivial trivial hr;intro hdst T0 H0 hi _ _ a w ⟨ε,φ,hs⟩ Q K hK;rw[if_pos (a_ rfl _)];have hx:∀x∈xs.zip ds,eV T0 (dM x.1 x.2):=cz hi;have hall:=fI he (fun x h=>(hs.ev (hx x h) (aA (fl he x h)).2).1);have hall0:bX ε0 w (ak c H0 φ) ds (xs.map a.eval):=bN (fun k hk _=>⟨hk,rfl⟩) hall (by rw[hc.bF];intro r h;cases h);simp only[Oper.wp,jY hc.ok,Oper.upon];refine(hc.calls (ak c H0 φ) w _ hall0).mono ?_;rintro e w' ⟨v,rfl,hp,hb⟩;have hg:=hs.grow hb;refine hK _ _ ⟨ε,φ,hg.put (d:=d) (cG hdst) ?_ (by rw[hc.nm];intro r h;cases h)⟩;refine d.mono hp (by rw[hc.nm];intro r h;cases h) (fun k hk hlt=>⟨?_,rfl⟩);rcases hk with hk|hk
 ·exact hk
 ·exact⟨.inr (.inl (Nat.le_trans hs.fp hk)),fun r hr' hf=>by have:=(hs.lo r hr' k hf).2;omega⟩
end
def yi(c:Ctx)(d:D):Ending->World->Prop:=fun e w=>∃v,e=.returned v/\d.p ε0 w (fun k=>c.A k\/c.base<=k\/c.L k) v/\lj c.base c.L c.w0 w
def frame:Nat->List D->List (Nat×D)
 |_,[]=>[]
 |i,d::ds=>(i,d)::frame (i+1) ds
theorem ec{ε:Env}{w:World}{S:cl}:∀{ds:List D} {vs:List Value} {i t:Nat} {d:D},bX ε w S ds vs->aO (frame i ds) t=some d->∃j v,t=i+j/\vs[j]?=some v/\d.p ε w S v/\d∈ds
 |[],_,_,_,_,_,h=>by cases h
 |d0::ds,v::vs,i,t,d,ha,h=>by
  simp only[frame,aO]at h
  cases hb:Nat.beq t i with
  |true=>
   rw[hb]at h;injection h with h;subst h;exact⟨0,v,by simpa using Nat.eq_of_beq_eq_true hb,rfl,ha.1,by simp⟩
  |false=>
   rw[hb]at h;obtain⟨j,v',e,hv,hp,hm⟩:=ec ha.2 h;exact⟨j+1,v',by omega,by simpa using hv,hp,by simp[hm]⟩
 |_::_,[],_,_,_,ha,_=>ha.elim
theorem j5.of{P:Program}{f:FuncId}{fn:Func}{x:Code}{ds:List D}{d:D}(hf:P.funcs[f]?=some fn)(hb:fn.body=some x)(hok:l8 P f=true)(hn:Am.bF ds=[])(hd:d.nm=[])
  (hl:Nat.ble ds.length fn.ntmps=true)(h:∀A w0,Ok P ⟨A,w0.heap.size,w0,fn.ntmps,fun _=>False⟩ (frame 0 ds) [] x (bodyPost P fn (yi ⟨A,w0.heap.size,w0,fn.ntmps,fun _=>False⟩ d))):j5 P f ds d where
 ok:=hok
 bF:=hn
 nm:=hd
 calls:=by
  intro A w vs hv;refine(calls_of_wp hf hb (h A w _ _ ⟨ε0,fun _ _=>False,?_⟩)).mono (fun e w' ⟨v,e',hp,hb'⟩=>⟨v,e',d.mono hp (by rw[hd];intro r h;cases h) (fun k hk _=>⟨hk.elim .inl (fun h=>h.elim .inr False.elim),rfl⟩),
   ⟨hb'.os,hb'.tape,hb'.output,hb'.size,fun k hk=>hb'.block k hk (fun h=>h)⟩⟩)
  have hlen:=aS hv;have hl':=Nat.le_of_ble_eq_true hl
  constructor
  ·intro t d' ht;obtain⟨j,v,e,hj,hp,_⟩:=ec hv ht;have hjl:j<vs.length:=(List.getElem?_eq_some_iff.1 hj).1;have:(vs.toArray++Array.replicate (fn.ntmps-vs.toArray.size) undef).getD t undef=v:=by
    simp only[Nat.zero_add]at e;subst e;simp[Array.getD_eq_getD_getElem?,Array.getElem?_append,hjl];have:=(List.getElem?_eq_some_iff.1 hj).2;exact this
   rw[this];exact d'.mono hp (fun _ _=>rfl) (fun k hk _=>⟨⟨.inl hk,fun _ hr=>absurd rfl hr⟩,rfl⟩)
  ·intro t d' ht r hr;obtain⟨_,_,_,_,_,hm⟩:=ec hv ht;have:r∈Am.bF ds:=bM.2 ⟨d',hm,hr⟩;rw[hn]at this;cases this
  ·intro r y hy;cases hy
  ·intro r y hy;cases hy
  ·intro r hr;exact absurd rfl hr
  ·intro r _ hr;exact absurd rfl hr
  ·exact .of (Below.refl _ _)
  ·rfl
  ·simp[hlen];omega
  ·rfl
def Bw(tmps:Array Value):ResultVar->Sem Value
 |.tmp t=>pure (tmps.getD t undef)
 |.cell a t=>do loadVar t (←asAddr (tmps.getD a undef))
theorem eE(fn:Func)(tmps:Array Value):results fn tmps=(do
  let vs←fn.results.mapM (Bw tmps)
  pure (if h:vs.size=1 then vs[0]else .tuple vs)):=by
 unfold results
 congr 2
def RV(P:Program)(c:Ctx)(T:List (Nat×D))(H:List (Nat×Hp))(x:ResultVar)(d:D):Prop:=
 ∀a w ε φ,cf c (aO T) (ai H) a w ε φ->∃v,(Bw a.tmps x).run P w=.ok v w/\d.p ε w (ak c (ai H) φ) v
section
variable {P:Program} {c:Ctx} {T:List (Nat×D)} {H:List (Nat×Hp)}
theorem RV.tmp{t:Nat}{d:D}(h:aO T t=some d):RV P c T H (.tmp t) d:=fun _ _ _ _ hs=>⟨_,rfl,hs.t t d h⟩
theorem RV.agg{b ty tb r n:Nat}{l:List D}(h:aO T b=some (.ref r 0))(hh:ai H r=some (.box tb l))(hl:lay P ty=some (some n))(hn:Nat.beq n l.length=true):RV P c T H (.cell b ty) (.agg l):=by
 intro a w ε φ hs;have hx:a.tmps.getD b undef=.pointer (some ⟨iv (ε r),0,none⟩):=hs.t b _ h;obtain⟨_,cs,hb,h1,hc⟩:=hs.h r _ hh;have hlen:=aS hc;have hn':=Nat.eq_of_beq_eq_true hn;have hld:=run_loadCells_list (P:=P) w ⟨iv (ε r),0,none⟩ cs (fun j v hv=>by rw[gA,fO hb,Nat.zero_add];exact hv);rw[hlen,←hn']at hld;refine⟨.agg cs.toArray,?_,cs,rfl,h1,hc⟩;simp only[Bw,hx,asAddr,Sem.run_bind,Sem.run_pure,Result.andThen_ok,loadVar,(dT hl w).1,(dT hl w).2,if_true,hld]
theorem yi.of{a:Act}{w:World}{ε:Env}{φ:Nat->cl}{d d':D}{v:Value}(hs:cf c (aO T) (ai H) a w ε φ)(hp:d'.p ε w (ak c (ai H) φ) v)(hle:Le d' d)(hn:d.nm=[]):yi c d (.returned v) w:=
 ⟨v,rfl,d.mono (hle.1 _ _ _ _ hp) (by rw[hn];intro r h;cases h) (fun _ hk _=>⟨hk.1,rfl⟩),hs.oL⟩
theorem Ok.og{fn:Func}{x:ResultVar}{d d':D}(hx:fn.results=#[x])(h:RV P c T H x d')(hle:Le d' d)(hn:d.nm=[]):Ok P c T H .ret (bodyPost P fn (yi c d)):=by
 intro a w ⟨ε,φ,hs⟩;obtain⟨v,hv,hp⟩:=h a w ε φ hs;refine wp_ret ⟨hs.df,v,?_,yi.of hs hp hle hn⟩;rw[eE,hx];simp[hv]
theorem Ok.yS{fn:Func}{x y:ResultVar}{d e:D}{l:D}(hx:fn.results=#[x,y])(h:RV P c T H x d)(k:RV P c T H y e)(hle:Le (.fA [d,e]) l)(hn:l.nm=[]):Ok P c T H .ret (bodyPost P fn (yi c l)):=by
 intro a w ⟨ε,φ,hs⟩;obtain⟨v,hv,hp⟩:=h a w ε φ hs;obtain⟨u,hu,hq⟩:=k a w ε φ hs;refine wp_ret ⟨hs.df,.tuple #[v,u],?_,yi.of (d':=.fA [d,e]) hs ⟨[v,u],rfl,hp,hq,trivial⟩ hle hn⟩;rw[eE,hx];simp[hv,hu]
theorem Ok.nR{fn:Func}{x:ResultVar}{d d':D}{Q:Exit->Act->World->Prop}(hQ:∀a w,bodyPost P fn (yi c d) .ret a w->Q .ret a w)(hx:fn.results=#[x])(h:RV P c T H x d')(hle:Le d' d)(hn:d.nm=[]):Ok P c T H .ret Q:=by
 intro a w ⟨ε,φ,hs⟩;obtain⟨v,hv,hp⟩:=h a w ε φ hs;refine wp_ret (hQ _ _ ⟨hs.df,v,?_,yi.of hs hp hle hn⟩);rw[eE,hx];simp[hv]
theorem Ok.x8{fn:Func}{x y:ResultVar}{d e:D}{l:D}{Q:Exit->Act->World->Prop}(hQ:∀a w,bodyPost P fn (yi c l) .ret a w->Q .ret a w)(hx:fn.results=#[x,y])(h:RV P c T H x d)(k:RV P c T H y e)(hle:Le (.fA [d,e]) l)(hn:l.nm=[]):Ok P c T H .ret Q:=by
 intro a w ⟨ε,φ,hs⟩;obtain⟨v,hv,hp⟩:=h a w ε φ hs;obtain⟨u,hu,hq⟩:=k a w ε φ hs;refine wp_ret (hQ _ _ ⟨hs.df,.tuple #[v,u],?_,yi.of (d':=.fA [d,e]) hs ⟨[v,u],rfl,hp,hq,trivial⟩ hle hn⟩);rw[eE,hx];simp[hv,hu]
end
end Go.Am
namespace Go.Am
def kD(T:Nat->Option D)(E:Nat->Bool):Nat->List (Oper×Spec)->Nat->Option D
 |_,[]=>T
 |k,(o,sp)::l=>kD (match E k with|true=>fR T o.dst sp.out|false=>T) E (k+1) l
def jW(H:Nat->Option Hp)(E:Nat->Bool):Nat->List (Oper×Spec)->Nat->Option Hp
 |_,[]=>H
 |k,(_,sp)::l=>jW (match E k with|true=>bp H sp.c_|false=>H) E (k+1) l
def ft:Nat->Bool:=fun _=>true
theorem mu(T:Nat->Option D)(E:Nat->Bool):∀(k:Nat) (l m:List (Oper×Spec)),kD T E k (l++m)=kD (kD T E k l) E (k+l.length) m
 |k,[],m=>by simp[kD]
 |k,(o,sp)::l,m=>by
  simp only[List.cons_append,kD,List.length_cons];rw[mu _ E (k+1) l m,show k+1+l.length=k+(l.length+1)by omega]
theorem mh(H:Nat->Option Hp)(E:Nat->Bool):∀(k:Nat) (l m:List (Oper×Spec)),jW H E k (l++m)=jW (jW H E k l) E (k+l.length) m
 |k,[],m=>by simp[jW]
 |k,(o,sp)::l,m=>by
  simp only[List.cons_append,jW,List.length_cons];rw[mh _ E (k+1) l m,show k+1+l.length=k+(l.length+1)by omega]
theorem mS{t:Nat}{E:Nat->Bool}:∀{l:List (Oper×Spec)} {k:Nat} {T:Nat->Option D},(∀j x,l[j]?=some x->E (k+j)=true->x.1.dst≠some t)->kD T E k l t=T t
 |[],_,_,_=>rfl
 |(o,sp)::l,k,T,h=>by
  simp only[kD];rw[mS (fun j x hj he=>h (j+1) x (by simpa using hj) (by rwa [show k+(j+1)=k+1+j by omega]))]
  cases hE:E k with
  |false=>rfl
  |true=>
   have:=h 0 (o,sp) rfl (by simpa using hE)
   cases hd:o.dst with
   |none=>simp[fR]
   |some t'=>simp only[fR];rw[if_neg];intro e;subst e;exact this hd
theorem mV{t:Nat}{E:Nat->Bool}:∀{l:List (Oper×Spec)} {k:Nat} {H:Nat->Option Hp},(∀j x,l[j]?=some x->E (k+j)=true->ai x.2.c_ t=none)->jW H E k l t=H t
 |[],_,_,_=>rfl
 |(o,sp)::l,k,H,h=>by
  simp only[jW];rw[mV (fun j x hj he=>h (j+1) x (by simpa using hj) (by rwa [show k+(j+1)=k+1+j by omega]))]
  cases hE:E k with
  |false=>rfl
  |true=>
   have:=h 0 (o,sp) rfl (by simpa using hE);simp only[bp,this]
theorem lO{t:Nat}{E E':Nat->Bool}:∀{l:List (Oper×Spec)} {k:Nat} {T T':Nat->Option D},T t=T' t->(∀j x,l[j]?=some x->x.1.dst=some t->E (k+j)=E' (k+j))->kD T E k l t=kD T' E' k l t
 |[],_,_,_,h,_=>h
 |(o,sp)::l,k,T,T',h,hE=>by
  simp only[kD];refine lO ?_ (fun j x hj hd=>by have:=hE (j+1) x (by simpa using hj) hd;rwa [show k+(j+1)=k+1+j by omega]at this);have h0:=hE 0 (o,sp) rfl;by_cases hd:o.dst=some t
  ·have:=h0 hd;simp only[Nat.add_zero]at this;rw[←this]
   cases E k with
   |false=>exact h
   |true=>simp[fR,hd]
  ·have hu:∀T:Nat->Option D,fR T o.dst sp.out t=T t:=by
    intro T
    cases hd':o.dst with
    |none=>rfl
    |some t'=>simp only[fR];rw[if_neg];intro e;subst e;exact hd hd'
   cases E k<;>cases E' k<;>simp only[hu]<;>exact h
theorem lL{t:Nat}{E E':Nat->Bool}:∀{l:List (Oper×Spec)} {k:Nat} {H H':Nat->Option Hp},H t=H' t->(∀j x,l[j]?=some x->ai x.2.c_ t≠none->E (k+j)=E' (k+j))->jW H E k l t=jW H' E' k l t
 |[],_,_,_,h,_=>h
 |(o,sp)::l,k,H,H',h,hE=>by
  simp only[jW];refine lL ?_ (fun j x hj hd=>by have:=hE (j+1) x (by simpa using hj) hd;rwa [show k+(j+1)=k+1+j by omega]at this);have h0:=hE 0 (o,sp) rfl;by_cases hd:ai sp.c_ t=none
  ·have hu:∀H:Nat->Option Hp,bp H sp.c_ t=H t:=by intro H;simp only[bp,hd]
   cases E k<;>cases E' k<;>simp only[hu]<;>exact h
  ·have:=h0 hd;simp only[Nat.add_zero]at this;rw[←this]
   cases E k with
   |false=>exact h
   |true=>
    cases hq:ai sp.c_ t with
    |none=>exact absurd hq hd
    |some y=>simp[bp,hq]
structure sW where
 w:List Nat
 u:List Nat
 hw:List Nat
 hr:List Nat
def names{α:Type}:List (Nat×α)->List Nat
 |[]=>[]
 |(t,_)::l=>t::names l
def g_(x:Oper×Spec):sW:={w:=(match x.1.dst with|none=>[]|some t=>[t]),u:=names x.2.ins,hw:=names x.2.c_,hr:=names x.2.cO++x.2.news}
def has(t:Nat):List Nat->Bool
 |[]=>false
 |t'::l=>match Nat.beq t t' with|true=>true|false=>has t l
def meets:List Nat->List Nat->Bool
 |[],_=>false
 |t::l,m=>match has t m with|true=>true|false=>meets l m
def kB(f g:sW):Bool:=meets f.w (g.u++g.w)||meets f.u g.w||meets f.hw (g.hr++g.hw)||meets f.hr g.hw
def mn(acc:List Nat):List Edge->Nat
 |[]=>0
 |e::es=>match Region.binds .any e with
  |true=>mn acc es|||2^e.on|||acc.getD e.on 0
  |false=>mn acc es
def nn(k:Nat):List Edge->Bool
 |[]=>true
 |e::es=>match Region.binds .any e with
  |true=>Nat.blt e.on k&&nn k es
  |false=>nn k es
def rN(m:Nat)(f:sW):Nat->List sW->Bool
 |_,[]=>true
 |i,g::gs=>(m.testBit i|| !kB g f)&&rN m f (i+1) gs
def kZ(acc:List Nat)(prev:List sW)(k:Nat):List (Oper×Spec)->Bool
 |[]=>true
 |x::l=>
  let m:=mn acc x.1.after.toList
  let f:=g_ x
  nn k x.1.after.toList&&rN m f 0 prev&&kZ (acc++[m]) (prev++[f]) (k+1) l
theorem r_{t:Nat}:∀{l:List Nat},has t l=true↔t∈l
 |[]=>by simp[has]
 |t'::l=>by
  simp only[has]
  cases hb:Nat.beq t t' with
  |true=>simp[Nat.eq_of_beq_eq_true hb]
  |false=>
   have:t≠t':=fun e=>by subst e;simp at hb
   simp[r_ (l:=l),this]
theorem h_{m:List Nat}:∀{l:List Nat},meets l m=true↔∃t∈l,t∈m
 |[]=>by simp[meets]
 |t::l=>by
  simp only[meets]
  cases hb:has t m with
  |true=>simp[r_.1 hb]
  |false=>
   have:t∉m:=fun e=>by rw[r_.2 e]at hb;cases hb
   simp[h_ (l:=l),this]
theorem bW{t:Nat}:∀{l:List (Nat×Hp)},ai l t≠none↔t∈names l
 |[]=>by simp[ai,names]
 |(t',x)::l=>by
  simp only[ai,names]
  cases hb:Nat.beq t t' with
  |true=>simp[Nat.eq_of_beq_eq_true hb]
  |false=>
   have:t≠t':=fun e=>by subst e;simp at hb
   simp[bW (l:=l),this]
def DC(l:List (Oper×Spec))(E:Nat->Bool):Prop:=∀j x e,l[j]?=some x->e∈x.1.after.toList->Region.binds .any e=true->E j=true->E e.on=true
theorem l3{acc:List Nat}{E:Nat->Bool}{i:Nat}(hacc:∀k,E k=true->∀i,(acc.getD k 0).testBit i=true->E i=true):∀{es:List Edge},(∀e∈es,Region.binds .any e=true->E e.on=true)->(mn acc es).testBit i=true->E i=true
 |[],_,h=>by simp[mn]at h
 |e::es,he,h=>by
  simp only[mn]at h
  cases hb:Region.binds .any e with
  |false=>rw[hb]at h;exact l3 hacc (fun e' h'=>he e' (by simp[h'])) h
  |true=>
   rw[hb]at h;simp only[Nat.testBit_or,Bool.or_eq_true]at h;rcases h with(h|h)|h
   ·exact l3 hacc (fun e' h'=>he e' (by simp[h'])) h
   ·have:e.on=i:=by
     rw[Nat.testBit_two_pow]at h;simpa using h
    rw[←this];exact he e (by simp) hb
   ·exact hacc e.on (he e (by simp) hb) i h
theorem oq{m:Nat}{f:sW}:∀{gs:List sW} {i:Nat},rN m f i gs=true->∀j g,gs[j]?=some g->m.testBit (i+j)=true\/kB g f=false
 |[],_,_,j,g,hg=>by simp at hg
 |g0::gs,i,h,j,g,hg=>by
  simp only[rN,Bool.and_eq_true,Bool.or_eq_true,Bool.not_eq_true']at h
  cases j with
  |zero=>simp at hg;subst hg;exact h.1
  |succ j=>
   have:=oq h.2 j g (by simpa using hg)
   rwa [show i+1+j=i+(j+1)by omega]at this
theorem j8{k:Nat}:∀{es:List Edge},nn k es=true->∀e∈es,Region.binds .any e=true->e.on<k
 |[],_,e,h,_=>by cases h
 |e0::es,h,e,he,hb=>by
  simp only[nn]at h
  cases hb0:Region.binds .any e0 with
  |true=>
   rw[hb0]at h;simp only[Bool.and_eq_true,Nat.blt_eq]at h;rcases List.mem_cons.1 he with rfl|he
   ·exact h.1
   ·exact j8 h.2 e he hb
  |false=>
   rw[hb0]at h;rcases List.mem_cons.1 he with rfl|he
   ·rw[hb]at hb0;cases hb0
   ·exact j8 h e he hb
theorem pk{full:List (Oper×Spec)}{E:Nat->Bool}(hE:DC full E):∀{l:List (Oper×Spec)} {acc:List Nat} {prev:List sW} {k:Nat},kZ acc prev k l=true->(∀j,l[j]?=full[k+j]?)->acc.length=k->prev.length=k->
  (∀j,E j=true->∀i,(acc.getD j 0).testBit i=true->E i=true)->(∀j x,j<k->full[j]?=some x->prev[j]?=some (g_ x))->
  (∀j x,l[j]?=some x->∀e∈x.1.after.toList,Region.binds .any e=true->e.on<k+j)/\
  (∀i j x y,full[i]?=some x->l[j]?=some y->i<k+j->kB (g_ x) (g_ y)=true->E (k+j)=true->E i=true)
 |[],_,_,_,_,_,_,_,_,_=>⟨fun j x h=>by simp at h,fun i j x y _ h=>by simp at h⟩
 |z::l,acc,prev,k,h,hl,ha,hp,hacc,hprev=>by
  simp only[kZ,Bool.and_eq_true]at h;obtain⟨⟨h1,h2⟩,h3⟩:=h;have hz:full[k]?=some z:=by have:=hl 0;simpa using this.symm
  have hacc':∀j,E j=true->∀i,((acc++[mn acc z.1.after.toList]).getD j 0).testBit i=true->E i=true:=by
   intro j hj i hi;rcases Nat.lt_trichotomy j acc.length with hlt|heq|hgt
   ·rw[List.getD_eq_getElem?_getD,List.getElem?_append_left hlt,←List.getD_eq_getElem?_getD]at hi;exact hacc j hj i hi
   ·subst heq;rw[List.getD_eq_getElem?_getD,List.getElem?_append_right (Nat.le_refl _)]at hi;simp only[Nat.sub_self,List.getElem?_cons_zero,Option.getD_some]at hi;exact l3 hacc (fun e he hb=>hE _ z e (by rw[ha];exact hz) he hb hj) hi
   ·rw[List.getD_eq_getElem?_getD,List.getElem?_eq_none (by simp;omega)]at hi;simp at hi
  have ih:=pk hE (l:=l) h3 (fun j=>by have:=hl (j+1);simpa [Nat.add_assoc,Nat.add_comm 1 j]using this) (by simp[ha]) (by simp[hp]) hacc' (by
   intro j x hj hx;by_cases hjk:j<k
   ·rw[List.getElem?_append_left (by omega)];exact hprev j x hjk hx
   ·have:j=k:=by omega
    subst this;rw[hz]at hx;injection hx with hx;subst hx;rw[List.getElem?_append_right (by omega)];simp[hp])
  refine⟨?_,?_⟩
  ·intro j x hj e he hb
   cases j with
   |zero=>simp at hj;subst hj;exact j8 h1 e he hb
   |succ j=>have:=ih.1 j x (by simpa using hj) e he hb;omega
  ·intro i j x y hx hy hij hc hEj
   cases j with
   |zero=>
    simp at hy;subst hy;simp only[Nat.add_zero]at hij hEj;have hpi:=hprev i x hij hx;rcases oq h2 i (g_ x) hpi with hb|hb
    ·simp only[Nat.zero_add]at hb;exact l3 hacc (fun e he hb'=>hE _ z e hz he hb' hEj) hb
    ·rw[hb]at hc;cases hc
   |succ j=>
    exact ih.2 i j x y hx (by simpa using hy) (by omega) hc (by rwa [show k+1+j=k+(j+1)by omega])
theorem rP(T:Nat->Option D):∀(k k':Nat) (l:List (Oper×Spec)),kD T ft k l=kD T ft k' l
 |_,_,[]=>rfl
 |k,k',(o,sp)::l=>by simp only[kD,ft];exact rP _ _ _ l
theorem rU(H:Nat->Option Hp):∀(k k':Nat) (l:List (Oper×Spec)),jW H ft k l=jW H ft k' l
 |_,_,[]=>rfl
 |k,k',(o,sp)::l=>by simp only[jW,ft];exact rU _ _ _ l
theorem aj.data{P:Program}{ops:Array Oper}{c:Ctx}{os:List Oper}{T:List (Nat×D)}{H:List (Nat×Hp)}{sps:List Spec}{T':List (Nat×D)}{H':List (Nat×Hp)}(h:aj P ops c os T H sps T' H'):
  os.length=sps.length/\kD (aO T) ft 0 (os.zip sps)=aO T'/\jW (ai H) ft 0 (os.zip sps)=ai H'/\
  ∀i x,(os.zip sps)[i]?=some x->m7 P ops c x.1 x.2/\eV (kD (aO T) ft 0 ((os.zip sps).take i)) x.2.ins/\nC (jW (ai H) ft 0 ((os.zip sps).take i)) x.2.cO/\jQ (jW (ai H) ft 0 ((os.zip sps).take i)) x.2.news:=by
 induction h with
 |nil=>exact⟨rfl,rfl,rfl,fun i x h=>by simp at h⟩
 |@cons o os T H sp sps T' H' hs hi hh hn _ ih=>
  obtain⟨h1,h2,h3,h4⟩:=ih;have eT:kD (aO T) ft 0 ((o,sp)::os.zip sps)=kD (aO (bf T o.dst sp.out)) ft 0 (os.zip sps):=by
   simp only[kD,ft,fX];exact rP _ _ _ _
  have eH:jW (ai H) ft 0 ((o,sp)::os.zip sps)=jW (ai (sp.c_++H)) ft 0 (os.zip sps):=by
   simp only[jW,ft,bu];exact rU _ _ _ _
  refine⟨by simp[h1],?_,?_,?_⟩
  ·rw[List.zip_cons_cons,eT];exact h2
  ·rw[List.zip_cons_cons,eH];exact h3
  ·intro i x hx
   cases i with
   |zero=>simp at hx;subst hx;exact⟨hs,hi,hh,hn⟩
   |succ i=>
    have:=h4 i x (by simpa using hx);rw[List.zip_cons_cons,List.take_succ_cons];have e1:kD (aO T) ft 0 ((o,sp)::(os.zip sps).take i)=kD (aO (bf T o.dst sp.out)) ft 0 ((os.zip sps).take i):=by
     simp only[kD,ft,fX];exact rP _ _ _ _
    have e2:jW (ai H) ft 0 ((o,sp)::(os.zip sps).take i)=jW (ai (sp.c_++H)) ft 0 ((os.zip sps).take i):=by
     simp only[jW,ft,bu];exact rU _ _ _ _
    rw[e1,e2];exact this
theorem oy{T T':Nat->Option D}:∀{l:List (Nat×D)},eV T l->(∀t∈names l,T' t=T t)->eV T' l
 |[],_,_=>trivial
 |(t,d)::l,h,e=>⟨by rw[e t (by simp[names])];exact h.1,oy h.2 (fun t' ht=>e t' (by simp[names,ht]))⟩
theorem oj{T T':Nat->Option Hp}:∀{l:List (Nat×Hp)},nC T l->(∀t∈names l,T' t=T t)->nC T' l
 |[],_,_=>trivial
 |(t,d)::l,h,e=>⟨by rw[e t (by simp[names])];exact h.1,oj h.2 (fun t' ht=>e t' (by simp[names,ht]))⟩
theorem ot{T T':Nat->Option Hp}:∀{l:List Nat},jQ T l->(∀t∈l,T' t=T t)->jQ T' l
 |[],_,_=>trivial
 |t::l,h,e=>⟨by rw[e t (by simp)];exact h.1,ot h.2 (fun t' ht=>e t' (by simp[ht]))⟩
section
variable {P:Program} {c:Ctx} {l:List (Oper×Spec)} {T:Nat->Option D} {H:Nat->Option Hp}
theorem qc(i:Nat){x:Oper×Spec}(hx:l[i]?=some x):l=l.take i++x::l.drop (i+1):=by
 have hi:=(List.getElem?_eq_some_iff.1 hx);obtain⟨hlt,he⟩:=hi;rw[←he,List.getElem_cons_drop,List.take_append_drop]
theorem AW{E:Nat->Bool}{i t:Nat}(hlt:∀j x,j<i->l[j]?=some x->x.1.dst=some t->E j=true)(hge:∀j x,i<=j->l[j]?=some x->E j=true->x.1.dst≠some t):
  kD T E 0 l t=kD T ft 0 (l.take i) t:=by
 rw[←List.take_append_drop i l,mu];rw[mS (fun j x hj he=>by
  rw[List.getElem?_drop]at hj;by_cases hil:i<=l.length
  ·have hlen:(l.take i).length=i:=by simp;omega
   rw[hlen]at he;exact hge (i+j) x (by omega) hj (by simpa using he)
  ·rw[List.getElem?_eq_none (by omega)]at hj;cases hj)]
 rw[List.take_append_drop];refine lO rfl (fun j x hj hd=>?_);have hji:j<i:=by
  have:=(List.getElem?_eq_some_iff.1 hj).1;simp at this;omega
 rw[List.getElem?_take_of_lt hji]at hj;simp only[Nat.zero_add,ft];exact hlt j x hji hj hd
theorem A3{E:Nat->Bool}{i t:Nat}(hlt:∀j x,j<i->l[j]?=some x->t∈names x.2.c_->E j=true)(hge:∀j x,i<=j->l[j]?=some x->E j=true->t∉names x.2.c_):
  jW H E 0 l t=jW H ft 0 (l.take i) t:=by
 rw[←List.take_append_drop i l,mh];rw[mV (fun j x hj he=>by
  rw[List.getElem?_drop]at hj;by_cases hil:i<=l.length
  ·have hlen:(l.take i).length=i:=by simp;omega
   rw[hlen]at he;have:=hge (i+j) x (by omega) hj (by simpa using he)
   cases hq:ai x.2.c_ t with
   |none=>rfl
   |some y=>exact absurd (bW.1 (by rw[hq];simp)) this
  ·rw[List.getElem?_eq_none (by omega)]at hj;cases hj)]
 rw[List.take_append_drop];refine lL rfl (fun j x hj hd=>?_);have hji:j<i:=by
  have:=(List.getElem?_eq_some_iff.1 hj).1;simp at this;omega
 rw[List.getElem?_take_of_lt hji]at hj;simp only[Nat.zero_add,ft];exact hlt j x hji hj (bW.1 hd)
theorem At{E E':Nat->Bool}{i:Nat}{x:Oper×Spec}(hx:l[i]?=some x)(hi:E' i=true)(he:∀j,j≠i->E' j=E j)(hge:∀j y t,i<j->l[j]?=some y->E j=true->x.1.dst=some t->y.1.dst≠some t)(t:Nat):
  fR (kD T E 0 l) x.1.dst x.2.out t=kD T E' 0 l t:=by
 by_cases hd:x.1.dst=some t
 ·have hlen:(l.take i).length=i:=by have:=(List.getElem?_eq_some_iff.1 hx).1;simp;omega
  have e1:kD T E' 0 l=kD (kD T E' 0 (l.take i)) E' i (x::l.drop (i+1)):=by
   conv=>lhs;rw[qc i hx]
   rw[mu,hlen,Nat.zero_add]
  rw[e1,kD,mS (fun j y hj hE=>by
   rw[List.getElem?_drop]at hj;have hne:i+1+j≠i:=by omega
   rw[he _ hne]at hE;exact hge (i+1+j) y t (by omega) hj hE hd)]
  simp[fR,hd,hi]
 ·have hu:∀T:Nat->Option D,fR T x.1.dst x.2.out t=T t:=by
   intro T
   cases hd':x.1.dst with
   |none=>rfl
   |some t'=>simp only[fR];rw[if_neg];intro e;subst e;exact hd hd'
  rw[hu];refine lO rfl (fun j y hj hdy=>?_);simp only[Nat.zero_add];by_cases hji:j=i
  ·subst hji;rw[hx]at hj;injection hj with hj;subst hj;exact absurd hdy hd
  ·exact(he j hji).symm
theorem AS{E E':Nat->Bool}{i:Nat}{x:Oper×Spec}(hx:l[i]?=some x)(hi:E' i=true)(he:∀j,j≠i->E' j=E j)(hge:∀j y t,i<j->l[j]?=some y->E j=true->t∈names x.2.c_->t∉names y.2.c_)(t:Nat):
  bp (jW H E 0 l) x.2.c_ t=jW H E' 0 l t:=by
 by_cases hd:t∈names x.2.c_
 ·have hlen:(l.take i).length=i:=by have:=(List.getElem?_eq_some_iff.1 hx).1;simp;omega
  have e1:jW H E' 0 l=jW (jW H E' 0 (l.take i)) E' i (x::l.drop (i+1)):=by
   conv=>lhs;rw[qc i hx]
   rw[mh,hlen,Nat.zero_add]
  rw[e1,jW,mV (fun j y hj hE=>by
   rw[List.getElem?_drop]at hj;have hne:i+1+j≠i:=by omega
   rw[he _ hne]at hE;have:=hge (i+1+j) y t (by omega) hj hE hd
   cases hq:ai y.2.c_ t with
   |none=>rfl
   |some z=>exact absurd (bW.1 (by rw[hq];simp)) this)]
  cases hq:ai x.2.c_ t with
  |none=>exact absurd hq (bW.2 hd)
  |some z=>simp[bp,hq,hi]
 ·have hn:ai x.2.c_ t=none:=by
   cases hq:ai x.2.c_ t with
   |none=>rfl
   |some z=>exact absurd (bW.1 (by rw[hq];simp)) hd
  simp only[bp,hn];refine lL rfl (fun j y hj hdy=>?_);simp only[Nat.zero_add];by_cases hji:j=i
  ·subst hji;rw[hx]at hj;injection hj with hj;subst hj;exact absurd hn hdy
  ·exact(he j hji).symm
end
def setOf(listed:Array Bool):Nat->Bool:=fun j=>listed.getD j false
theorem wj{P:Program}{c:Ctx}{l:List (Oper×Spec)}{T:Nat->Option D}{H:Nat->Option Hp}{Q:Exit->Act->World->Prop}{ops:Array Oper}(hops:∀j:Nat,ops[j]?=(l[j]?).map (fun x:Oper×Spec=>x.1))(hsz:ops.size=l.length)
  (hstep:∀(i:Nat) (x:Oper×Spec),l[i]?=some x->m7 P ops c x.1 x.2/\eV (kD T ft 0 (l.take i)) x.2.ins/\nC (jW H ft 0 (l.take i)) x.2.cO/\jQ (jW H ft 0 (l.take i)) x.2.news)
  (hd:∀(i:Nat) (x:Oper×Spec),l[i]?=some x->p0 c.n x.1=true)(hord:kZ [] [] 0 l=true)
  (hQ:∀a w,Sat c (kD T ft 0 l) (jW H ft 0 l) a w->Q .normal a w):
  ∀(fuel:Nat) (listed:Array Bool) (a:Act) (w:World),listed.size=l.length->DC l (setOf listed)->Sat c (kD T (setOf listed) 0 l) (jW H (setOf listed) 0 l) a w->
   (∀U:List Nat,U.Nodup->(∀j∈U,j<l.length/\setOf listed j=false)->U.length<=fuel)->wpAny P .any ops Q fuel listed a w:=by
 have spec:=fun(E:Nat->Bool) (hE:DC l E)=>pk hE hord (fun j=>by simp) rfl rfl (fun j _ i h=>by simp at h) (fun j x h=>absurd h (Nat.not_lt_zero j));have getF:∀(listed:Array Bool) (j:Nat),listed.size=l.length->j<l.length->listed.getD j true=listed.getD j false:=by
  intro listed j hls hj;simp[Array.getD_eq_getD_getElem?,hls,hj]
 have full:∀listed:Array Bool,listed.size=l.length->DC l (setOf listed)->Region.ready .any ops listed=[]->∀a w,Sat c (kD T (setOf listed) 0 l) (jW H (setOf listed) 0 l) a w->Q .normal a w:=by
  intro listed hls hdc hr a w hs;have hall:∀n j,j<n->j<l.length->setOf listed j=true:=by
   intro n
   induction n with
   |zero=>intro j hj;omega
   |succ n ih=>
    intro j hj hlt;by_cases hjn:j<n
    ·exact ih j hjn hlt
    ·cases he:setOf listed j with
     |true=>rfl
     |false=>
      have hx:l[j]?=some l[j]:=List.getElem?_eq_getElem hlt;have hmem:j∈Region.ready .any ops listed:=by
       rw[mem_ready];refine⟨by rw[getF listed j hls hlt];exact he,l[j].1,by rw[hops,hx];rfl,fun e hem hb=>?_⟩;have:=(spec _ hdc).1 j l[j] hx e (by simpa using hem) hb;exact ih e.on (by omega) (by omega)
      rw[hr]at hmem;cases hmem
  refine hQ a w (hs.ext (fun t=>?_) (fun t=>?_))
  ·refine lO rfl (fun j x hj _=>?_);simp only[Nat.zero_add,ft];exact(hall (j+1) j (by omega) (List.getElem?_eq_some_iff.1 hj).1).symm
  ·refine lL rfl (fun j x hj _=>?_);simp only[Nat.zero_add,ft];exact(hall (j+1) j (by omega) (List.getElem?_eq_some_iff.1 hj).1).symm
 intro fuel
 induction fuel with
 |zero=>
  intro listed a w hls hdc hs hU;have hr:Region.ready .any ops listed=[]:=by
   cases hr:Region.ready .any ops listed with
   |nil=>rfl
   |cons j r=>
    have hj:j∈Region.ready .any ops listed:=by rw[hr];simp
    rw[mem_ready]at hj;obtain⟨h0,o,ho,_⟩:=hj;have hjl:j<l.length:=by rw[←hsz];exact(Array.getElem?_eq_some_iff.1 ho).1
    have:=hU [j] (by simp) (fun k hk=>by simp at hk;subst hk;exact⟨hjl,by rw[getF listed k hls hjl]at h0;exact h0⟩);simp at this
  exact⟨hr,full listed hls hdc hr a w hs⟩
 |succ fuel ih=>
  intro listed a w hls hdc hs hU;refine⟨fun hr=>full listed hls hdc hr a w hs,fun i hi=>?_⟩;rw[mem_ready]at hi;obtain⟨h0,o,ho,hedge⟩:=hi;have hil:i<l.length:=by rw[←hsz];exact(Array.getElem?_eq_some_iff.1 ho).1
  have hx:l[i]?=some l[i]:=List.getElem?_eq_getElem hil;generalize l[i]=x at hx;have hox:o=x.1:=by rw[hops,hx]at ho;simpa using ho.symm
  subst hox;have hnot:setOf listed i=false:=by rw[getF listed i hls hil]at h0;exact h0
  have hset:∀j,j≠i->setOf (listed.setIfInBounds i true) j=setOf listed j:=fun j hj=>getD_set_ne false (Ne.symm hj);have hseti:setOf (listed.setIfInBounds i true) i=true:=by simp[setOf,hls,hil]
  have hmono:∀j,setOf listed j=true->setOf (listed.setIfInBounds i true) j=true:=fun j hj=>getD_set_true hj;have hdc':DC l (setOf (listed.setIfInBounds i true)):=by
   intro j y e hy he hb hj;by_cases hji:j=i
   ·subst hji;rw[hx]at hy;injection hy with hy;subst hy;exact hmono _ (hedge e (by simpa using he) hb)
   ·rw[hset j hji]at hj;exact hmono _ (hdc j y e hy he hb hj)
  have before:∀j y,j<i->l[j]?=some y->kB (g_ y) (g_ x)=true->setOf listed j=true:=by
   intro j y hji hy hc;have:=(spec _ hdc').2 j i y x hy hx (by omega) hc (by rw[Nat.zero_add];exact hseti)
   rwa [hset j (by omega)]at this
  have after:∀j y,i<j->l[j]?=some y->setOf listed j=true->kB (g_ x) (g_ y)=false:=by
   intro j y hij hy hj;cases hc:kB (g_ x) (g_ y)with
   |false=>rfl
   |true=>
    have:=(spec _ hdc).2 i j x y hx hy (by omega) hc (by rw[Nat.zero_add];exact hj);rw[hnot]at this;cases this
  obtain⟨hst,hi1,hi2,hi3⟩:=hstep i x hx;have inw:∀(y:Oper×Spec) (t:Nat),y.1.dst=some t->t∈(g_ y).w:=by intro y t h;simp[g_,h]
  have seenT:∀t∈names x.2.ins,kD T (setOf listed) 0 l t=kD T ft 0 (l.take i) t:=by
   intro t ht;refine AW (fun j y hji hy hdy=>before j y hji hy ?_) (fun j y hij hy hj hdy=>?_)
   ·simp only[kB,Bool.or_eq_true];exact .inl (.inl (.inl (h_.2 ⟨t,inw y t hdy,by simp[g_,ht]⟩)))
   ·by_cases hji:j=i
    ·subst hji;rw[hnot]at hj;cases hj
    ·have:=after j y (by omega) hy hj;simp only[kB,Bool.or_eq_false_iff]at this;have h2:=this.1.1.2;have:meets (g_ x).u (g_ y).w=true:=h_.2 ⟨t,by simp[g_,ht],inw y t hdy⟩;rw[h2]at this;cases this
  have seenH:∀r,(r∈names x.2.cO\/r∈x.2.news)->jW H (setOf listed) 0 l r=jW H ft 0 (l.take i) r:=by
   intro r hr;have hrf:r∈(g_ x).hr:=by simp only[g_,List.mem_append];exact hr
   refine A3 (fun j y hji hy hdy=>before j y hji hy ?_) (fun j y hij hy hj hdy=>?_)
   ·simp only[kB,Bool.or_eq_true];exact .inl (.inr (h_.2 ⟨r,hdy,by simp[hrf]⟩))
   ·by_cases hji:j=i
    ·subst hji;rw[hnot]at hj;cases hj
    ·have:=after j y (by omega) hy hj;simp only[kB,Bool.or_eq_false_iff]at this;have h2:=this.2;have:meets (g_ x).hr (g_ y).hw=true:=h_.2 ⟨r,hrf,hdy⟩;rw[h2]at this;cases this
  have run:=hst (hd i x hx) (kD T (setOf listed) 0 l) (jW H (setOf listed) 0 l) (oy hi1 seenT) (oj hi2 (fun r hr=>seenH r (.inl hr))) (ot hi3 (fun r hr=>seenH r (.inr hr))) a w hs Q
   (wpAny P .any ops Q fuel (listed.setIfInBounds i true)) (fun a' w' hs'=>by
    refine ih _ a' w' (by simpa using hls) hdc' (hs'.ext (fun t=>?_) (fun t=>?_)) (fun U hnd hUm=>?_)
    ·refine(At hx hseti hset (fun j y t hij hy hj hdx hdy=>?_) t).symm;have:=after j y hij hy hj;simp only[kB,Bool.or_eq_false_iff]at this;have h2:=this.1.1.1;have:meets (g_ x).w ((g_ y).u++(g_ y).w)=true:=h_.2 ⟨t,inw x t hdx,by simp[inw y t hdy]⟩;rw[h2]at this;cases this
    ·refine(AS hx hseti hset (fun j y t hij hy hj hdx hdy=>?_) t).symm;have:=after j y hij hy hj;simp only[kB,Bool.or_eq_false_iff]at this;have h2:=this.1.2;have:meets (g_ x).hw ((g_ y).hr++(g_ y).hw)=true:=h_.2 ⟨t,hdx,by simp only[List.mem_append];exact .inr hdy⟩;rw[h2]at this;cases this
    ·have hiU:i∉U:=fun hm=>by have:=(hUm i hm).2;rw[hseti]at this;cases this
     have:=hU (i::U) (List.nodup_cons.2 ⟨hiU,hnd⟩) (fun j hj=>by
      rcases List.mem_cons.1 hj with rfl|hj
      ·exact⟨hil,hnot⟩
      ·have:=hUm j hj;exact⟨this.1,by rw[hset j (fun e=>hiU (e▸hj))]at this;exact this.2⟩)
     simpa using this)
  unfold wpOp;simp only[ho]
  split
  ·rename_i hw;rw[if_pos hw]at run;exact .inl run
  ·rename_i hw;rw[if_neg hw]at run;exact run
theorem sT:∀(n:Nat) (U:List Nat),U.Nodup->(∀j∈U,j<n)->U.length<=n
 |0,U,_,h=>by
  cases U with
  |nil=>simp
  |cons j U=>exact absurd (h j (by simp)) (Nat.not_lt_zero j)
 |n+1,U,hd,h=>by
  have h1:=sT n (U.erase n) (hd.erase n) (fun j hj=>by
   have hjU:=List.mem_of_mem_erase hj;have hne:j≠n:=fun e=>by subst e;exact absurd hj (List.Nodup.not_mem_erase hd)
   have:=h j hjU;omega)
  have:=List.length_erase_le (a:=n) (l:=U);by_cases hm:n∈U
  ·rw[List.length_erase_of_mem hm]at h1;omega
  ·rw[List.erase_of_not_mem hm]at h1;omega
theorem aj.qE{P:Program}{c:Ctx}{T T':List (Nat×D)}{H H':List (Nat×Hp)}{Q:Exit->Act->World->Prop}{sps:List Spec}{l:List Oper}(h:aj P l.toArray c l T H sps T' H')(hd:dZ c.n l=true)
  (hord:kZ [] [] 0 (l.zip sps)=true)(hQ:∀a w,Sat c (aO T') (ai H') a w->Q .normal a w):∀a w,Sat c (aO T) (ai H) a w->wpAny P .any l.toArray Q l.toArray.size (Array.replicate l.toArray.size false) a {w with drawn:=w.drawn+1}:=by
 intro a w hs;obtain⟨hlen,eT,eH,hst⟩:=h.data;have hzl:(l.zip sps).length=l.length:=by simp[List.length_zip,hlen]
 have hdst:∀(os:List Oper),dZ c.n os=true->∀o∈os,p0 c.n o=true:=by
  intro os
  induction os with
  |nil=>intro _ o ho;cases ho
  |cons o os ih=>
   intro hh o' ho';obtain⟨h1,h2⟩:=k_ hh;rcases List.mem_cons.1 ho' with rfl|ho'
   ·exact h1
   ·exact ih h2 o' ho'
 have hE0:∀j,setOf (Array.replicate l.toArray.size false) j=false:=by
  intro j;simp only[setOf,Array.getD_eq_getD_getElem?,Array.getElem?_replicate]
  split<;>rfl
 refine(wj (l:=l.zip sps) (T:=aO T) (H:=ai H) (fun j=>?_) (by simp[hzl]) hst (fun i x hx=>?_) hord (fun a w hs'=>hQ a w (by rwa [eT,eH]at hs')) _ _ a _ (by simp[hzl]) ?_ ?_ ?_)
 ·have:(l.zip sps).map (fun x:Oper×Spec=>x.1)=l:=by
   rw[List.map_fst_zip];omega
  conv=>lhs;rw[←this]
  simp
 ·have:=List.of_mem_zip (List.mem_of_getElem? hx);exact hdst l hd x.1 this.1
 ·intro j x e _ _ _ hj;rw[hE0]at hj;cases hj
 ·have hs':Sat c (aO T) (ai H) a {w with drawn:=w.drawn+1}:=by
   obtain⟨ε,φ,hs⟩:=hs;exact⟨ε,φ,hs.grow ((Go.RowKit.Below.refl _ _).drew)⟩
  exact hs'.ext (fun t=>mS (fun j x _ he=>by rw[hE0]at he;cases he)) (fun t=>mV (fun j x _ he=>by rw[hE0]at he;cases he))
 ·intro U hnd hU;have:=sT (l.zip sps).length U hnd (fun j hj=>(hU j hj).1);simpa [hzl]using this
theorem Ok.cJ{P:Program}{c:Ctx}{T T':List (Nat×D)}{H H':List (Nat×Hp)}{Q:Exit->Act->World->Prop}{id:Nat}{sps:List Spec}{l:List Oper}(hm:P.follows .mixedOrders=true)(h:aj P l.toArray c l T H sps T' H')(hd:dZ c.n l=true)
  (hord:kZ [] [] 0 (l.zip sps)=true)(hQ:∀a w,Sat c (aO T') (ai H') a w->Q .normal a w):Ok P c T H (.region id l.toArray true) Q:=
 fun a w hs=>wp_region_any hm (h.qE hd hord hQ a w hs)
theorem Ok.cn{P:Program}{c:Ctx}{T T':List (Nat×D)}{H H':List (Nat×Hp)}{Q:Exit->Act->World->Prop}{id:Nat}{sps:List Spec}{l:List Oper}{y:Code}(hm:P.follows .mixedOrders=true)(h:aj P l.toArray c l T H sps T' H')(hd:dZ c.n l=true)
  (hord:kZ [] [] 0 (l.zip sps)=true)(hy:Ok P c T' H' y Q):Ok P c T H (.seq (.region id l.toArray true) y) Q:=
 fun a w hs=>wp_seq (Ok.cJ hm h hd hord (fun a' w' hs'=>hy a' w' hs') a w hs)
end Go.Am
namespace Go.Am
open Go.RowKit
def mA(op:BinOp)(k:IntKind)(n m:Int):Option Int:=
 match op with
 |.add=>some (k.wrap (n+m))
 |.sub=>some (k.wrap (n-m))
 |.mul=>some (k.wrap (n*m))
 |.quo=>if m=0 then none else some (k.wrap (n.tdiv m))
 |.rem=>if m=0 then none else some (n.tmod m)
 |.and=>some (bits .and k n m)
 |.or=>some (bits .or k n m)
 |.xor=>some (bits .xor k n m)
 |.andNot=>some (bits .andNot k n m)
 |_=>none
def cP(op:BinOp)(n m:Int):Option Bool:=
 match op with
 |.eql=>some (n==m)
 |.neq=>some (n !=m)
 |.lss=>some (decide (n<m))
 |.leq=>some (decide (n<=m))
 |.gtr=>some (decide (n>m))
 |.geq=>some (decide (n>=m))
 |_=>none
def wx(op:BinOp)(k:IntKind)(n m:Int):Option Int:=
 if m<0 then none else
 match op with
 |.shl=>some (k.wrap (n*2^(min m.toNat k.bits)))
 |.shr=>some (n.fdiv (2^(min m.toNat k.bits)))
 |_=>none
def BU(op:BinOp)(x y:ByteArray):Option Bool:=
 match op with
 |.eql=>some (x.toList==y.toList)
 |.neq=>some (!(x.toList==y.toList))
 |_=>none
theorem zw{P:Program}{op:BinOp}{k:IntKind}{n m r:Int}{t:TypeId}(h:mA op k n m=some r)(w:World):(binOp op t (.int k n) (.int k m)).run P w=.ok (.int k r) w:=by
 cases op<;>simp only[mA]at h<;>try cases h
 case quo=>
  split at h
  ·cases h
  ·rename_i hm;injection h with h;subst h;simp[binOp,Op.intDiv,hm]
 case rem=>
  split at h
  ·cases h
  ·rename_i hm;injection h with h;subst h;simp[binOp,Op.intDiv,hm]
 all_goals (simp[binOp,Op.intArith];try rfl)
theorem xK{P:Program}{op:BinOp}{k:IntKind}{n m:Int}{b:Bool}{t:TypeId}(h:cP op n m=some b)(w:World):(binOp op t (.int k n) (.int k m)).run P w=.ok (.bool b) w:=by
 cases op<;>simp only[cP]at h<;>cases h<;>simp[binOp,Op.intCmp]
theorem yL{P:Program}{op:BinOp}{k yk:IntKind}{n m r:Int}{t:TypeId}(h:wx op k n m=some r)(w:World):(binOp op t (.int k n) (.int yk m)).run P w=.ok (.int k r) w:=by
 unfold wx at h
 split at h
 ·cases h
 ·rename_i hm;cases op<;>simp only[]at h<;>cases h<;>simp[binOp,Op.shift,hm]
theorem zo{P:Program}{op:BinOp}{x y:ByteArray}{b:Bool}{t:TypeId}(h:BU op x y=some b)(w:World):(binOp op t (.string x) (.string y)).run P w=.ok (.bool b) w:=by
 cases op<;>simp only[BU]at h<;>cases h<;>simp[binOp,Op.stringOp]
theorem run_equalIn_bool{P:Program}(w:World)(d:Nat){t:TypeId}(p q:Bool)(hu:P.underlying t=some .bool):(Op.equalIn (d+1) t (.bool p) (.bool q)).run P w=.ok (p==q) w:=by
 simp[Op.equalIn,run_underlying hu]
theorem sf(op:BinOp)(t:TypeId)(x y:Operand)(k:IntKind)(n:Int)(v:Value):eqGuard op t x y (.int k n) v=pure ():=by cases op<;>rfl
section
variable {P:Program} {os:List Oper} {c:Ctx} {T T':List (Nat×D)} {H H':List (Nat×Hp)} {sps:List Spec}
variable {ops:Array Oper} {dst:Option Nat} {ty:TypeId} {pos:String} {aft:Array Edge}
theorem two{x y:Operand}{d e:D}(hx:ev T x=some d)(hy:ev T y=some e):∀z∈[(x,d),(y,e)],ev T z.1=some z.2:=by
 intro z hz;simp only[List.mem_cons,List.not_mem_nil,or_false]at hz;rcases hz with rfl|rfl
 ·exact hx
 ·exact hy
theorem iO{d:D}{xs:List (Operand×D)}(h:d.nm=[]):∀r∈d.nm,∃x∈xs,r∈x.2.nm:=by rw[h];intro r hr;cases hr
theorem aj.ar{op:BinOp}{xt yt:TypeId}{x y:Operand}{k:IntKind}{n m r:Int}(hx:ev T x=some (.int k n))(hy:ev T y=some (.int k m))(h:mA op k n m=some r)
  (hr:aj P ops c os (bf T dst (.int k r)) H sps T' H'):aj P ops c (⟨dst,.binOp op xt x y yt,ty,pos,aft,none⟩::os) T H (ps [(x,.int k n),(y,.int k m)] (.int k r)::sps) T' H':=
 .pure [(x,.int k n),(y,.int k m)] rfl (two hx hy) (iO rfl) (fun ε w S a ha=>by
  have h1:a.eval x=.int k n:=ha (x,.int k n) (by simp);have h2:a.eval y=.int k m:=ha (y,.int k m) (by simp);exact⟨_,by simp only[execOp,h1,h2,sf,Sem.run_bind,Sem.run_pure,Result.andThen_ok,zw h],rfl⟩) hr
theorem aj.cm{op:BinOp}{xt yt:TypeId}{x y:Operand}{k:IntKind}{n m:Int}{b:Bool}(hx:ev T x=some (.int k n))(hy:ev T y=some (.int k m))(h:cP op n m=some b)
  (hr:aj P ops c os (bf T dst (.bool b)) H sps T' H'):aj P ops c (⟨dst,.binOp op xt x y yt,ty,pos,aft,none⟩::os) T H (ps [(x,.int k n),(y,.int k m)] (.bool b)::sps) T' H':=
 .pure [(x,.int k n),(y,.int k m)] rfl (two hx hy) (iO rfl) (fun ε w S a ha=>by
  have h1:a.eval x=.int k n:=ha (x,.int k n) (by simp);have h2:a.eval y=.int k m:=ha (y,.int k m) (by simp);exact⟨_,by simp only[execOp,h1,h2,sf,Sem.run_bind,Sem.run_pure,Result.andThen_ok,xK h],rfl⟩) hr
theorem aj.sh{op:BinOp}{xt yt:TypeId}{x y:Operand}{k yk:IntKind}{n m r:Int}(hx:ev T x=some (.int k n))(hy:ev T y=some (.int yk m))(h:wx op k n m=some r)
  (hr:aj P ops c os (bf T dst (.int k r)) H sps T' H'):aj P ops c (⟨dst,.binOp op xt x y yt,ty,pos,aft,none⟩::os) T H (ps [(x,.int k n),(y,.int yk m)] (.int k r)::sps) T' H':=
 .pure [(x,.int k n),(y,.int yk m)] rfl (two hx hy) (iO rfl) (fun ε w S a ha=>by
  have h1:a.eval x=.int k n:=ha (x,.int k n) (by simp);have h2:a.eval y=.int yk m:=ha (y,.int yk m) (by simp);exact⟨_,by simp only[execOp,h1,h2,sf,Sem.run_bind,Sem.run_pure,Result.andThen_ok,yL h],rfl⟩) hr
theorem aj.sc{op:BinOp}{xt yt:TypeId}{x y:Operand}{s u:ByteArray}{b:Bool}(hx:ev T x=some (.str s))(hy:ev T y=some (.str u))(h:BU op s u=some b)
  (hr:aj P ops c os (bf T dst (.bool b)) H sps T' H'):aj P ops c (⟨dst,.binOp op xt x y yt,ty,pos,aft,none⟩::os) T H (ps [(x,.str s),(y,.str u)] (.bool b)::sps) T' H':=
 .pure [(x,.str s),(y,.str u)] rfl (two hx hy) (iO rfl) (fun ε w S a ha=>by
  have h1:a.eval x=.string s:=ha (x,.str s) (by simp);have h2:a.eval y=.string u:=ha (y,.str u) (by simp);exact⟨_,by simp only[execOp,h1,h2,eqGuard_at_string,Sem.run_bind,Sem.run_pure,Result.andThen_ok,zo h],rfl⟩) hr
theorem aj.cat{xt yt:TypeId}{x y:Operand}{s u:ByteArray}(hx:ev T x=some (.str s))(hy:ev T y=some (.str u))(h:s.size+u.size<=9223372036854775807)
  (hr:aj P ops c os (bf T dst (.str (s++u))) H sps T' H'):aj P ops c (⟨dst,.binOp .add xt x y yt,ty,pos,aft,none⟩::os) T H (ps [(x,.str s),(y,.str u)] (.str (s++u))::sps) T' H':=
 .pure [(x,.str s),(y,.str u)] rfl (two hx hy) (iO rfl) (fun ε w S a ha=>by
  have h1:a.eval x=.string s:=ha (x,.str s) (by simp);have h2:a.eval y=.string u:=ha (y,.str u) (by simp);have h3:¬(((s.size+u.size:Nat):Int)>IntKind.i64.max):=by rw[IntKind.max_i64];omega
  exact⟨_,by simp only[execOp,h1,h2,eqGuard_at_string,Sem.run_bind,Sem.run_pure,Result.andThen_ok,binOp,Op.stringOp,h3,if_false],rfl⟩) hr
def CG(op:BinOp)(a b:Bool):Option Bool:=
 match op with
 |.eql=>some (a==b)
 |.neq=>some (!(a==b))
 |_=>none
def isBool(P:Program)(t:TypeId):Bool:=match P.underlying t with|some .bool=>true|_=>false
theorem aj.bc{op:BinOp}{xt yt:TypeId}{x y:Operand}{p q b:Bool}(ht:isBool P xt=true)(hx:ev T x=some (.bool p))(hy:ev T y=some (.bool q))(h:CG op p q=some b)
  (hr:aj P ops c os (bf T dst (.bool b)) H sps T' H'):aj P ops c (⟨dst,.binOp op xt x y yt,ty,pos,aft,none⟩::os) T H (ps [(x,.bool p),(y,.bool q)] (.bool b)::sps) T' H':=
 .pure [(x,.bool p),(y,.bool q)] rfl (two hx hy) (iO rfl) (fun ε w S a ha=>by
  have h1:a.eval x=.bool p:=ha (x,.bool p) (by simp);have h2:a.eval y=.bool q:=ha (y,.bool q) (by simp);have hu:P.underlying xt=some .bool:=by unfold isBool at ht;split at ht<;>first|assumption|cases ht
  have he:(Op.equal xt (.bool p) (.bool q)).run P w=.ok (p==q) w:=by
   simp only[Op.equal,Op.maxDepth];exact run_equalIn_bool w 9999 p q hu
  refine⟨.bool b,?_,rfl⟩;simp only[execOp,h1,h2,eqGuard_at_bool,Sem.run_bind,Sem.run_pure,Result.andThen_ok];cases op<;>simp only[CG]at h<;>cases h<;>simp[binOp,he]) hr
theorem aj.not{xt:TypeId}{x:Operand}{p:Bool}(hx:ev T x=some (.bool p))(hr:aj P ops c os (bf T dst (.bool (!p))) H sps T' H'):
  aj P ops c (⟨dst,.unOp .not xt x,ty,pos,aft,none⟩::os) T H (ps [(x,.bool p)] (.bool (!p))::sps) T' H':=
 .pure [(x,.bool p)] rfl (by simpa using hx) (iO rfl) (fun ε w S a ha=>by
  have h1:a.eval x=.bool p:=ha (x,.bool p) (by simp);exact⟨_,by simp only[execOp,h1,Op.unary,Sem.run_bind,Sem.run_pure,Result.andThen_ok],rfl⟩) hr
theorem aj.neg{xt:TypeId}{x:Operand}{k:IntKind}{n r:Int}(hx:ev T x=some (.int k n))(h:k.wrap (0-n)=r)(hr:aj P ops c os (bf T dst (.int k r)) H sps T' H'):
  aj P ops c (⟨dst,.unOp .neg xt x,ty,pos,aft,none⟩::os) T H (ps [(x,.int k n)] (.int k r)::sps) T' H':=
 .pure [(x,.int k n)] rfl (by simpa using hx) (iO rfl) (fun ε w S a ha=>by
  have h1:a.eval x=.int k n:=ha (x,.int k n) (by simp);subst h;exact⟨_,by simp only[execOp,h1,Op.unary,Op.intArith,Sem.run_bind,Sem.run_pure,Result.andThen_ok],rfl⟩) hr
def wY(P:Program)(s d:TypeId):Option IntKind:=
 match P.underlying s,P.underlying d with
 |some _,some (.int k)=>some k
 |_,_=>none
theorem aj.cv{s d:TypeId}{x:Operand}{k k':IntKind}{n r:Int}(hx:ev T x=some (.int k n))(ht:wY P s d=some k')(h:k'.wrap n=r)(hr:aj P ops c os (bf T dst (.int k' r)) H sps T' H'):
  aj P ops c (⟨dst,.convert s d x,ty,pos,aft,none⟩::os) T H (ps [(x,.int k n)] (.int k' r)::sps) T' H':=
 .pure [(x,.int k n)] rfl (by simpa using hx) (iO rfl) (fun ε w S a ha=>by
  have h1:a.eval x=.int k n:=ha (x,.int k n) (by simp);subst h;unfold wY at ht
  split at ht<;>cases ht
  rename_i u hs hd;exact⟨_,by simp only[execOp,h1,convert,run_underlying hs,run_underlying hd,Conv.intToInt,Sem.run_bind,Sem.run_pure,Result.andThen_ok],rfl⟩) hr
theorem aj.B2{z x y:Operand}{d:D}(hz:ev T z=some (.bool true))(hx:ev T x=some d)(hr:aj P ops c os (bf T dst d) H sps T' H'):
  aj P ops c (⟨dst,.pick z x y,ty,pos,aft,none⟩::os) T H (ps [(z,.bool true),(x,d)] d::sps) T' H':=
 .pure [(z,.bool true),(x,d)] rfl (two hz hx) (fun r hr=>⟨(x,d),by simp,hr⟩) (fun ε w S a ha=>by
  have h1:a.eval z=.bool true:=ha (z,.bool true) (by simp);exact⟨a.eval x,by simp[execOp,h1,asBool],ha (x,d) (by simp)⟩) hr
theorem aj.CL{z x y:Operand}{d:D}(hz:ev T z=some (.bool false))(hy:ev T y=some d)(hr:aj P ops c os (bf T dst d) H sps T' H'):
  aj P ops c (⟨dst,.pick z x y,ty,pos,aft,none⟩::os) T H (ps [(z,.bool false),(y,d)] d::sps) T' H':=
 .pure [(z,.bool false),(y,d)] rfl (two hz hy) (fun r hr=>⟨(y,d),by simp,hr⟩) (fun ε w S a ha=>by
  have h1:a.eval z=.bool false:=ha (z,.bool false) (by simp);exact⟨a.eval y,by simp[execOp,h1,asBool],ha (y,d) (by simp)⟩) hr
def gs(g:Nat)(b:Bool)(sp:Spec):Spec:={sp with ins:=(g,.bool b)::sp.ins}
theorem uu{g j:Nat}{b:Bool}{a:Act}(hj:(ops[j]?).bind (·.dst)=some g)(hsz:g<a.tmps.size)(hv:a.tmps.getD g undef=.bool b):yielded ops a.tmps j=some b:=by
 unfold yielded;simp only[hj,Option.bind_some];have:a.tmps[g]?=some (.bool b):=by
  rw[Array.getElem?_eq_getElem hsz];have h2:a.tmps.getD g undef=a.tmps[g]:=by simp[Array.getD,hsz]
  rw[h2]at hv;rw[hv]
 rw[this]
theorem aj.gY{op:Op}{j g:Nat}{b want:Bool}{sp:Spec}(hj:(ops[j]?).bind (·.dst)=some g)(hlt:Nat.blt g c.n=true)(hg:aO T g=some (.bool b))(hb:(b==want)=true)
  (hr:aj P ops c (⟨dst,op,ty,pos,aft,none⟩::os) T H (sp::sps) T' H'):aj P ops c (⟨dst,op,ty,pos,aft,some (j,want)⟩::os) T H (gs g b sp::sps) T' H':=by
 cases hr with
 |cons hs hi hh hn hr=>
  refine .cons (sp:=gs g b sp) ?_ ⟨hg,hi⟩ hh hn hr;intro hd T0 H0 hi hh hn a w hsat Q K hK;obtain⟨ε,φ,hs'⟩:=hsat;have hy:yielded ops a.tmps j=some b:=uu hj (by rw[hs'.sz];simpa using hlt) (hs'.t g _ hi.1);have hw:Region.wanted (⟨dst,op,ty,pos,aft,some (j,want)⟩:Oper) (yielded ops a.tmps)=true:=by
   have:=beq_iff_eq.1 hb;simp[Region.wanted,hy,this]
  rw[if_pos hw];have:=hs hd T0 H0 hi.2 hh hn a w ⟨ε,φ,hs'⟩ Q K hK;rw[if_pos (a_ rfl _)]at this;exact this
theorem aj.gN{op:Op}{j g:Nat}{b want:Bool}(hj:(ops[j]?).bind (·.dst)=some g)(hlt:Nat.blt g c.n=true)(hg:aO T g=some (.bool b))(hb:(b==want)=false)
  (hr:aj P ops c os (bf T dst .any) H sps T' H'):aj P ops c (⟨dst,op,ty,pos,aft,some (j,want)⟩::os) T H (gs g b (ps [] .any)::sps) T' H':=by
 refine .cons (sp:=gs g b (ps [] .any)) ?_ ⟨hg,trivial⟩ trivial trivial hr;intro hd T0 H0 hi hh hn a w hsat Q K hK;obtain⟨ε,φ,hs'⟩:=hsat;have hy:yielded ops a.tmps j=some b:=uu hj (by rw[hs'.sz];simpa using hlt) (hs'.t g _ hi.1);have hw:¬Region.wanted (⟨dst,op,ty,pos,aft,some (j,want)⟩:Oper) (yielded ops a.tmps)=true:=by
  have:b≠want:=by intro e;subst e;simp at hb
  simp[Region.wanted,hy,this]
 rw[if_neg hw];exact hK _ _ ⟨ε,φ,hs'.put (d:=.any) (cG hd) trivial (fun _ h=>by cases h)⟩
end
section
variable {P:Program} {c:Ctx} {T T':List (Nat×D)} {H H':List (Nat×Hp)} {Q:Exit->Act->World->Prop} {x y z:Code}
theorem Ok.cT{o:Operand}(h:ev T o=some (.bool true))(k:Ok P c T H x Q):Ok P c T H (.cond o x y) Q:=by
 intro a w hs;obtain⟨ε,φ,hs'⟩:=hs;exact wp_cond_true (hs'.ev (aA h).1 (aA h).2).1 (k a w ⟨ε,φ,hs'⟩)
theorem Ok.cF{o:Operand}(h:ev T o=some (.bool false))(k:Ok P c T H y Q):Ok P c T H (.cond o x y) Q:=by
 intro a w hs;obtain⟨ε,φ,hs'⟩:=hs;exact wp_cond_false (hs'.ev (aA h).1 (aA h).2).1 (k a w ⟨ε,φ,hs'⟩)
theorem Ok.skip(h:∀a w,Sat c (aO T) (ai H) a w->Q .normal a w):Ok P c T H .skip Q:=fun a w hs=>wp_skip (h a w hs)
theorem Ok.exit{id:Nat}(h:∀a w,Sat c (aO T) (ai H) a w->Q (.exit id) a w):Ok P c T H (.exit id) Q:=fun a w hs=>wp_exit (h a w hs)
theorem Ok.block{id:Nat}(h:Ok P c T H x (Exit.inBlock id Q)):Ok P c T H (.block id x) Q:=fun a w hs=>wp_block (h a w hs)
theorem Ok.sq(h:Ok P c T H x (Exit.then (y.wp P Q) Q)):Ok P c T H (.seq x y) Q:=fun a w hs=>wp_seq (h a w hs)
theorem Ok.on(h:Ok P c T H y Q):∀a w,Sat c (aO T) (ai H) a w->(Exit.then (y.wp P Q) Q) .normal a w:=fun a w hs=>h a w hs
theorem Ok.cut(T':List (Nat×D))(H':List (Nat×Hp))(h:Ok P c T H x (Exit.then (Sat c (aO T') (ai H')) Q))(k:Ok P c T' H' y Q):Ok P c T H (.seq x y) Q:=.seq h (fun a w hs=>k a w hs)
def AY(h h':Hp):Prop:=(∀ε w S b F,h.p ε w S b F->h'.p ε w S b F)/\∀r∈h'.nm,r∈h.nm
theorem AY.refl(h:Hp):AY h h:=⟨fun _ _ _ _ _ x=>x,fun _ x=>x⟩
def gG(T:List (Nat×D)):List (Nat×D)->Prop
 |[]=>True
 |(t,d')::l=>(∃d,aO T t=some d/\Le d d')/\gG T l
def jw(H:List (Nat×Hp)):List (Nat×Hp)->Prop
 |[]=>True
 |(t,d')::l=>(∃d,ai H t=some d/\AY d d')/\jw H l
def cp(H:List (Nat×Hp)):List Nat->Bool
 |[]=>true
 |r::l=>match ai H r with|some _=>cp H l|none=>false
def mK:List (Nat×D)->List Nat
 |[]=>[]
 |(_,d)::l=>d.nm++mK l
def iV:List (Nat×Hp)->List Nat
 |[]=>[]
 |(_,d)::l=>d.nm++iV l
theorem kN:∀{l:List (Nat×D)},gG T l->∀t d',aO l t=some d'->∃d,aO T t=some d/\Le d d'
 |[],_,t,d',h=>by cases h
 |(t0,d0)::l,hs,t,d',h=>by
  simp only[aO]at h
  cases hb:Nat.beq t t0 with
  |true=>rw[hb]at h;injection h with h;subst h;rw[Nat.eq_of_beq_eq_true hb];exact hs.1
  |false=>rw[hb]at h;exact kN hs.2 t d' h
theorem kW:∀{l:List (Nat×Hp)},jw H l->∀t d',ai l t=some d'->∃d,ai H t=some d/\AY d d'
 |[],_,t,d',h=>by cases h
 |(t0,d0)::l,hs,t,d',h=>by
  simp only[ai]at h
  cases hb:Nat.beq t t0 with
  |true=>rw[hb]at h;injection h with h;subst h;rw[Nat.eq_of_beq_eq_true hb];exact hs.1
  |false=>rw[hb]at h;exact kW hs.2 t d' h
theorem cH:∀{l:List Nat},cp H l=true->∀r∈l,ai H r≠none
 |[],_,r,h=>by cases h
 |r0::l,h,r,hr=>by
  simp only[cp]at h
  split at h
  ·rename_i y hy;rcases List.mem_cons.1 hr with rfl|hr
   ·rw[hy];simp
   ·exact cH h r hr
  ·cases h
theorem jR:∀{l:List (Nat×D)} {t:Nat} {d:D},aO l t=some d->∀r∈d.nm,r∈mK l
 |[],_,_,h,_,_=>by cases h
 |(t0,d0)::l,t,d,h,r,hr=>by
  simp only[aO]at h;simp only[mK,List.mem_append]
  cases hb:Nat.beq t t0 with
  |true=>rw[hb]at h;injection h with h;subst h;exact .inl hr
  |false=>rw[hb]at h;exact .inr (jR h r hr)
theorem m2:∀{l:List (Nat×Hp)} {t:Nat} {d:Hp},ai l t=some d->∀r∈d.nm,r∈iV l
 |[],_,_,h,_,_=>by cases h
 |(t0,d0)::l,t,d,h,r,hr=>by
  simp only[ai]at h;simp only[iV,List.mem_append]
  cases hb:Nat.beq t t0 with
  |true=>rw[hb]at h;injection h with h;subst h;exact .inl hr
  |false=>rw[hb]at h;exact .inr (m2 h r hr)
theorem Sat.sub{a:Act}{w:World}(hs:Sat c (aO T) (ai H) a w)(hT:gG T T')(hH:jw H H')(h1:cp H' (mK T')=true)(h2:cp H' (iV H')=true):Sat c (aO T') (ai H') a w:=by
 obtain⟨ε,φ,hs⟩:=hs;have live:∀r,ai H' r≠none->ai H r≠none:=by
  intro r hr
  cases hq:ai H' r with
  |none=>exact absurd hq hr
  |some y=>obtain⟨z,hz,_⟩:=kW hH r y hq;rw[hz];simp
 have hreg:∀k,ak c (ai H) φ k->k<w.heap.size->ak c (ai H') φ k/\w.heap[k]?=w.heap[k]?:=fun k hk _=>⟨⟨hk.1,fun r hr=>hk.2 r (live r hr)⟩,rfl⟩;refine⟨ε,φ,?_⟩
 constructor
 ·intro t d' ht;obtain⟨d,hd,hle⟩:=kN hT t d' ht;exact d'.mono (hle.1 _ _ _ _ (hs.t t d hd)) (fun _ _=>rfl) hreg
 ·exact fun t d' ht r hr=>cH h1 r (jR ht r hr)
 ·intro r h' hr;obtain⟨h,hh,hle⟩:=kW hH r h' hr;exact h'.mono (hle.1 _ _ _ _ _ (hs.h r h hh)) (fun _ _=>rfl) hreg (fun _ _=>rfl)
 ·exact fun r h' hr r' hr'=>cH h2 r' (m2 hr r' hr')
 ·exact fun r hr=>hs.lo r (live r hr)
 ·exact fun r r' hr hr'=>hs.dj r r' (live r hr) (live r' hr')
 ·exact hs.oL
 ·exact hs.bs
 ·exact hs.sz
 ·exact hs.df
theorem Ok.sub(T':List (Nat×D))(H':List (Nat×Hp))(hT:gG T T')(hH:jw H H')(h1:cp H' (mK T')=true)(h2:cp H' (iV H')=true)(h:Ok P c T' H' x Q):Ok P c T H x Q:=
 fun a w hs=>h a w (hs.sub hT hH h1 h2)
def pU(ρ:Nat->Nat)(d d':D):Prop:=(∀ε w S v,d.p ε w S v->d'.p (fun r=>ε (ρ r)) w S v)/\∀r∈d'.nm,ρ r∈d.nm
def rS(ρ:Nat->Nat)(h h':Hp):Prop:=(∀ε w S b F,h.p ε w S b F->h'.p (fun r=>ε (ρ r)) w S b F)/\∀r∈h'.nm,ρ r∈h.nm
theorem pU.refl{ρ:Nat->Nat}{d:D}(h:d.nm=[]):pU ρ d d:=⟨fun _ _ _ _ hp=>d.mono hp (by rw[h];intro r hr;cases hr) (fun _ hk _=>⟨hk,rfl⟩),by rw[h];intro r hr;cases hr⟩
theorem pU.ref{ρ:Nat->Nat}{r off:Nat}:pU ρ (.ref (ρ r) off) (.ref r off):=⟨fun _ _ _ _ h=>h,fun r' hr'=>by simp[D.ref]at hr'|-;rw[hr']⟩
theorem pU.own{ρ:Nat->Nat}{r:Nat}:pU ρ (.own (ρ r)) (.own r):=⟨fun _ _ _ _ h=>h,fun r' hr'=>by simp[D.own]at hr'|-;rw[hr']⟩
theorem rS.refl{ρ:Nat->Nat}{h:Hp}(e:h.nm=[]):rS ρ h h:=⟨fun _ _ _ _ _ hp=>h.mono hp (by rw[e];intro r hr;cases hr) (fun _ hk _=>⟨hk,rfl⟩) (fun _ _=>rfl),by rw[e];intro r hr;cases hr⟩
def nB(ρ:Nat->Nat)(T:List (Nat×D)):List (Nat×D)->Prop
 |[]=>True
 |(t,d')::l=>(∃d,aO T t=some d/\pU ρ d d')/\nB ρ T l
def lA(ρ:Nat->Nat)(H:List (Nat×Hp)):List (Nat×Hp)->Prop
 |[]=>True
 |(t,d')::l=>(∃d,ai H (ρ t)=some d/\rS ρ d d')/\lA ρ H l
theorem q0{ρ:Nat->Nat}:∀{l:List (Nat×D)},nB ρ T l->∀t d',aO l t=some d'->∃d,aO T t=some d/\pU ρ d d'
 |[],_,t,d',h=>by cases h
 |(t0,d0)::l,hs,t,d',h=>by
  simp only[aO]at h
  cases hb:Nat.beq t t0 with
  |true=>rw[hb]at h;injection h with h;subst h;rw[Nat.eq_of_beq_eq_true hb];exact hs.1
  |false=>rw[hb]at h;exact q0 hs.2 t d' h
theorem jS{ρ:Nat->Nat}:∀{l:List (Nat×Hp)},lA ρ H l->∀t d',ai l t=some d'->∃d,ai H (ρ t)=some d/\rS ρ d d'
 |[],_,t,d',h=>by cases h
 |(t0,d0)::l,hs,t,d',h=>by
  simp only[ai]at h
  cases hb:Nat.beq t t0 with
  |true=>rw[hb]at h;injection h with h;subst h;rw[Nat.eq_of_beq_eq_true hb];exact hs.1
  |false=>rw[hb]at h;exact jS hs.2 t d' h
def uZ(r:Nat):List Nat->Bool
 |[]=>true
 |r'::l=>match Nat.beq r r' with|true=>false|false=>uZ r l
def uS(ρ:Nat->Nat):List Nat->Bool
 |[]=>true
 |r::l=>match uZ (ρ r) (l.map ρ)with|true=>uS ρ l|false=>false
theorem pI{r:Nat}:∀{l:List Nat},uZ r l=true->r∉l
 |[],_=>by simp
 |r'::l,h=>by
  simp only[uZ]at h
  cases hb:Nat.beq r r' with
  |true=>rw[hb]at h;cases h
  |false=>
   rw[hb]at h;have:r≠r':=fun e=>by subst e;simp at hb
   intro hr;rcases List.mem_cons.1 hr with hr|hr
   ·exact this hr
   ·exact pI h hr
theorem pS{ρ:Nat->Nat}:∀{l:List Nat},uS ρ l=true->∀r r',r∈l->r'∈l->r≠r'->ρ r≠ρ r'
 |[],_,r,_,h,_,_=>by cases h
 |x::l,h,r,r',hr,hr',hne=>by
  simp only[uS]at h
  split at h
  ·rename_i hn;have hn:=pI hn;rcases List.mem_cons.1 hr with e1|e1
   ·rcases List.mem_cons.1 hr' with e2|e2
    ·exact absurd (e1.trans e2.symm) hne
    ·intro e;exact hn (List.mem_map.2 ⟨r',e2,by rw[←e,e1]⟩)
   ·rcases List.mem_cons.1 hr' with e2|e2
    ·intro e;exact hn (List.mem_map.2 ⟨r,e1,by rw[e,e2]⟩)
    ·exact pS h r r' e1 e2 hne
  ·cases h
theorem Sat.oG{a:Act}{w:World}(ρ:Nat->Nat)(hs:Sat c (aO T) (ai H) a w)(hT:nB ρ T T')(hH:lA ρ H H')(h1:cp H' (mK T')=true)(h2:cp H' (iV H')=true)(h3:uS ρ (names H')=true):Sat c (aO T') (ai H') a w:=by
 obtain⟨ε,φ,hs⟩:=hs;have live:∀r,ai H' r≠none->ai H (ρ r)≠none:=by
  intro r hr
  cases hq:ai H' r with
  |none=>exact absurd hq hr
  |some y=>obtain⟨z,hz,_⟩:=jS hH r y hq;rw[hz];simp
 have hreg:∀k,ak c (ai H) φ k->k<w.heap.size->ak c (ai H') (fun r=>φ (ρ r)) k/\w.heap[k]?=w.heap[k]?:=fun k hk _=>⟨⟨hk.1,fun r hr=>hk.2 (ρ r) (live r hr)⟩,rfl⟩;refine⟨fun r=>ε (ρ r),fun r=>φ (ρ r),?_⟩
 constructor
 ·intro t d' ht;obtain⟨d,hd,hle⟩:=q0 hT t d' ht;exact d'.mono (hle.1 _ _ _ _ (hs.t t d hd)) (fun _ _=>rfl) hreg
 ·exact fun t d' ht r hr=>cH h1 r (jR ht r hr)
 ·intro r h' hr;obtain⟨h,hh,hle⟩:=jS hH r h' hr;exact h'.mono (hle.1 _ _ _ _ _ (hs.h (ρ r) h hh)) (fun _ _=>rfl) hreg (fun _ _=>rfl)
 ·exact fun r h' hr r' hr'=>cH h2 r' (m2 hr r' hr')
 ·exact fun r hr=>hs.lo (ρ r) (live r hr)
 ·intro r r' hr hr' hne;exact hs.dj (ρ r) (ρ r') (live r hr) (live r' hr') (pS h3 r r' (bW.1 hr) (bW.1 hr') hne)
 ·exact hs.oL
 ·exact hs.bs
 ·exact hs.sz
 ·exact hs.df
theorem Ok.pz{ι:Type}(JT:ι->List (Nat×D))(JH:ι->List (Nat×Hp))(h:Ok P c T H x (Exit.then (fun a w=>∃i,Sat c (aO (JT i)) (ai (JH i)) a w) Q))(k:∀i,Ok P c (JT i) (JH i) y Q):Ok P c T H (.seq x y) Q:=
 .seq h (fun a w ⟨i,hs⟩=>k i a w hs)
theorem Sat.to{ι:Type}{JT:ι->List (Nat×D)}{JH:ι->List (Nat×Hp)}{a:Act}{w:World}(hs:Sat c (aO T) (ai H) a w)(i:ι)(hT:gG T (JT i))(hH:jw H (JH i))(h1:cp (JH i) (mK (JT i))=true)(h2:cp (JH i) (iV (JH i))=true):
  ∃i,Sat c (aO (JT i)) (ai (JH i)) a w:=⟨i,hs.sub hT hH h1 h2⟩
theorem Sat.round{ι:Type}{JT:ι->List (Nat×D)}{JH:ι->List (Nat×Hp)}{μ:ι->Nat}{m:Nat}{a:Act}{w:World}(hs:Sat c (aO T) (ai H) a w)(i:ι)(hμ:μ i<m)(hT:gG T (JT i))(hH:jw H (JH i))(h1:cp (JH i) (mK (JT i))=true)(h2:cp (JH i) (iV (JH i))=true):
  ∃i,μ i<m/\Sat c (aO (JT i)) (ai (JH i)) a w:=⟨i,hμ,hs.sub hT hH h1 h2⟩
theorem Ok.loop{ι:Type}(IT:ι->List (Nat×D))(IH:ι->List (Nat×Hp))(μ:ι->Nat)(i0:ι)(hT:gG T (IT i0))(hH:jw H (IH i0))(h1:cp (IH i0) (mK (IT i0))=true)(h2:cp (IH i0) (iV (IH i0))=true)
  (h:∀i,Ok P c (IT i) (IH i) x (Exit.then (fun a w=>∃j,μ j<μ i/\Sat c (aO (IT j)) (ai (IH j)) a w) Q)):Ok P c T H (.loop x) Q:=by
 intro a w hs b k cs;have key:∀n i a w,μ i=n->Sat c (aO (IT i)) (ai (IH i)) a w->∃e a' w',Q e a' w'/\Arrives P (lone (b.at a (.code x::.inLoop x::k)) cs w) b k cs e a' w':=by
  intro n
  induction n using Nat.strongRecOn with
  |_ n ih=>
   intro i a w hn hs;obtain⟨e,a₁,w₁,hq,harr⟩:=h i a w hs b (.inLoop x::k) cs
   cases e with
   |normal=>
    obtain⟨j,hlt,hI⟩:=hq;obtain⟨e₂,a₂,w₂,hq₂,harr₂⟩:=ih (μ j) (hn▸hlt) j a₁ w₁ rfl hI;exact⟨e₂,a₂,w₂,hq₂,.of_steps (Steps.trans harr (.one step_inLoop)) harr₂⟩
   |exit id=>exact⟨_,a₁,w₁,hq,.pass (x:=.inLoop x) rfl (fun _ _=>.inl (by simp)) harr⟩
   |goto l=>exact⟨_,a₁,w₁,hq,.pass (x:=.inLoop x) rfl (fun _ _=>.inl (by simp)) harr⟩
   |ret=>exact⟨_,a₁,w₁,hq,.pass (x:=.inLoop x) rfl (fun _ _=>.inl (by simp)) harr⟩
   |panic ch=>exact⟨_,a₁,w₁,hq,.pass (x:=.inLoop x) rfl (fun _ _=>.inl (by simp)) harr⟩
   |outgrown=>exact⟨_,a₁,w₁,hq,.pass (x:=.inLoop x) rfl (fun _ _=>.inl (by simp)) harr⟩
 obtain⟨e,a',w',hq,harr⟩:=key _ i0 a w rfl (hs.sub hT hH h1 h2);exact⟨e,a',w',hq,.of_steps (.one step_loop) harr⟩
end
theorem gG.of{T:List (Nat×D)}:∀{l:List (Nat×D)},(l.map fun x=>aO T x.1)=(l.map fun x=>some x.2)->gG T l
 |[],_=>trivial
 |(_,d)::l,h=>by
  simp only[List.map_cons,List.cons.injEq]at h;exact⟨⟨d,h.1,.refl d⟩,gG.of h.2⟩
theorem jw.of{T:List (Nat×Hp)}:∀{l:List (Nat×Hp)},(l.map fun x=>ai T x.1)=(l.map fun x=>some x.2)->jw T l
 |[],_=>trivial
 |(_,d)::l,h=>by
  simp only[List.map_cons,List.cons.injEq]at h;exact⟨⟨d,h.1,.refl d⟩,jw.of h.2⟩
theorem gG.k{T:List (Nat×D)}{t:Nat}{d:D}{l:List (Nat×D)}(h:aO T t=some d)(k:gG T l):gG T ((t,d)::l):=⟨⟨d,h,.refl d⟩,k⟩
theorem gG.p{T:List (Nat×D)}{t:Nat}{d d':D}{l:List (Nat×D)}(h:aO T t=some d)(g:Le d d')(k:gG T l):gG T ((t,d')::l):=⟨⟨d,h,g⟩,k⟩
theorem jw.k{T:List (Nat×Hp)}{t:Nat}{d:Hp}{l:List (Nat×Hp)}(h:ai T t=some d)(k:jw T l):jw T ((t,d)::l):=⟨⟨d,h,.refl d⟩,k⟩
theorem jw.p{T:List (Nat×Hp)}{t:Nat}{d d':Hp}{l:List (Nat×Hp)}(h:ai T t=some d)(g:AY d d')(k:jw T l):jw T ((t,d')::l):=⟨⟨d,h,g⟩,k⟩
theorem nB.r{ρ:Nat->Nat}{T:List (Nat×D)}{t:Nat}{d:D}{l:List (Nat×D)}(h:aO T t=some d)(g:d.nm=[])(k:nB ρ T l):nB ρ T ((t,d)::l):=⟨⟨d,h,.refl g⟩,k⟩
theorem nB.p{ρ:Nat->Nat}{T:List (Nat×D)}{t:Nat}{d d':D}{l:List (Nat×D)}(h:aO T t=some d)(g:pU ρ d d')(k:nB ρ T l):nB ρ T ((t,d')::l):=⟨⟨d,h,g⟩,k⟩
theorem lA.r{ρ:Nat->Nat}{T:List (Nat×Hp)}{t:Nat}{d:Hp}{l:List (Nat×Hp)}(h:ai T (ρ t)=some d)(g:d.nm=[])(k:lA ρ T l):lA ρ T ((t,d)::l):=⟨⟨d,h,.refl g⟩,k⟩
theorem lA.p{ρ:Nat->Nat}{T:List (Nat×Hp)}{t:Nat}{d d':Hp}{l:List (Nat×Hp)}(h:ai T (ρ t)=some d)(g:rS ρ d d')(k:lA ρ T l):lA ρ T ((t,d')::l):=⟨⟨d,h,g⟩,k⟩
end Go.Am
namespace Go.Am
open Go.RowKit
def oD(ε:Env)(w:World)(S:cl)(b o:Nat)(l:List D):Prop:=
 ∃(cs:Array Value) (ty:TypeId) (fr:Nat×Nat) (vs:List Value),w.heap[b]?=some (.cells cs ty fr)/\(∀j u,vs[j]?=some u->cs[o+j]?=some u)/\(∀u∈vs,u.oneCell'=true)/\bX ε w S l vs
theorem q_{ε ε':Env}{w w':World}{S S':cl}{b o:Nat}{l:List D}(h:oD ε w S b o l)(hb:S b)(he:∀r∈bF l,ε' r=ε r)(hS:∀k,S k->k<w.heap.size->S' k/\w'.heap[k]?=w.heap[k]?):S' b/\oD ε' w' S' b o l:=by
 obtain⟨cs,ty,fr,vs,h1,h2,h3,h4⟩:=h;have hlt:b<w.heap.size:=(Array.getElem?_eq_some_iff.1 h1).1;exact⟨(hS b hb hlt).1,cs,ty,fr,vs,(hS b hb hlt).2.trans h1,h2,h3,bN hS h4 he⟩
theorem n8{ε:Env}{w:World}{S:cl}{b o:Nat}{l:List D}(h:oD ε w S b o l)(k:Nat):oD ε w S b (o+k) (l.drop k):=by
 obtain⟨cs,ty,fr,vs,h1,h2,h3,h4⟩:=h;refine⟨cs,ty,fr,vs.drop k,h1,fun j u hj=>?_,fun u hu=>h3 u (List.mem_of_mem_drop hu),dK k h4⟩;rw[List.getElem?_drop]at hj;have:=h2 (k+j) u hj
 rwa [←Nat.add_assoc]at this
theorem nW{ε:Env}{w:World}{S:cl}{b o:Nat}{l:List D}(h:oD ε w S b o l)(k:Nat):oD ε w S b o (l.take k):=by
 obtain⟨cs,ty,fr,vs,h1,h2,h3,h4⟩:=h;refine⟨cs,ty,fr,vs.take k,h1,fun j u hj=>h2 j u ?_,fun u hu=>h3 u (List.mem_of_mem_take hu),dA k h4⟩;have hjk:j<k:=by
  have:=(List.getElem?_eq_some_iff.1 hj).1;simp at this;omega
 rwa [List.getElem?_take_of_lt hjk]at hj
theorem rX{l:List D}{k r:Nat}(h:r∈bF (l.drop k)):r∈bF l:=by
 obtain⟨d,hd,hr⟩:=bM.1 h;exact bM.2 ⟨d,List.mem_of_mem_drop hd,hr⟩
theorem sy{l:List D}{k r:Nat}(h:r∈bF (l.take k)):r∈bF l:=by
 obtain⟨d,hd,hr⟩:=bM.1 h;exact bM.2 ⟨d,List.mem_of_mem_take hd,hr⟩
theorem nk{l:List D}(h:bF l=[])(k:Nat):bF (l.drop k)=[]:=by
 cases e:bF (l.drop k)with
 |nil=>rfl
 |cons r _=>have:=rX (l:=l) (k:=k) (r:=r) (by rw[e];simp);rw[h]at this;cases this
theorem dV{l:List D}(h:bF l=[])(k:Nat):bF (l.take k)=[]:=by
 cases e:bF (l.take k)with
 |nil=>rfl
 |cons r _=>have:=sy (l:=l) (k:=k) (r:=r) (by rw[e];simp);rw[h]at this;cases this
theorem mW{l e:List D}{k m:Nat}(h:bF l=[])(he:(l.drop k).take m=e):bF e=[]:=he▸dV (nk h k) m
theorem cU{l m:List D}(h:bF l=[])(k:bF m=[]):bF (l++m)=[]:=by
 induction l with
 |nil=>exact k
 |cons d l ih=>
  simp only[bF,List.append_eq_nil_iff]at h;simp only[List.cons_append,bF,h.1,ih h.2,List.append_nil]
theorem sE{α:Type}{f:α->D}(h:∀x,(f x).nm=[]):∀l:List α,bF (l.map f)=[]
 |[]=>rfl
 |x::l=>by simp only[List.map_cons,bF,h x,sE h l,List.append_nil]
theorem ov{α:Type}{f:α->List D}(h:∀x,bF (f x)=[]):∀l:List α,bF (l.flatMap f)=[]
 |[]=>rfl
 |x::l=>by rw[List.flatMap_cons];exact cU (h x) (ov h l)
theorem uQ{l:List D}{d:D}(h:bF l=[])(k:d.nm=[]):∀i,bF (l.set i d)=[]:=by
 induction l with
 |nil=>intro i;exact h
 |cons e l ih=>
  simp only[bF,List.append_eq_nil_iff]at h;intro i
  cases i with
  |zero=>simp only[List.set_cons_zero,bF,k,h.2,List.append_nil]
  |succ i=>simp only[List.set_cons_succ,bF,h.1,ih h.2 i,List.append_nil]
theorem rK{d:D}(k:d.nm=[]):∀n,bF (List.replicate n d)=[]
 |0=>rfl
 |n+1=>by simp only[List.replicate_succ,bF,k,rK k n,List.append_nil]
namespace D
def ptr(l:List D)(hl:bF l=[]):D where
 p:=fun ε w S v=>∃b o,v=.pointer (some ⟨b,o,none⟩)/\S b/\oD ε w S b o l
 nm:=[]
 sh:=.one
 mono:=fun⟨b,o,e,hb,h⟩ _ hS=>by
  obtain⟨hb',h'⟩:=q_ h hb (by rw[hl];intro r hr;cases hr) hS;exact⟨b,o,e,hb',h'⟩
 iD:=fun⟨_,_,e,_⟩=>by subst e;rfl
def ib(n m:Nat)(l:List D)(hl:bF l=[]):D where
 p:=fun ε w S v=>∃A cap,v=.slice A n cap/\n<=cap/\l.length=n*m/\(n=0\/∃b o,A=some ⟨b,o,none⟩/\S b/\oD ε w S b o l)
 nm:=[]
 sh:=.one
 mono:=fun⟨A,cap,e,hc,hln,h⟩ _ hS=>by
  refine⟨A,cap,e,hc,hln,h.imp id ?_⟩;rintro⟨b,o,eA,hb,h⟩;obtain⟨hb',h'⟩:=q_ h hb (by rw[hl];intro r hr;cases hr) hS;exact⟨b,o,eA,hb',h'⟩
 iD:=fun⟨_,_,e,_⟩=>by subst e;rfl
end D
def sle(P:Program)(t:TypeId):Option Nat:=
 match P.underlying t with
 |some (.slice e)=>(P.info? e).map (·.size)
 |_=>none
theorem ko{P:Program}{t:TypeId}{m:Nat}(h:sle P t=some m):∃e,P.underlying t=some (.slice e)/\∀w,(sizeOf e).run P w=.ok m w:=by
 unfold sle at h
 split at h
 ·rename_i e he
  cases hi:P.info? e with
  |none=>simp[hi]at h
  |some i=>
   simp[hi]at h;exact⟨e,he,fun w=>by simp[sizeOf,typeInfo,hi,h]⟩
 ·cases h
section
variable {P:Program} {os:List Oper} {c:Ctx} {T T':List (Nat×D)} {H H':List (Nat×Hp)} {sps:List Spec}
variable {ops:Array Oper} {dst:Option Nat} {ty:TypeId} {pos:String} {aft:Array Edge}
theorem f_{t:TypeId}{m:Nat}(ht:sle P t=some m)(b o n cap:Nat)(k:IntKind)(z:Int)(h0:0<=z)(h1:z<n)(w:World):
  (Instr.indexAt t (.slice (some ⟨b,o,none⟩) n cap) (.int k z)).run P w=.ok (.pointer (some ⟨b,o+z.toNat*m,none⟩)) w:=by
 obtain⟨e,he,hs⟩:=ko ht;have hz:0<=z/\z<(n:Int):=⟨h0,h1⟩;simp[Instr.indexAt,asIntOf,run_underlying he,hs,hz,gA]
theorem aj.Cw{t:TypeId}{x y:Operand}{n m:Nat}{l:List D}{hl:bF l=[]}{k:IntKind}{z:Int}(e:List D)(hx:ev T x=some (.ib n m l hl))(hy:ev T y=some (.int k z))(ht:sle P t=some m)(h0:0<=z)(h1:z<n)
  (he:(l.drop (z.toNat*m)).take m=e)(hr:aj P ops c os (bf T dst (.ptr e (mW hl he))) H sps T' H'):
  aj P ops c (⟨dst,.indexAddr t x y,ty,pos,aft,none⟩::os) T H (ps [(x,.ib n m l hl),(y,.int k z)] (.ptr e (mW hl he))::sps) T' H':=
 .pure [(x,.ib n m l hl),(y,.int k z)] rfl (two hx hy) (iO rfl) (fun ε w S a ha=>by
  obtain⟨A,cap,h2,_,_,hl⟩:=ha (x,.ib n m l hl) (by simp);have h3:a.eval y=.int k z:=ha (y,.int k z) (by simp);dsimp only at h2;rcases hl with hl|⟨b,o,eA,hb,hl⟩
  ·omega
  ·subst eA;refine⟨_,by simp only[execOp,h2,h3,Sem.run_bind,f_ ht b o n cap k z h0 h1 w,Result.andThen_ok];rfl,b,_,rfl,hb,?_⟩;subst he;exact nW (n8 hl _) m) hr
theorem sr{l:List D}{k:Nat}{d:D}(h:l[k]?=some d):(l.drop (k*1)).take 1=[d]:=by
 rw[Nat.mul_one];obtain⟨hlt,he⟩:=List.getElem?_eq_some_iff.1 h;rw[List.drop_eq_getElem_cons hlt,he];rfl
theorem aj.nA{t:TypeId}{x y:Operand}{n:Nat}{l:List D}{hl:bF l=[]}{k:IntKind}{z:Int}{d:D}(hx:ev T x=some (.ib n 1 l hl))(hy:ev T y=some (.int k z))(ht:sle P t=some 1)(h0:0<=z)(h1:z<n)
  (he:l[z.toNat]?=some d)(hr:aj P ops c os (bf T dst (.ptr [d] (mW hl (sr he)))) H sps T' H'):
  aj P ops c (⟨dst,.indexAddr t x y,ty,pos,aft,none⟩::os) T H (ps [(x,.ib n 1 l hl),(y,.int k z)] (.ptr [d] (mW hl (sr he)))::sps) T' H':=
 .Cw [d] hx hy ht h0 h1 (sr he) hr
theorem lB{ε:Env}{w:World}{S:cl}{b o:Nat}{l:List D}(h:oD ε w S b o l):∃vs:List Value,(∀j u,vs[j]?=some u->w.cell? ⟨b,o+j,none⟩=some u)/\(∀u∈vs,u.oneCell'=true)/\bX ε w S l vs:=by
 obtain⟨cs,ty,fr,vs,h1,h2,h3,h4⟩:=h;exact⟨vs,fun j u hj=>by simpa [World.cell?,h1]using h2 j u hj,h3,h4⟩
theorem aj.iu{t:TypeId}{x:Operand}{d:D}{l:List D}{hn:bF (d::l)=[]}(hx:ev T x=some (.ptr (d::l) hn))(hl:lay P t=some none)(hr:aj P ops c os (bf T dst d) H sps T' H'):
  aj P ops c (⟨dst,.load t x,ty,pos,aft,none⟩::os) T H (ps [(x,.ptr (d::l) hn)] d::sps) T' H':=
 .pure [(x,.ptr (d::l) hn)] rfl (by simpa using hx) (iO (by simp only[bF,List.append_eq_nil_iff]at hn;exact hn.1)) (fun ε w S a ha=>by
  obtain⟨b,o,h1,_,h2⟩:=ha (x,.ptr (d::l) hn) (by simp);dsimp only at h1;obtain⟨vs,h3,_,h5⟩:=lB h2
  match vs,h5 with
  |v::vs,h5=>
   refine⟨v,?_,h5.1⟩;have:=h3 0 v rfl;rw[Nat.add_zero]at this;simp only[execOp,h1,Instr.loadAt,Instr.sureAddr,Sem.run_bind,Sem.run_pure,Result.andThen_ok,loadVar,(ij hl w).1,Bool.false_eq_true,if_false,run_load,this]) hr
theorem aj.CW{t:TypeId}{x:Operand}{n:Nat}{l:List D}{hnm:bF l=[]}(hx:ev T x=some (.ptr l hnm))(hl:lay P t=some (some n))(hn:Nat.ble n l.length=true)(hr:aj P ops c os (bf T dst (.agg (l.take n))) H sps T' H'):
  aj P ops c (⟨dst,.load t x,ty,pos,aft,none⟩::os) T H (ps [(x,.ptr l hnm)] (.agg (l.take n))::sps) T' H':=
 .pure [(x,.ptr l hnm)] rfl (by simpa using hx) (iO (dV hnm n)) (fun ε w S a ha=>by
  obtain⟨b,o,h1,_,h2⟩:=ha (x,.ptr l hnm) (by simp);dsimp only at h1;obtain⟨vs,h3,h4,h5⟩:=lB h2;have hlen:=aS h5;have hn':=Nat.le_of_ble_eq_true hn;have hq:(vs.take n).length=n:=by simp;omega
  have hld:=run_loadCells_list (P:=P) w ⟨b,o,none⟩ (vs.take n) (fun j v hv=>by
   have hj:j<n:=by have:=(List.getElem?_eq_some_iff.1 hv).1;omega
   rw[gA];rw[List.getElem?_take_of_lt hj]at hv;exact h3 j v hv)
  rw[hq]at hld;refine⟨.agg (vs.take n).toArray,?_,vs.take n,rfl,fun u hu=>h4 u (List.mem_of_mem_take hu),dA n h5⟩;simp only[execOp,h1,Instr.loadAt,Instr.sureAddr,Sem.run_bind,Sem.run_pure,Result.andThen_ok,loadVar,(dT hl w).1,(dT hl w).2,if_true,hld]) hr
def isSlice(P:Program)(t:TypeId):Bool:=match P.underlying t with|some (.slice _)=>true|_=>false
def isStr(P:Program)(t:TypeId):Bool:=match P.underlying t with|some .string=>true|_=>false
theorem mQ{t:TypeId}(h:isSlice P t=true)(A:Option Addr)(n cap:Nat)(w:World):(Builtin.len_ #[t] ty #[.slice A n cap]).run P w=.ok (.int .i64 n) w:=by
 unfold isSlice at h
 split at h<;>try cases h
 rename_i e he;simp[Builtin.len_,run_underlying he,goInt]
theorem gZ{t:TypeId}{x:Operand}(a:Act)(w:World){v:Value}(h:(Builtin.len_ #[t] ty #[a.eval x]).run P w=.ok v w):
  (execOp a.eval ⟨dst,.call {callee:=.builtin .len,args:=#[x],argTypes:=#[t]},ty,pos,aft,none⟩).run P w=.ok (.value v) w:=by
 simp only[execOp,resolve,Sem.run_bind,Sem.run_pure,Result.andThen_ok,invoke,builtin,List.map_toArray,List.map_cons,List.map_nil,h]
theorem aj.ln{t:TypeId}{x:Operand}{n m:Nat}{l:List D}{hl:bF l=[]}(hx:ev T x=some (.ib n m l hl))(ht:isSlice P t=true)(hr:aj P ops c os (bf T dst (.int .i64 n)) H sps T' H'):
  aj P ops c (⟨dst,.call {callee:=.builtin .len,args:=#[x],argTypes:=#[t]},ty,pos,aft,none⟩::os) T H (ps [(x,.ib n m l hl)] (.int .i64 n)::sps) T' H':=
 .pure [(x,.ib n m l hl)] rfl (by simpa using hx) (iO rfl) (fun ε w S a ha=>by
  obtain⟨A,cap,h1,_⟩:=ha (x,.ib n m l hl) (by simp);dsimp only at h1;exact⟨_,gZ a w (by rw[h1];exact mQ ht A n cap w),rfl⟩) hr
theorem aj.Cy{t:TypeId}{x:Operand}{s:ByteArray}(hx:ev T x=some (.str s))(ht:isStr P t=true)(hr:aj P ops c os (bf T dst (.int .i64 s.size)) H sps T' H'):
  aj P ops c (⟨dst,.call {callee:=.builtin .len,args:=#[x],argTypes:=#[t]},ty,pos,aft,none⟩::os) T H (ps [(x,.str s)] (.int .i64 s.size)::sps) T' H':=
 .pure [(x,.str s)] rfl (by simpa using hx) (iO rfl) (fun ε w S a ha=>by
  have h1:a.eval x=.string s:=ha (x,.str s) (by simp);refine⟨_,gZ a w (by
   rw[h1];unfold isStr at ht
   split at ht<;>try cases ht
   rename_i he;simp[Builtin.len_,run_underlying he,goInt]),rfl⟩) hr
def xP(d:D)(l:List D):Prop:=(∀ε w S v,d.p ε w S v->∃vs:List Value,v.cells.toList=vs/\(∀u∈vs,u.oneCell'=true)/\bX ε w S l vs)/\∀r∈bF l,r∈d.nm
theorem xP.agg(l:List D):xP (.agg l) l:=⟨fun _ _ _ _ ⟨cs,e,h1,h⟩=>⟨cs,by rw[e];simp[Value.cells],h1,h⟩,fun _ h=>h⟩
theorem xP.one{d:D}(h:d.sh=.one):xP d [d]:=⟨fun ε w S v hp=>by
 have ho:v.oneCell'=true:=by have:=d.iD hp;rw[h]at this;exact this
 exact⟨[v],by rw[nV ho],by simpa using ho,hp,trivial⟩,fun r hr=>by simpa [bF]using hr⟩
def Ay{α:Type}(l:List α)(off:Nat)(m:List α):List α:=l.take off++m++l.drop (off+m.length)
theorem wI(cells:Array Value)(off:Nat):∀(vs:List Value) (i:Nat),off+i+vs.length<=cells.size->
  ((vs.zipIdx i).foldl (fun cs (x:Value×Nat)=>cs.setIfInBounds (off+x.2) x.1) cells).toList=cells.toList.take (off+i)++vs++cells.toList.drop (off+i+vs.length):=by
 intro vs
 induction vs generalizing cells with
 |nil=>intro i _;simp
 |cons v vs ih=>
  intro i hi;simp only[List.zipIdx_cons,List.foldl_cons];rw[ih _ _ (by simp at hi|-;omega)];have e:=list_seg_step cells.toList (off+i) v vs (by simp at hi|-;omega);simpa [Array.toList_setIfInBounds,Nat.add_assoc]using e
def over(z:List D):List (Nat×Operand×D×List D)->List D
 |[]=>z
 |(o,_,_,m)::l=>over (Ay z o m) l
theorem lJ{ε:Env}{w:World}{S:cl}{a:Act}{place:Nat->Option (Nat×Nat)}:∀{parts:List (Nat×Operand)} {q:List (Nat×Operand×D×List D)} {z:List D} {cs:Array Value},
  parts.length=q.length->(∀(i:Nat) (p:Nat×Operand) (x:Nat×Operand×D×List D),parts[i]?=some p->q[i]?=some x->p.2=x.2.1/\place p.1=some (x.1,x.2.2.2.length)/\xP x.2.2.1 x.2.2.2/\x.1+x.2.2.2.length<=z.length)->
  bX ε w S z cs.toList->(∀u∈cs.toList,u.oneCell'=true)->(∀x∈q,x.2.2.1.p ε w S (a.eval x.2.1))->
  ∃cs':Array Value,Instr.fill place cs (parts.map fun(i,x)=>(i,a.eval x))=some cs'/\bX ε w S (over z q) cs'.toList/\(∀u∈cs'.toList,u.oneCell'=true)
 |[],[],z,cs,_,_,hz,h1,_=>⟨cs,rfl,hz,h1⟩
 |(i,x)::parts,(o,y,d,m)::q,z,cs,hl,h,hz,h1,hq=>by
  obtain⟨e,hp,hc,hlen⟩:=h 0 _ _ rfl rfl;simp only at e hp hc hlen;subst e;obtain⟨vs,hvs,hv1,hvm⟩:=hc.1 ε w S _ (hq (o,x,d,m) (by simp));have hml:=aS hvm;have hzl:=aS hz;have hsz:(a.eval x).cells.size=m.length:=by rw[←hml,←hvs,Array.length_toList]
  have hfit:o+vs.length<=cs.size:=by rw[hml,←Array.length_toList,hzl];exact hlen
  have hset:=wI cs o vs 0 (by simpa using hfit);simp only[Nat.add_zero]at hset;have hzip:(a.eval x).cells.zipIdx.foldl (fun cs (c,j)=>cs.setIfInBounds (o+j) c) cs=(cs.toList.take o++vs++cs.toList.drop (o+vs.length)).toArray:=by
   apply Array.ext';rw[←Array.foldl_toList,Array.toList_zipIdx,hvs];exact hset
  obtain⟨cs',hf,ha,ho⟩:=lJ (place:=place) (parts:=parts) (q:=q) (z:=Ay z o m) (cs:=(cs.toList.take o++vs++cs.toList.drop (o+vs.length)).toArray) (by simpa using hl)
   (fun k p x' hk hk'=>by
    have:=h (k+1) p x' (by simpa using hk) (by simpa using hk');refine⟨this.1,this.2.1,this.2.2.1,?_⟩;have h4:=this.2.2.2;simp only[Ay,List.length_append,List.length_take,List.length_drop];omega)
   (by
    simp only[Ay,←hml];exact bS (bS (dA o hz) hvm) (dK _ hz))
   (by
    intro u hu;simp only[List.mem_append]at hu;rcases hu with(hu|hu)|hu
    ·exact h1 u (List.mem_of_mem_take hu)
    ·exact hv1 u hu
    ·exact h1 u (List.mem_of_mem_drop hu))
   (fun x' hx'=>hq x' (by simp[hx']))
  refine⟨cs',?_,ha,ho⟩;simp only[List.map_cons,Instr.fill,hp,hsz];rw[if_neg (by simp only[hml]at hfit;simp;omega)];rw[hzip];exact hf
 |[],_::_,_,_,hl,_,_,_,_=>by simp at hl
 |_::_,[],_,_,hl,_,_,_,_=>by simp at hl
def Aj(P:Program)(t:TypeId):Option (List (Nat×Nat)):=
 match P.underlying t with
 |some (.struct fs)=>fs.toList.mapM (fun f=>(P.info? f.type).map fun i=>(f.offset,i.size))
 |_=>none
def i4(pl:List (Nat×Nat))(n:Nat):List (Nat×Operand)->List (Nat×Operand×D×List D)->Prop
 |[],[]=>True
 |(i,x)::p,(o,y,d,m)::q=>x=y/\pl[i]?=some (o,m.length)/\xP d m/\Nat.ble (o+m.length) n=true/\i4 pl n p q
 |_,_=>False
theorem jC{pl:List (Nat×Nat)}{n:Nat}:∀{p:List (Nat×Operand)} {q:List (Nat×Operand×D×List D)},i4 pl n p q->p.length=q.length/\
  ∀(i:Nat) (u:Nat×Operand) (x:Nat×Operand×D×List D),p[i]?=some u->q[i]?=some x->u.2=x.2.1/\pl[u.1]?=some (x.1,x.2.2.2.length)/\xP x.2.2.1 x.2.2.2/\x.1+x.2.2.2.length<=n
 |[],[],_=>⟨rfl,fun i u x h=>by simp at h⟩
 |(i,x)::p,(o,y,d,m)::q,h=>by
  obtain⟨h1,h2,h3,h4,h5⟩:=h;obtain⟨hl,hg⟩:=jC h5;refine⟨by simp[hl],fun k u z hk hk'=>?_⟩
  cases k with
  |zero=>simp at hk hk';subst hk;subst hk';exact⟨h1,h2,h3,Nat.le_of_ble_eq_true h4⟩
  |succ k=>exact hg k u z (by simpa using hk) (by simpa using hk')
 |[],_::_,h=>h.elim
 |_::_,[],h=>h.elim
def qs(q:List (Nat×Operand×D×List D)):List (Operand×D):=q.map fun x=>(x.2.1,x.2.2.1)
theorem zu{z m:List D}{o r:Nat}(h:r∈bF (Ay z o m)):r∈bF z\/r∈bF m:=by
 obtain⟨d,hd,hr⟩:=bM.1 h;simp only[Ay,List.mem_append]at hd;rcases hd with(hd|hd)|hd
 ·exact .inl (bM.2 ⟨d,List.mem_of_mem_take hd,hr⟩)
 ·exact .inr (bM.2 ⟨d,hd,hr⟩)
 ·exact .inl (bM.2 ⟨d,List.mem_of_mem_drop hd,hr⟩)
theorem td{r:Nat}:∀{q:List (Nat×Operand×D×List D)} {z:List D},(∀x∈q,xP x.2.2.1 x.2.2.2)->r∈bF (over z q)->r∈bF z\/∃x∈qs q,r∈x.2.nm
 |[],z,_,h=>.inl h
 |(o,x,d,m)::q,z,hc,h=>by
  rcases td (q:=q) (z:=Ay z o m) (fun y hy=>hc y (by simp[hy])) h with h|⟨y,hy,hr⟩
  ·rcases zu h with h|h
   ·exact .inl h
   ·exact .inr ⟨(x,d),by simp[qs],(hc (o,x,d,m) (by simp)).2 r h⟩
  ·exact .inr ⟨y,by simp only[qs,List.map_cons,List.mem_cons];exact .inr hy,hr⟩
theorem xx{t:TypeId}{z:List D}(h:wX P t=some z):∃v:Value,(∀w,(zeroValue t).run P w=.ok v w)/\z=v.cells.toList.map wZ/\∀u∈v.cells.toList,u.oneCell'=true:=by
 unfold wX at h
 cases hi:P.info? t with
 |none=>simp[hi]at h
 |some i=>
  cases hv:i.zero with
  |none=>simp[hi,hv]at h
  |some v=>
   simp only[hi,hv]at h
   split at h
   ·rename_i h1;injection h with h;exact⟨v,fun w=>by simp[zeroValue,typeInfo,hi,hv],h.symm,fun u hu=>Array.all_eq_true_iff_forall_mem.1 h1 u (by simpa using hu)⟩
   ·cases h
theorem aj.bd{t:TypeId}{parts:List (Nat×Operand)}{z:List D}{pl:List (Nat×Nat)}(q:List (Nat×Operand×D×List D))(hz:wX P t=some z)(hp:Aj P t=some pl)(hq:i4 pl z.length parts q)(he:∀x∈qs q,ev T x.1=some x.2)
  (hr:aj P ops c os (bf T dst (.agg (over z q))) H sps T' H'):
  aj P ops c (⟨dst,.build t parts.toArray,ty,pos,aft,none⟩::os) T H (ps (qs q) (.agg (over z q))::sps) T' H':=by
 obtain⟨v,hv,ez,h1⟩:=xx hz;obtain⟨hl,hg⟩:=jC hq;have hcl:∀x∈q,xP x.2.2.1 x.2.2.2:=by
  intro x hx;obtain⟨i,hi⟩:=List.getElem?_of_mem hx;have hil:i<parts.length:=by rw[hl];exact(List.getElem?_eq_some_iff.1 hi).1
  exact(hg i _ x (List.getElem?_eq_getElem hil) hi).2.2.1
 refine .pure (qs q) rfl he (fun r hr=>?_) (fun ε w S a ha=>?_) hr
 ·rcases td hcl (show r∈bF (over z q)from hr)with h|h
  ·rw[ez,sI]at h;cases h
  ·exact h
 ·have hz0:bX ε w S z v.cells.toList:=by rw[ez];exact iz _ _ _ _
  obtain⟨cs',hf,hA,hO⟩:=lJ (a:=a) (place:=fun i=>pl[i]?) hl (fun i u x hu hx=>by
   have:=hg i u x hu hx;exact this) hz0 h1 (fun x hx=>ha (x.2.1,x.2.2.1) (List.mem_map.2 ⟨x,hx,rfl⟩))
  refine⟨.agg cs',?_,cs'.toList,by simp,hO,hA⟩;unfold Aj at hp
  split at hp
  ·rename_i fs hu;have hf':Instr.fill (fun i=>pl[i]?) v.cells (parts.map fun x=>(x.1,a.eval x.2))=some cs':=hf;simp only[execOp,Instr.build,hv,run_underlying hu,Sem.run_bind,Result.andThen_ok];simp[Array.mapM_eq_mapM_toList,run_places w _ _ hp,hf']
  ·cases hp
end
end Go.Am
namespace Go.Am
open Go.RowKit
def noBlocks:cl:=fun _=>False
def Hp.row(m:Nat)(ty:TypeId)(l:List D)(hl:bF l=[]):Hp where
 p:=fun ε w S b F=>(l=[]/\b=.slice none 0 0/\F=noBlocks)\/
  ∃(g n cap:Nat) (cs rest:List Value),b=.slice (some ⟨g,0,none⟩) n cap/\F=only g/\w.heap[g]?=some (.cells (cs++rest).toArray ty (0,0))/\(∀u∈cs,u.oneCell'=true)/\(cs++rest).length=cap*m/\cap<=maxLen/\l.length=n*m/\bX ε w S l cs
 nm:=[]
 mono:=fun h _ hS hF=>by
  rcases h with h|⟨g,n,cap,cs,rest,h1,h2,h3,h4,h5,h8,h6,h7⟩
  ·exact .inl h
  ·exact .inr ⟨g,n,cap,cs,rest,h1,h2,(hF g (by rw[h2];rfl)).trans h3,h4,h5,h8,h6,bN hS h7 (by rw[hl];intro r hr;cases hr)⟩
def Hp.dead:Hp where
 p:=fun _ _ _ _ F=>F=noBlocks
 nm:=[]
 mono:=fun h _ _ _=>h
def mj(P:Program)(t:TypeId):Option (TypeId×Nat×Nat×List D):=
 match P.underlying t with
 |some (.slice e)=>match P.info? e with
  |some i=>match i.zero with
   |some v=>if v.cells.all (·.oneCell')&&v.cells.size==i.size&&Nat.blt 0 i.size then some (e,i.size,i.bytes,v.cells.toList.map wZ)else none
   |none=>none
  |none=>none
 |_=>none
theorem fP{P:Program}{t e:TypeId}{m b:Nat}{z:List D}(h:mj P t=some (e,m,b,z)):∃(i:TypeInfo) (v:Value),P.underlying t=some (.slice e)/\P.info? e=some i/\i.zero=some v/\i.size=m/\i.bytes=b/\z=v.cells.toList.map wZ/\(∀u∈v.cells.toList,u.oneCell'=true)/\v.cells.size=m/\0<m:=by
 unfold mj at h
 split at h<;>try cases h
 rename_i e' he
 split at h<;>try cases h
 rename_i i hi
 split at h<;>try cases h
 rename_i v hv
 split at h
 ·rename_i hc;simp only[Option.some.injEq,Prod.mk.injEq]at h;obtain⟨rfl,rfl,rfl,rfl⟩:=h;simp only[Bool.and_eq_true,beq_iff_eq,Nat.blt_eq]at hc;exact⟨i,v,he,hi,hv,rfl,rfl,rfl,fun u hu=>Array.all_eq_true_iff_forall_mem.1 hc.1.1 u (by simpa using hu),hc.1.2,hc.2⟩
 ·cases h
theorem eX{z:Array Value}{m:Nat}(hz:z.size=m)(hm:0<m):∀n,(madeCells z (n*m)).toList=(List.replicate n z.toList).flatten
 |0=>by simp[madeCells]
 |n+1=>by
  have ih:=eX hz hm n;have e:(n+1)*m=m+n*m:=by rw[Nat.succ_mul,Nat.add_comm]
  simp only[madeCells,Array.toList_map,Array.toList_range]at ih|-;rw[e,List.range_add,List.map_append,List.map_map,List.replicate_succ,List.flatten_cons,←ih]
  congr 1
  ·apply List.ext_getElem
   ·simp[hz]
   ·intro i h1 h2;simp at h1 h2;simp only[List.getElem_map,List.getElem_range,hz,Nat.mod_eq_of_lt h1,Array.getElem_toList];exact getElem!_pos z i (by simpa using h2)
  ·apply List.map_congr_left;intro i _;simp[hz]
theorem fC{ε:Env}{w:World}{S:cl}{z:List D}{vs:List Value}(h:bX ε w S z vs):∀n,bX ε w S (List.replicate n z).flatten (List.replicate n vs).flatten
 |0=>trivial
 |n+1=>by
  rw[List.replicate_succ,List.replicate_succ,List.flatten_cons,List.flatten_cons];exact bS h (fC h n)
theorem fZ{α:Type}(z:List α):∀n,(List.replicate n z).flatten.length=n*z.length
 |0=>by simp
 |n+1=>by rw[List.replicate_succ,List.flatten_cons,List.length_append,fZ z n,Nat.succ_mul,Nat.add_comm]
theorem vI{α:Type}(d:α):∀n,(List.replicate n [d]).flatten=List.replicate n d
 |0=>rfl
 |n+1=>by rw[List.replicate_succ,List.flatten_cons,vI d n,List.replicate_succ];rfl
section
variable {P:Program} {os:List Oper} {c:Ctx} {T T':List (Nat×D)} {H H':List (Nat×Hp)} {sps:List Spec}
variable {ops:Array Oper} {dst:Option Nat} {ty:TypeId} {pos:String} {aft:Array Edge}
def rws(xs:List (Operand×D))(r:Nat)(h:Hp):Spec:={ins:=xs.flatMap fun x=>dM x.1 x.2,cO:=[],out:=.own r,c_:=[(r,h)],news:=[r]}
theorem aj.CY{t e:TypeId}{r m b n:Nat}{x y:Operand}{z l:List D}{hl:bF l=[]}(hx:ev T x=some (.int .i64 n))(hy:ev T y=some (.int .i64 n))(hm:mj P t=some (e,m,b,z))(hb:b*n<=281474976710656)(hn:n<=9223372036854775807)(hf:ai H r=none)
  (he:(List.replicate n z).flatten=l)(hr:aj P ops c os ((r,.own r)::T) ((r,.row m e l hl)::H) sps T' H'):
  aj P ops c (⟨some r,.makeSlice t x y,ty,pos,aft,none⟩::os) T H (rws [(x,.int .i64 n),(y,.int .i64 n)] r (.row m e l hl)::sps) T' H':=by
 refine .cons (sp:=rws [(x,.int .i64 n),(y,.int .i64 n)] r (.row m e l hl)) ?_ (dQ (two hx hy)) trivial ⟨hf,trivial⟩ hr;intro hd T0 H0 hi _ hnew a w ⟨ε,φ,hs⟩ Q K hK;rw[if_pos (a_ rfl _)];have hxs:=cz hi;have h1:a.eval x=.int .i64 n:=(hs.ev (hxs (x,.int .i64 n) (by simp)) (aA hx).2).1;have h2:a.eval y=.int .i64 n:=(hs.ev (hxs (y,.int .i64 n) (by simp)) (aA hy).2).1;obtain⟨i,v,hu,hinf,hzv,hsz,hbz,ez,hv1,hvs,hm0⟩:=fP hm;have hb':(i.bytes:Int)*(n:Int)<=281474976710656:=by
  have h:((b*n:Nat):Int)<=281474976710656:=by omega
  rw[hbz];rwa [Int.natCast_mul]at h
 have hrun:=run_make (P:=P) w t e i v hu hinf hzv .i64 .i64 n n (by omega) (Int.le_refl _) hb' (by omega);simp only[Int.toNat_natCast,hsz]at hrun;have hex:(execOp a.eval ⟨some r,.makeSlice t x y,ty,pos,aft,none⟩).run P w=.ok (.value (.slice (some ⟨w.heap.size,0,none⟩) n n)) (w.alloc (.cells (madeCells v.cells (n*m)) e)):=by
  simp only[execOp,h1,h2,Sem.run_bind,hrun,Result.andThen_ok]
  rfl
 simp only[Oper.wp,hex,Oper.upon];have hcs:=eX hvs hm0 n;have hall:∀(ε:Env) (w:World) (S:cl),bX ε w S l (List.replicate n v.cells.toList).flatten:=by
  intro ε w S;rw[←he,ez];exact fC (iz _ _ _ _) n
 have hN:=hs.ky (x:=.row m e l hl) (b:=.slice (some ⟨w.heap.size,0,none⟩) n n) (F:=only w.heap.size) (w':=w.alloc (.cells (madeCells v.cells (n*m)) e)) (r:=r) hnew.1 ((Below.refl _ _).alloc (Nat.le_refl _) _)
  (fun k hk=>by simp only[only]at hk;subst hk;simp)
  (.inr ⟨w.heap.size,n,n,(List.replicate n v.cells.toList).flatten,[],rfl,rfl,by rw[gK,List.append_nil,←hcs],(by
   intro u hu;simp only[List.mem_flatten,List.mem_replicate]at hu;obtain⟨l',⟨_,rfl⟩,hu⟩:=hu;exact hv1 u hu),by rw[List.append_nil,fZ,Array.length_toList,hvs],by unfold maxLen;omega,by rw[←he,fZ,ez,List.length_map,Array.length_toList,hvs],hall _ _ _⟩) (fun r' hr'=>by cases hr')
 exact hK _ _ ⟨_,_,hN.put (dst:=some r) (d:=.own r) (cG hd) ⟨(aB _ _ _).symm,rfl⟩ (by simp[D.own,bG,aB])⟩
theorem aj.AM{t e:TypeId}{r b n:Nat}{x y:Operand}{z:D}(hx:ev T x=some (.int .i64 n))(hy:ev T y=some (.int .i64 n))(hm:mj P t=some (e,1,b,[z]))(hz:z.nm=[])(hb:b*n<=281474976710656)(hn:n<=9223372036854775807)(hf:ai H r=none)
  (hr:aj P ops c os ((r,.own r)::T) ((r,.row 1 e (List.replicate n z) (rK hz n))::H) sps T' H'):
  aj P ops c (⟨some r,.makeSlice t x y,ty,pos,aft,none⟩::os) T H (rws [(x,.int .i64 n),(y,.int .i64 n)] r (.row 1 e (List.replicate n z) (rK hz n))::sps) T' H':=
 .CY hx hy hm hb hn hf (vI z n) hr
def tS(xs:List (Operand×D))(r:Nat)(h:Hp)(out:D):Spec:={ins:=xs.flatMap fun x=>dM x.1 x.2,cO:=[(r,h)],out:=out,c_:=[],news:=[]}
theorem aj.ask{o:Oper}{xs:List (Operand×D)}{r:Nat}{h:Hp}{d:D}(hg:o.guard=none)(he:∀x∈xs,ev T x.1=some x.2)(hh:ai H r=some h)(hnm:∀r'∈d.nm,r'=r\/(∃x∈xs,r'∈x.2.nm))
  (hrun:∀(ε:Env) (w:World) (S:cl) (a:Act) (F:cl),(∀x∈xs,x.2.p ε w S (a.eval x.1))->h.p ε w S (ε r) F->∃v,(execOp a.eval o).run P w=.ok (.value v) w/\d.p ε w S v)
  (hr:aj P ops c os (bf T o.dst d) H sps T' H'):aj P ops c (o::os) T H (tS xs r h d::sps) T' H':=by
 refine .cons (sp:=tS xs r h d) ?_ (dQ he) ⟨hh,trivial⟩ trivial hr;intro hd T0 H0 hi cO _ a w ⟨ε,φ,hs⟩ Q K hK;rw[if_pos (a_ hg _)];have hxs:=cz hi;obtain⟨v,hv,hp⟩:=hrun ε w (ak c H0 φ) a (φ r) (fun x hx=>(hs.ev (hxs x hx) (aA (he x hx)).2).1) (hs.h r h cO.1);simp only[Oper.wp,hv,Oper.upon];refine hK _ _ ⟨ε,φ,hs.put (d:=d) (cG hd) hp (fun r' hr'=>?_)⟩;rcases hnm r' hr' with e|⟨x,hx,hrx⟩
 ·subst e;show H0 r'≠none;rw[cO.1];simp
 ·exact(hs.ev (hxs x hx) (aA (he x hx)).2).2 r' hrx
theorem aj.nG{t e:TypeId}{x y:Operand}{r n m m':Nat}{l:List D}{hl:bF l=[]}{k:IntKind}{z:Int}(hx:ev T x=some (.own r))(hy:ev T y=some (.int k z))(hh:ai H r=some (.row m e l hl))(ht:sle P t=some m)(hn:l.length=n*m')(hm':Nat.beq m m'=true)(hm:Nat.blt 0 m=true)(h0:0<=z)(h1:z<n)
  (hr:aj P ops c os (bf T dst (.ref r (z.toNat*m))) H sps T' H'):
  aj P ops c (⟨dst,.indexAddr t x y,ty,pos,aft,none⟩::os) T H (tS [(x,.own r),(y,.int k z)] r (.row m e l hl) (.ref r (z.toNat*m))::sps) T' H':=
 .ask rfl (two hx hy) hh (fun r' hr'=>.inl (by simpa [D.ref]using hr')) (fun ε w S a F ha hp=>by
  have h2:a.eval x=ε r:=(ha (x,.own r) (by simp)).1;have h3:a.eval y=.int k z:=ha (y,.int k z) (by simp);have hmm:=Nat.eq_of_beq_eq_true hm';subst hmm;have hm0:0<m:=by simpa using hm
  rcases hp with⟨h,_,_⟩|⟨g,n',cap,cs,rest,hb,_,_,_,_,_,hln,_⟩
  ·subst h;rcases Nat.mul_eq_zero.1 (show n*m=0 from hn.symm)with hn|hn<;>omega
  ·have hnn:n'=n:=by
    have:=hln.symm.trans hn;exact Nat.eq_of_mul_eq_mul_right hm0 this
   subst hnn;refine⟨.pointer (some ⟨g,z.toNat*m,none⟩),?_,?_⟩
   ·simp only[execOp,h2,hb,h3,Sem.run_bind,f_ ht g 0 n' cap k z h0 h1 w,Result.andThen_ok,Nat.zero_add]
    rfl
   ·simp[D.ref,hb,iv]) hr
theorem aj.Bl{t e:TypeId}{x:Operand}{r n m m':Nat}{l:List D}{hl:bF l=[]}(hx:ev T x=some (.own r))(hh:ai H r=some (.row m e l hl))(ht:isSlice P t=true)(hn:l.length=n*m')(hm':Nat.beq m m'=true)(hm:Nat.blt 0 m=true)
  (hr:aj P ops c os (bf T dst (.int .i64 n)) H sps T' H'):
  aj P ops c (⟨dst,.call {callee:=.builtin .len,args:=#[x],argTypes:=#[t]},ty,pos,aft,none⟩::os) T H (tS [(x,.own r)] r (.row m e l hl) (.int .i64 n)::sps) T' H':=
 .ask rfl (by simpa using hx) hh (fun r' hr'=>by cases hr') (fun ε w S a F ha hp=>by
  have h2:a.eval x=ε r:=(ha (x,.own r) (by simp)).1;have hmm:=Nat.eq_of_beq_eq_true hm';subst hmm;have hm0:0<m:=by simpa using hm
  rcases hp with⟨h,hb,_⟩|⟨g,n',cap,cs,rest,hb,_,_,_,_,_,hln,_⟩
  ·subst h;have:n=0:=by
    rcases Nat.mul_eq_zero.1 (show n*m=0 from hn.symm)with hn|hn<;>omega
   subst this;exact⟨_,gZ a w (by rw[h2,hb];exact mQ ht none 0 0 w),rfl⟩
  ·have hnn:n'=n:=Nat.eq_of_mul_eq_mul_right hm0 (hln.symm.trans hn);subst hnn;exact⟨_,gZ a w (by rw[h2,hb];exact mQ ht _ n' cap w),rfl⟩) hr
theorem aj.tY{t tb m r off:Nat}{x:Operand}{l:List D}{hl:bF l=[]}{d:D}(h:ev T x=some (.ref r off))(hh:ai H r=some (.row m tb l hl))(ht:lay P t=some none)(hd:l[off]?=some d)
  (hr:aj P ops c os (bf T dst d) H sps T' H'):aj P ops c (⟨dst,.load t x,ty,pos,aft,none⟩::os) T H (tS [(x,.ref r off)] r (.row m tb l hl) d::sps) T' H':=
 .ask rfl (by simpa using h) hh (fun r' hr'=>by
  have:r'∈bF l:=bM.2 ⟨d,List.mem_of_getElem? hd,hr'⟩;rw[hl]at this;cases this) (fun ε w S a F ha hp=>by
  have h2:a.eval x=.pointer (some ⟨iv (ε r),off,none⟩):=ha (x,.ref r off) (by simp);rcases hp with⟨h,_,_⟩|⟨g,n',cap,cs,rest,hb,_,hg,_,_,_,_,hc⟩
  ·subst h;simp at hd
  ·obtain⟨v,hv,hp⟩:=gF hc hd;have hlt:=(List.getElem?_eq_some_iff.1 hv).1;refine⟨v,?_,hp⟩;rw[hb]at h2;simp only[execOp,h2,iv,Instr.loadAt,Instr.sureAddr,Sem.run_bind,Sem.run_pure,Result.andThen_ok,loadVar,(ij ht w).1,Bool.false_eq_true,if_false,run_load,fO hg,List.getElem?_append_left hlt,hv]) hr
theorem aj.Da{t tb m r off n:Nat}{x:Operand}{l e:List D}{hl:bF l=[]}(h:ev T x=some (.ref r off))(hh:ai H r=some (.row m tb l hl))(ht:lay P t=some (some n))(hn:off+n<=l.length)(he:(l.drop off).take n=e)
  (hr:aj P ops c os (bf T dst (.agg e)) H sps T' H'):aj P ops c (⟨dst,.load t x,ty,pos,aft,none⟩::os) T H (tS [(x,.ref r off)] r (.row m tb l hl) (.agg e)::sps) T' H':=
 .ask rfl (by simpa using h) hh (fun r' hr'=>by
  have:bF e=[]:=mW hl he;rw[show(D.agg e).nm=bF e from rfl,this]at hr';cases hr') (fun ε w S a F ha hp=>by
  have h2:a.eval x=.pointer (some ⟨iv (ε r),off,none⟩):=ha (x,.ref r off) (by simp);subst he;rcases hp with⟨h,hb,_⟩|⟨g,n',cap,cs,rest,hb,_,hg,h1,_,_,_,hc⟩
  ·subst h;simp at hn;have e0:n=0:=by omega
   subst e0;refine⟨.agg #[],?_,[],rfl,(fun u hu=>by cases hu),by simp[bX]⟩;simp only[execOp,h2,Instr.loadAt,Instr.sureAddr,Sem.run_bind,Sem.run_pure,Result.andThen_ok,loadVar,(dT ht w).1,(dT ht w).2,if_true,loadCells,loadCellsFrom]
  ·have hlen:=aS hc;have hq:((cs.drop off).take n).length=n:=by simp;omega
   rw[hb]at h2;have hld:=run_loadCells_list (P:=P) w ⟨g,off,none⟩ ((cs.drop off).take n) (fun j v hv=>by
    have hj:j<n:=by have:=(List.getElem?_eq_some_iff.1 hv).1;omega
    rw[gA,fO hg];rw[List.getElem?_take_of_lt hj,List.getElem?_drop]at hv;rw[List.getElem?_append_left (List.getElem?_eq_some_iff.1 hv).1];exact hv)
   rw[hq]at hld;refine⟨.agg ((cs.drop off).take n).toArray,?_,(cs.drop off).take n,rfl,fun u hu=>h1 u (List.mem_of_mem_drop (List.mem_of_mem_take hu)),dA n (dK off hc)⟩;simp only[execOp,h2,iv,Instr.loadAt,Instr.sureAddr,Sem.run_bind,Sem.run_pure,Result.andThen_ok,loadVar,(dT ht w).1,(dT ht w).2,if_true,hld]) hr
theorem aj.CA{t tb m' r off n:Nat}{x y:Operand}{l l' m:List D}{hl:bF l=[]}{hl':bF l'=[]}{e:D}(h:ev T x=some (.ref r off))(hy:ev T y=some e)(hh:ai H r=some (.row m' tb l hl))
  (hsz:∀w,(sizeOf t).run P w=.ok n w)(hn:off+n<=l.length)(hn0:0<n)(hc:xP e m)(hml:m.length=n)(hle:l.take off++m++l.drop (off+n)=l')
  (hr:aj P ops c os (bf T dst .any) ((r,.row m' tb l' hl')::H) sps T' H'):
  aj P ops c (⟨dst,.store t x y,ty,pos,aft,none⟩::os) T H (ws x (.ref r off) y e r (.row m' tb l hl) (.row m' tb l' hl')::sps) T' H':=by
 refine .cons (sp:=ws x (.ref r off) y e r (.row m' tb l hl) (.row m' tb l' hl')) ?_ (aV.2 ⟨(aA h).1,(aA hy).1⟩) ⟨hh,trivial⟩ trivial hr;intro hdst T0 H0 hi cO _ a w ⟨ε,φ,hs⟩ Q K hK;rw[if_pos (a_ rfl _)];obtain⟨hi1,hi2⟩:=aV.1 hi;have hx:a.eval x=.pointer (some ⟨iv (ε r),off,none⟩):=(hs.ev hi1 (aA h).2).1;obtain⟨hp,_⟩:=hs.ev hi2 (aA hy).2;obtain⟨vs,hvs,hv1,hvm⟩:=hc.1 ε w _ _ hp;have hvl:vs.length=n:=by rw[aS hvm,hml]
 rcases hs.h r _ cO.1 with⟨e0,_,_⟩|⟨g,n',cap,cs,rest,hb,eF,hg,h1,hcap,hmax,hln,hcs⟩
 ·subst e0;simp at hn;omega
 ·have hlen:=aS hcs;rw[hb]at hx;simp only[iv]at hx;have hst:=run_storeCells_at (P:=P) g off tb vs 0 (cs++rest).toArray w hg (by simp;omega) hv1;simp only[Nat.add_zero,hvl]at hst;have hsplit:(cs++rest).take off++vs++(cs++rest).drop (off+n)=(cs.take off++vs++cs.drop (off+n))++rest:=by
   rw[List.take_append_of_le_length (by omega),List.drop_append_of_le_length (by omega)];simp[List.append_assoc]
  have hrun:(execOp a.eval ⟨dst,.store t x y,ty,pos,aft,none⟩).run P w=.ok .skip (w.setRow g ((cs.take off++vs++cs.drop (off+n))++rest).toArray):=by
   have hsize:(a.eval y).cells.size=n:=by rw[←hvl,←hvs,Array.length_toList]
   rw[←hsplit];simp only[execOp,Instr.storeAt,hx,Instr.sureAddr,Sem.run_bind,Sem.run_pure,Result.andThen_ok,storeVar,hsz w,hsize,ne_eq,not_true_eq_false,if_false,hvs,hst]
  simp only[Oper.wp,hrun,Oper.upon];have hS:=hs.pM (w':=w.setRow g ((cs.take off++vs++cs.drop (off+n))++rest).toArray) (y:=.row m' tb l' hl') cO.1 (by simp[World.setRow]) rfl rfl rfl
   (fun k hk=>eP _ _ _ _ (fun e'=>hk (by rw[eF,e'];rfl)))
   (.inr ⟨g,n',cap,cs.take off++vs++cs.drop (off+n),rest,hb,eF,setRow_heap w g (cs++rest).toArray _ tb _ hg,(by
    intro u hu;simp only[List.mem_append]at hu;rcases hu with(hu|hu)|hu
    ·exact h1 u (List.mem_of_mem_take hu)
    ·exact hv1 u hu
    ·exact h1 u (List.mem_of_mem_drop hu)),(by rw[←hcap];simp;omega),hmax,(by rw[←hle,←hln];simp;omega),by
    rw[←hle];refine bN ?_ (bS (bS (dA off hcs) hvm) (dK (off+n) hcs)) (fun _ _=>rfl);intro k hk _;exact⟨hk,eP _ _ _ _ (fun e'=>hk.2 r (by simp[cO.1]) (by rw[eF,e'];rfl))⟩⟩)
   (fun r' hr'=>by cases hr')
  exact hK _ _ ⟨ε,φ,hS.put (d:=.any) (cG hdst) trivial (fun _ h=>by cases h)⟩
theorem wy{α:Type}{l:List α}{off:Nat}(e:α)(h:off<l.length):l.take off++[e]++l.drop (off+1)=l.set off e:=by
 rw[List.set_eq_take_append_cons_drop,if_pos h];simp
theorem aj.vC{t tb m r off:Nat}{x y:Operand}{l:List D}{hl:bF l=[]}{e:D}(h:ev T x=some (.ref r off))(hy:ev T y=some e)(hh:ai H r=some (.row m tb l hl))(ht:lay P t=some none)(hsh:e.sh=.one)(hnm:e.nm=[])(hlt:off<l.length)
  (hr:aj P ops c os (bf T dst .any) ((r,.row m tb (l.set off e) (uQ hl hnm off))::H) sps T' H'):
  aj P ops c (⟨dst,.store t x y,ty,pos,aft,none⟩::os) T H (ws x (.ref r off) y e r (.row m tb l hl) (.row m tb (l.set off e) (uQ hl hnm off))::sps) T' H':=
 .CA h hy hh (fun w=>(ij ht w).2) hlt (by omega) (.one hsh) rfl (wy e hlt) hr
end
end Go.Am
namespace Go.Am
open Go.RowKit
theorem fx(H:Nat->Option Hp)(r1 r:Nat)(x1 x:Hp):bp H [(r1,x1),(r,x)]=cW (cW H r (some x)) r1 (some x1):=by
 funext k
 simp only[bp,ai,cW]
 cases h1:Nat.beq k r1 with
 |true=>simp[Nat.eq_of_beq_eq_true h1]
 |false=>
  have e1:k≠r1:=fun e=>by subst e;simp at h1
  cases h2:Nat.beq k r with
  |true=>
   have e2:=Nat.eq_of_beq_eq_true h2;subst e2;simp[e1]
  |false=>
   have e2:k≠r:=fun e=>by subst e;simp at h2
   simp[e1,e2]
section
variable {c:Ctx} {T:Nat->Option D} {H:Nat->Option Hp} {a:Act} {w w':World} {ε:Env} {φ:Nat->cl}
theorem cf.vF(h:cf c T H a w ε φ){r1 r:Nat}{x1 x:Hp}{b:Value}{F:cl}(hr1:H r1=some x1)(hr:H r=none)(hsz:w.heap.size<=w'.heap.size)(ho:w'.os=w.os)(htp:w'.tape=w.tape)(hop:w'.output=w.output)
  (hb:∀k,k<w.heap.size->¬φ r1 k->w'.heap[k]?=w.heap[k]?)(hF:∀k,F k->(φ r1 k\/w.heap.size<=k)/\k<w'.heap.size)
  (hx:x.p (cW ε r b) w' (ak c (bp H [(r1,.dead),(r,x)]) (cW (cW φ r1 noBlocks) r F)) b F)(hn:x.nm=[]):
  cf c T (bp H [(r1,.dead),(r,x)]) a w' (cW ε r b) (cW (cW φ r1 noBlocks) r F):=by
 have hne:r1≠r:=fun e=>by subst e;rw[hr]at hr1;cases hr1
 rw[fx]at hx|-;have gH:∀k,k≠r1->k≠r->cW (cW H r (some x)) r1 (some Hp.dead) k=H k:=fun k e1 e2=>by rw[aL _ _ e1,aL _ _ e2]
 have gφ:∀k,k≠r1->k≠r->cW (cW φ r1 noBlocks) r F k=φ k:=fun k e1 e2=>by rw[aL _ _ e2,aL _ _ e1]
 have φ1:cW (cW φ r1 noBlocks) r F r1=noBlocks:=by rw[aL _ _ hne,aB]
 have φr:cW (cW φ r1 noBlocks) r F r=F:=aB _ _ _;have H1:cW (cW H r (some x)) r1 (some Hp.dead) r1=some .dead:=aB _ _ _;have Hr:cW (cW H r (some x)) r1 (some Hp.dead) r=some x:=by rw[aL _ _ (Ne.symm hne),aB]
 have live:∀r',H r'≠none->r'≠r:=fun r' h' e=>h' (e▸hr);have up:∀r',H r'≠none->cW (cW H r (some x)) r1 (some Hp.dead) r'≠none:=by
  intro r' h';by_cases e:r'=r1
  ·subst e;rw[H1];simp
  ·rw[gH r' e (live r' h')];exact h'
 have hreg:∀k,ak c H φ k->k<w.heap.size->ak c (cW (cW H r (some x)) r1 (some Hp.dead)) (cW (cW φ r1 noBlocks) r F) k/\w'.heap[k]?=w.heap[k]?:=by
  intro k hk hlt;have hk1:¬φ r1 k:=hk.2 r1 (by simp[hr1]);refine⟨⟨hk.1,fun r' hr'=>?_⟩,hb k hlt hk1⟩;by_cases e1:r'=r1
  ·subst e1;rw[φ1];exact fun h=>h
  ·by_cases e2:r'=r
   ·subst e2;rw[φr];intro hf;rcases(hF k hf).1 with h|h
    ·exact hk1 h
    ·omega
   ·rw[gφ r' e1 e2];exact hk.2 r' (by rwa [gH r' e1 e2]at hr')
 constructor
 ·exact fun t d ht=>d.mono (h.t t d ht) (fun r' hr'=>aL _ _ (live r' (h.tn t d ht r' hr'))) hreg
 ·exact fun t d ht r' hr'=>up r' (h.tn t d ht r' hr')
 ·intro r' y hy;by_cases e1:r'=r1
  ·subst e1;rw[H1]at hy;injection hy with hy;subst hy;rw[φ1];rfl
  ·by_cases e2:r'=r
   ·subst e2;rw[Hr]at hy;injection hy with hy;subst hy;rw[φr,aB];exact hx
   ·rw[gH r' e1 e2]at hy;rw[gφ r' e1 e2,aL _ _ e2];exact y.mono (h.h r' y hy) (fun r2 h2=>aL _ _ (live r2 (h.hn r' y hy r2 h2))) hreg (fun k hk=>hb k (h.lo r' (by simp[hy]) k hk).2 (h.dj r' r1 (by simp[hy]) (by simp[hr1]) e1 k hk))
 ·intro r' y hy r2 h2;by_cases e1:r'=r1
  ·subst e1;rw[H1]at hy;injection hy with hy;subst hy;cases h2
  ·by_cases e2:r'=r
   ·subst e2;rw[Hr]at hy;injection hy with hy;subst hy;rw[hn]at h2;cases h2
   ·rw[gH r' e1 e2]at hy;exact up r2 (h.hn r' y hy r2 h2)
 ·intro r' hr' k hk;by_cases e1:r'=r1
  ·subst e1;rw[φ1]at hk;exact hk.elim
  ·by_cases e2:r'=r
   ·subst e2;rw[φr]at hk;have:=hF k hk;refine⟨?_,this.2⟩;rcases this.1 with h'|h'
    ·exact(h.lo r1 (by simp[hr1]) k h').1
    ·exact .inl (Nat.le_trans h.fp h')
   ·rw[gφ r' e1 e2]at hk;rw[gH r' e1 e2]at hr';have:=h.lo r' hr' k hk;exact⟨this.1,Nat.lt_of_lt_of_le this.2 hsz⟩
 ·intro ra rb ha hb' hne' k hk;by_cases a1:ra=r1
  ·subst a1;rw[φ1]at hk;exact hk.elim
  ·by_cases b1:rb=r1
   ·subst b1;rw[φ1];exact fun h=>h
   ·by_cases a2:ra=r
    ·subst a2;rw[φr]at hk;have b2:rb≠ra:=Ne.symm hne';rw[gφ rb b1 b2];rw[gH rb b1 b2]at hb';intro hkb;rcases(hF k hk).1 with h'|h'
     ·exact h.dj rb r1 hb' (by simp[hr1]) b1 k hkb h'
     ·have:=(h.lo rb hb' k hkb).2;omega
    ·rw[gφ ra a1 a2]at hk;rw[gH ra a1 a2]at ha;by_cases b2:rb=r
     ·subst b2;rw[φr];intro hkF;rcases(hF k hkF).1 with h'|h'
      ·exact h.dj ra r1 ha (by simp[hr1]) a1 k hk h'
      ·have:=(h.lo ra ha k hk).2;omega
     ·rw[gφ rb b1 b2];rw[gH rb b1 b2]at hb';exact h.dj ra rb ha hb' hne' k hk
 ·exact h.oL.trans ⟨ho,htp,hop,hsz,fun k hk hl=>hb k (Nat.lt_of_lt_of_le hk h.fp) (fun hf=>by
   rcases(h.lo r1 (by simp[hr1]) k hf).1 with h1|h1
   ·omega
   ·exact hl h1)⟩
 ·exact h.bs
 ·exact h.sz
 ·exact h.df
end
theorem cf.Br{P:Program}{c:Ctx}{T:Nat->Option D}{H:Nat->Option Hp}{a:Act}{w:World}{ε:Env}{φ:Nat->cl}(hs:cf c T H a w ε φ){t ty e:TypeId}{m bt:Nat}{z:List D}(hm:mj P t=some (e,m,bt,z))
  {r1 r n1 n2:Nat}{l1 l2 l:List D}{hl1:bF l1=[]}{hl:bF l=[]}(hr1:H r1=some (.row m e l1 hl1))(hr:H r=none)(hn1:l1.length=n1*m)(hn2:l2.length=n2*m)(hl2:bF l2=[])(he:l1++l2=l)
  {tx:TypeId}{x:Value}{vs:List Value}(hvl:vs.length=n2*m)(hv1:∀u∈vs,u.oneCell'=true)(hv:bX ε w (ak c H φ) l2 vs)
  (hN:n2=0->(Builtin.append_ #[t,tx] ty #[.slice none 0 0,x]).run P w=.ok (.slice none 0 0) w)
  (hR:∀g n' cap (cur:Array Value),w.heap[g]?=some (.cells cur e (0,0))->n'+n2<=cap->n'*m+vs.length<=cur.size->(Builtin.append_ #[t,tx] ty #[.slice (some ⟨g,0,none⟩) n' cap,x]).run P w=.ok (.slice (some ⟨g,0,none⟩) (n'+n2) cap) (w.setRow g (cur.toList.take (n'*m)++vs++cur.toList.drop (n'*m+vs.length)).toArray))
  (hG:∀(i:TypeInfo) (zv:Value),P.underlying t=some (.slice e)->P.info? e=some i->i.zero=some zv->i.size=m->i.bytes=bt->∀base sLen sCap (olds:List Value),(Builtin.firstCells i.size sLen (.slice base sLen sCap)).run P w.drew=.ok olds.toArray w.drew->sCap<sLen+n2->((sLen+n2:Nat):Int)<=9223372036854775807->Builtin.nextslicecap (sLen+n2) sCap*bt<=281474976710656->
   (Builtin.append_ #[t,tx] ty #[.slice base sLen sCap,x]).run P w=.ok (.slice (some ⟨w.heap.size,0,none⟩) (sLen+n2) (grownCap w (sLen+n2) sCap e)) (w.drew.alloc (.cells ((olds++vs).toArray++Builtin.zeroCells zv.cells (grownCap w (sLen+n2) sCap e-(sLen+n2))) e)))
  (hb:(n1+n2)*bt<=140737488355328)(hmax:n1+n2<=9223372036854775807):
  ∃v' w' ε' φ',(Builtin.append_ #[t,tx] ty #[ε r1,x]).run P w=.ok v' w'/\cf c T (bp H [(r1,.dead),(r,.row m e l hl)]) a w' ε' φ'/\ε' r=v'/\v'.oneCell'=true/\∀q,q≠r->ε' q=ε q:=by
 obtain⟨i,zv,hu,hinf,hzv,hsz,hbz,ez,hzv1,hzs,hm0⟩:=fP hm;have hlen:l.length=(n1+n2)*m:=by rw[←he,List.length_append,hn1,hn2,Nat.add_mul]
 have lo:=hs.lo r1 (by simp[hr1]);subst he
 -- a new block
 have grow:∀(xs:List Value) (cap':Nat) (rest:List Value),bX ε w (ak c H φ) l1 xs->(∀u∈xs,u.oneCell'=true)->((xs++vs)++rest).length=cap'*m->cap'<=maxLen->
   cf c T (bp H [(r1,.dead),(r,.row m e (l1++l2) hl)]) a (w.drew.alloc (.cells ((xs++vs)++rest).toArray e)) (cW ε r (.slice (some ⟨w.heap.size,0,none⟩) (n1+n2) cap')) (cW (cW φ r1 noBlocks) r (only w.heap.size)):=by
  intro xs cap' rest hxs h1 hcl hcm;have hold:∀k,k<w.heap.size->(w.drew.alloc (.cells ((xs++vs)++rest).toArray e)).heap[k]?=w.heap[k]?:=fun k hk=>Below.heap_alloc w.drew _ k hk;refine hs.vF hr1 hr (by simp) rfl rfl rfl (fun k hk _=>hold k hk) (fun k hk=>by simp only[only]at hk;subst hk;exact⟨.inr (Nat.le_refl _),by simp⟩)
   (.inr ⟨w.heap.size,n1+n2,cap',xs++vs,rest,rfl,rfl,gK w.drew _,(fun u hu=>(List.mem_append.1 hu).elim (h1 u) (hv1 u)),hcl,hcm,hlen,?_⟩) rfl
  refine bN (fun k hk hlt=>⟨⟨hk.1,fun r' hr' hf=>?_⟩,hold k hlt⟩) (bS hxs hv) (by rw[cU hl1 hl2];intro r' hr';cases hr');rw[fx]at hr';by_cases e1:r'=r1
  ·subst e1;have hne:r'≠r:=fun e=>by subst e;rw[hr]at hr1;cases hr1
   rw[aL _ _ hne,aB]at hf;exact hf
  ·by_cases e2:r'=r
   ·subst e2;rw[aB]at hf;simp only[only]at hf;omega
   ·rw[aL _ _ e2,aL _ _ e1]at hf;rw[aL _ _ e1,aL _ _ e2]at hr';exact hk.2 r' hr' hf
 have hcapge:∀old,n1+n2<=grownCap w (n1+n2) old e:=fun old=>grownCap_ge w _ old e;have hcapmax:∀old,grownCap w (n1+n2) old e<=maxLen:=fun old=>grownCap_le_maxLen w _ old e (by unfold maxLen;omega);have hrestlen:∀old,(Builtin.zeroCells zv.cells (grownCap w (n1+n2) old e-(n1+n2))).toList.length=(grownCap w (n1+n2) old e-(n1+n2))*m:=fun old=>by rw[Array.length_toList,size_zeroCells,hzs]
 rcases hs.h r1 _ hr1 with⟨e0,eb,eF⟩|⟨g,n',cap,cs,rest,eb,eF,hg,h1,hcap,hmaxc,hln,hcs⟩
 ·-- nil
  subst e0;have hn0:n1=0:=by
   rcases Nat.mul_eq_zero.1 (show n1*m=0 from hn1.symm)with h|h<;>omega
  subst hn0;by_cases h0:n2=0
  ·subst h0;have hv0:vs=[]:=List.eq_nil_of_length_eq_zero (by simpa using hvl);have hl0:l2=[]:=List.eq_nil_of_length_eq_zero (by simpa using hn2);subst hv0;subst hl0;refine⟨.slice none 0 0,w,cW ε r (.slice none 0 0),cW (cW φ r1 noBlocks) r noBlocks,?_,?_,aB _ _ _,rfl,fun q hq=>aL _ _ hq⟩
   ·rw[eb];exact hN rfl
   ·exact hs.vF hr1 hr (Nat.le_refl _) rfl rfl rfl (fun _ _ _=>rfl) (fun k hk=>hk.elim) (.inl ⟨rfl,rfl,rfl⟩) rfl
  ·have hr':=hG i zv hu hinf hzv hsz hbz none 0 0 [] (run_firstCells_none w.drew i.size 0 0 0) (by omega) (by omega) (by rw[nextslicecap_zero (by omega)];simp only[Nat.zero_add]at hb|-;omega);simp only[Nat.zero_add,List.nil_append]at hr';rw[eb];have hG':=grow [] (grownCap w (0+n2) 0 e) (Builtin.zeroCells zv.cells (grownCap w (0+n2) 0 e-(0+n2))).toList trivial (fun u hu=>by cases hu) (by
    rw[List.length_append,List.nil_append,hvl,hrestlen,←Nat.add_mul];have:=hcapge 0
    congr 1;omega) (hcapmax 0)
   simp only[Nat.zero_add,List.nil_append]at hG';refine⟨_,_,cW ε r (.slice (some ⟨w.heap.size,0,none⟩) n2 (grownCap w n2 0 e)),cW (cW φ r1 noBlocks) r (only w.heap.size),hr',?_,aB _ _ _,rfl,fun q hq=>aL _ _ hq⟩;have ecell:(vs++(Builtin.zeroCells zv.cells (grownCap w n2 0 e-n2)).toList).toArray=vs.toArray++Builtin.zeroCells zv.cells (grownCap w n2 0 e-n2):=by
    apply Array.ext';simp
   rw[ecell]at hG';exact hG'
 ·have hnn:n'=n1:=Nat.eq_of_mul_eq_mul_right hm0 (hln.symm.trans hn1);subst hnn;have hcsl:cs.length=n'*m:=by rw[aS hcs,hn1]
  rw[eb];by_cases hroom:n'+n2<=cap
  ·-- there is room
   have hsetrow:∀k,k≠g->(w.setRow g (cs++vs++(cs++rest).drop (n'*m+vs.length)).toArray).heap[k]?=w.heap[k]?:=fun k hk=>eP _ _ _ _ hk;have htk:(cs++rest).take (n'*m)=cs:=by rw[←hcsl];exact List.take_left
   have hrun:=hR g n' cap (cs++rest).toArray hg hroom (by rw[hvl,←Nat.add_mul,List.size_toArray,hcap];exact Nat.mul_le_mul_right _ hroom);simp only[htk]at hrun;refine⟨_,_,cW ε r (.slice (some ⟨g,0,none⟩) (n'+n2) cap),cW (cW φ r1 noBlocks) r (only g),hrun,?_,aB _ _ _,rfl,fun q hq=>aL _ _ hq⟩;have hgl:g<w.heap.size:=(lo g (by rw[eF];rfl)).2;refine hs.vF hr1 hr (by simp[World.setRow]) rfl rfl rfl (fun k _ hk=>hsetrow k (fun e'=>hk (by rw[eF,e'];rfl))) (fun k hk=>by simp only[only]at hk;subst hk;exact⟨.inl (by rw[eF];rfl),by simpa [World.setRow]using hgl⟩)
    (.inr ⟨g,n'+n2,cap,cs++vs,(cs++rest).drop (n'*m+vs.length),rfl,rfl,setRow_heap w g (cs++rest).toArray _ e _ hg,(fun u hu=>(List.mem_append.1 hu).elim (h1 u) (hv1 u)),?_,hmaxc,hlen,?_⟩) rfl
   ·rw[List.length_append,List.length_append,List.length_drop,hcap,hcsl,hvl];have:(n'+n2)*m<=cap*m:=Nat.mul_le_mul_right _ hroom;rw[Nat.add_mul]at this;omega
   ·refine bN (fun k hk hlt=>⟨⟨hk.1,fun r' hr' hf=>?_⟩,hsetrow k (fun e'=>hk.2 r1 (by simp[hr1]) (by rw[eF,e'];rfl))⟩) (bS hcs hv) (by rw[cU hl1 hl2];intro r' hr';cases hr');rw[fx]at hr';by_cases e1:r'=r1
    ·subst e1;have hne:r'≠r:=fun e=>by subst e;rw[hr]at hr1;cases hr1
     rw[aL _ _ hne,aB]at hf;exact hf
    ·by_cases e2:r'=r
     ·subst e2;rw[aB]at hf;exact hk.2 r1 (by simp[hr1]) (by rw[eF];exact hf)
     ·rw[aL _ _ e2,aL _ _ e1]at hf;rw[aL _ _ e1,aL _ _ e2]at hr';exact hk.2 r' hr' hf
  ·-- a new array
   have h0:n2≠0:=by
    intro h0;subst h0;have hle:n'*m<=cap*m:=by rw[←hcap,List.length_append,hcsl];omega
    have:=Nat.le_of_mul_le_mul_right hle hm0;omega
   have hr':=hG i zv hu hinf hzv hsz hbz (some ⟨g,0,none⟩) n' cap cs (run_firstCells_some w.drew i.size n' ⟨g,0,none⟩ n' cap cs (by rw[hcsl,hsz]) (fun j u hj=>by
     have h2:w.drew.heap[g]?=some (.cells (cs++rest).toArray e (0,0)):=hg;rw[gA,fO h2,Nat.zero_add];rw[List.getElem?_append_left (List.getElem?_eq_some_iff.1 hj).1];exact hj)) (by omega) (by omega) (growslice_fits (by omega) hb)
   have hG':=grow cs (grownCap w (n'+n2) cap e) (Builtin.zeroCells zv.cells (grownCap w (n'+n2) cap e-(n'+n2))).toList hcs h1 (by
    rw[List.length_append,List.length_append,hvl,hcsl,hrestlen,←Nat.add_mul,←Nat.add_mul];have:=hcapge cap
    congr 1;omega) (hcapmax cap)
   refine⟨_,_,cW ε r (.slice (some ⟨w.heap.size,0,none⟩) (n'+n2) (grownCap w (n'+n2) cap e)),cW (cW φ r1 noBlocks) r (only w.heap.size),hr',?_,aB _ _ _,rfl,fun q hq=>aL _ _ hq⟩;have ecell:((cs++vs)++(Builtin.zeroCells zv.cells (grownCap w (n'+n2) cap e-(n'+n2))).toList).toArray=(cs++vs).toArray++Builtin.zeroCells zv.cells (grownCap w (n'+n2) cap e-(n'+n2)):=by
    apply Array.ext';simp
   rw[ecell]at hG';exact hG'
theorem cf.BQ{P:Program}{c:Ctx}{T:Nat->Option D}{H:Nat->Option Hp}{a:Act}{w:World}{ε:Env}{φ:Nat->cl}(hs:cf c T H a w ε φ){t ty e:TypeId}{m bt:Nat}{z:List D}(hm:mj P t=some (e,m,bt,z))
  {r1 r n1 n2:Nat}{l1 l2 l:List D}{hl1:bF l1=[]}{hl:bF l=[]}(hr1:H r1=some (.row m e l1 hl1))(hr:H r=none)(hn1:l1.length=n1*m)(hn2:l2.length=n2*m)(hl2:bF l2=[])(he:l1++l2=l)
  {A:Option Addr}{cap2:Nat}{vs:List Value}(hA:n2=0\/∃b o,A=some ⟨b,o,none⟩/\∀j u,vs[j]?=some u->w.cell? ⟨b,o+j,none⟩=some u)(hv1:∀u∈vs,u.oneCell'=true)(hv:bX ε w (ak c H φ) l2 vs)
  (hb:(n1+n2)*bt<=140737488355328)(hmax:n1+n2<=9223372036854775807):
  ∃v' w' ε' φ',(Builtin.append_ #[t,t] ty #[ε r1,.slice A n2 cap2]).run P w=.ok v' w'/\cf c T (bp H [(r1,.dead),(r,.row m e l hl)]) a w' ε' φ'/\ε' r=v'/\v'.oneCell'=true/\∀q,q≠r->ε' q=ε q:=by
 obtain⟨i,zv,hu,hinf,hzv,hsz,hbz,ez,hzv1,hzs,hm0⟩:=fP hm;have hvl:vs.length=n2*m:=by rw[aS hv,hn2]
 have hsrc:Src P i.size t (.slice A n2 cap2) n2 vs w:=by
  rcases hA with h0|⟨b,o,eA,hcell⟩
  ·subst h0;have hv0:vs=[]:=List.eq_nil_of_length_eq_zero (by simpa using hvl);subst hv0
   cases A with
   |none=>exact .ofNil w hu cap2
   |some ad=>exact .ofSlice w hu ad 0 cap2 [] (by simp) (fun j u hj=>by simp at hj) hv1
  ·subst eA;exact .ofSlice w hu _ n2 cap2 vs (by rw[hvl,hsz]) (fun j u hj=>by rw[gA];exact hcell j u hj) hv1
 refine hs.Br (tx:=t) hm hr1 hr hn1 hn2 hl2 he hvl hv1 hv (fun h0=>?_) (fun g n' cap cur hg hroom hfit=>?_) (fun i' zv' _ hi' hz' hs' hb' base sLen sCap olds hold hg h63 hfit=>?_) hb hmax
 ·subst h0;cases A<;>simp[Builtin.append_,run_underlying hu,sizeOf,typeInfo,hinf,Builtin.lenOf,Builtin.firstCells,loadCells,loadCellsFrom]
 ·by_cases h0:n2=0
  ·subst h0;have hv0:vs=[]:=List.eq_nil_of_length_eq_zero (by simpa using hvl);subst hv0;have hself:w.setRow g (cur.toList.take (n'*m)++[]++cur.toList.drop (n'*m+([]:List Value).length)).toArray=w:=by
    rw[List.append_nil,List.length_nil,Nat.add_zero,List.take_append_drop];exact setRow_self w g _ e (0,0) hg
   rw[hself];have hroom':n'<=cap:=hroom
   cases A with
   |none=>simp[Builtin.append_,run_underlying hu,sizeOf,typeInfo,hinf,Builtin.lenOf,Builtin.firstCells,hroom',storeCells]
   |some ad=>simp[Builtin.append_,run_underlying hu,sizeOf,typeInfo,hinf,Builtin.lenOf,Builtin.firstCells,hroom',storeCells,loadCells,loadCellsFrom]
  ·obtain⟨b,o,eA,hcell⟩:=hA.resolve_left h0;subst eA;have hr':=run_append_room (P:=P) w t ty e i hu hinf g n' cap cur hg ⟨b,o,none⟩ n2 cap2 vs (by rw[hvl,hsz]) (fun j u hj=>by rw[gA];exact hcell j u hj) hv1 hroom (by rw[hsz];exact hfit);rw[hsz]at hr';exact hr'
 ·have e1:i'=i:=by rw[hinf]at hi';exact(Option.some.inj hi').symm
  subst e1;exact run_append_grow_src w t t ty e i' zv' hu hi' hz' base sLen sCap olds hold _ n2 vs hsrc hg h63 (by rw[hb'];exact hfit)
theorem cf.app{P:Program}{c:Ctx}{T:Nat->Option D}{H:Nat->Option Hp}{a:Act}{w:World}{ε:Env}{φ:Nat->cl}(hs:cf c T H a w ε φ){t ty e:TypeId}{m bt:Nat}{z:List D}(hm:mj P t=some (e,m,bt,z))
  {r1 r n1 n2:Nat}{l1 l2 l:List D}{hl1:bF l1=[]}{hl:bF l=[]}(hr1:H r1=some (.row m e l1 hl1))(hr:H r=none)(hn1:l1.length=n1*m)(hn2:l2.length=n2*m)(hl2:bF l2=[])(he:l1++l2=l)
  {A:Option Addr}{cap2:Nat}{vs:List Value}(hA:n2=0\/∃b o,A=some ⟨b,o,none⟩/\∀j u,vs[j]?=some u->w.cell? ⟨b,o+j,none⟩=some u)(hv1:∀u∈vs,u.oneCell'=true)(hv:bX ε w (ak c H φ) l2 vs)
  (hb:(n1+n2)*bt<=140737488355328)(hmax:n1+n2<=9223372036854775807):
  ∃v' w' ε' φ',(Builtin.append_ #[t,t] ty #[ε r1,.slice A n2 cap2]).run P w=.ok v' w'/\cf c T (bp H [(r1,.dead),(r,.row m e l hl)]) a w' ε' φ'/\ε' r=v'/\v'.oneCell'=true:=by
 obtain⟨v',w',ε',φ',h1,h2,h3,h4,_⟩:=hs.BQ (ty:=ty) hm hr1 hr hn1 hn2 hl2 he hA hv1 hv hb hmax (cap2:=cap2);exact⟨v',w',ε',φ',h1,h2,h3,h4⟩
end Go.Am
namespace Go.Am
open Go.RowKit
theorem vA{ε:Env}{w:World}{S:cl}{n m:Nat}{l:List D}{A:Option Addr}(hln:l.length=n*m)(h:n=0\/∃b o,A=some ⟨b,o,none⟩/\S b/\oD ε w S b o l):
  ∃vs:List Value,(n=0\/∃b o,A=some ⟨b,o,none⟩/\∀(j:Nat) u,vs[j]?=some u->w.cell? ⟨b,o+j,none⟩=some u)/\(∀u∈vs,u.oneCell'=true)/\bX ε w S l vs:=by
 rcases h with h|⟨b,o,eA,_,hl⟩
 ·subst h;have:l=[]:=List.eq_nil_of_length_eq_zero (by simpa using hln);subst this;exact⟨[],.inl rfl,fun u hu=>by(cases hu),trivial⟩
 ·obtain⟨vs,h1,h2,h3⟩:=lB hl;exact⟨vs,.inr ⟨b,o,eA,h1⟩,h2,h3⟩
section
variable {P:Program} {os:List Oper} {c:Ctx} {T T':List (Nat×D)} {H H':List (Nat×Hp)} {sps:List Spec}
variable {ops:Array Oper} {dst:Option Nat} {ty:TypeId} {pos:String} {aft:Array Edge}
theorem kh{t:TypeId}{x y:Operand}{r:Nat}(a:Act)(w w':World){v:Value}(h:(Builtin.append_ #[t,t] ty #[a.eval x,a.eval y]).run P w=.ok v w'):
  (execOp a.eval ⟨some r,.call {callee:=.builtin .append,args:=#[x,y],argTypes:=#[t,t]},ty,pos,aft,none⟩).run P w=.ok (.value v) w':=by
 simp only[execOp,resolve,Sem.run_bind,Sem.run_pure,Result.andThen_ok,invoke,builtin,List.map_toArray,List.map_cons,List.map_nil,h]
def apps(x:Operand)(dx:D)(y:Operand)(dy:D)(r1 r:Nat)(cO:List (Nat×Hp))(h:Hp):Spec:={ins:=dM x dx++dM y dy,cO:=cO,out:=.own r,c_:=[(r1,.dead),(r,h)],news:=[r]}
theorem aj.B6{t e:TypeId}{x y:Operand}{r1 r m bt n1 n2:Nat}{l1 l2 z:List D}{hl1:bF l1=[]}{hl2:bF l2=[]}(hx:ev T x=some (.own r1))(hy:ev T y=some (.ib n2 m l2 hl2))(hh:ai H r1=some (.row m e l1 hl1))(hm:mj P t=some (e,m,bt,z))(hn1:l1.length=n1*m)
  (hb:(n1+n2)*bt<=140737488355328)(hmax:n1+n2<=9223372036854775807)(hf:ai H r=none)
  (hr:aj P ops c os ((r,.own r)::T) ((r1,.dead)::(r,.row m e (l1++l2) (cU hl1 hl2))::H) sps T' H'):
  aj P ops c (⟨some r,.call {callee:=.builtin .append,args:=#[x,y],argTypes:=#[t,t]},ty,pos,aft,none⟩::os) T H
   (apps x (.own r1) y (.ib n2 m l2 hl2) r1 r [(r1,.row m e l1 hl1)] (.row m e (l1++l2) (cU hl1 hl2))::sps) T' H':=by
 refine .cons (sp:=apps x (.own r1) y (.ib n2 m l2 hl2) r1 r [(r1,.row m e l1 hl1)] (.row m e (l1++l2) (cU hl1 hl2))) ?_ (aV.2 ⟨(aA hx).1,(aA hy).1⟩) ⟨hh,trivial⟩ ⟨hf,trivial⟩ hr;intro hd T0 H0 hi cO hnew a w ⟨ε,φ,hs⟩ Q K hK;rw[if_pos (a_ rfl _)];obtain⟨hi1,hi2⟩:=aV.1 hi;have h1:a.eval x=ε r1:=(hs.ev hi1 (aA hx).2).1.1;obtain⟨A,cap2,h2,_,hln,hA⟩:=(hs.ev hi2 (aA hy).2).1;obtain⟨vs,hvA,hv1,hv⟩:=vA hln hA;obtain⟨v',w',ε',φ',hrun,hS,ev',ho⟩:=hs.app (ty:=ty) hm (r:=r) (hl:=cU hl1 hl2) cO.1 hnew.1 hn1 hln hl2 rfl hvA hv1 hv hb hmax (cap2:=cap2);have hrun':(Builtin.append_ #[t,t] ty #[a.eval x,a.eval y]).run P w=.ok v' w':=by rw[h1,h2];exact hrun
 simp only[Oper.wp,kh a w w' hrun',Oper.upon];refine hK _ _ ⟨ε',φ',hS.put (d:=.own r) (cG hd) ⟨ev'.symm,ho⟩ (fun r' hr'=>?_)⟩;have:r'=r:=by simpa [D.own]using hr'
 subst this;rw[fx];have hne:r'≠r1:=fun e=>by subst e;have:=cO.1;have h0:=hnew.1;rw[h0]at this;cases this
 rw[aL _ _ hne,aB];simp
theorem Ok.sM{x:Code}{Q:Exit->Act->World->Prop}(t r m:Nat)(e:TypeId)(ht:aO T t=some .nil)(hf:ai H r=none)(h:Ok P c ((t,.own r)::T) ((r,.row m e [] rfl)::H) x Q):Ok P c T H x Q:=by
 intro a w ⟨ε,φ,hs⟩;have hN:=hs.ky (x:=.row m e [] rfl) (b:=.slice none 0 0) (F:=noBlocks) (r:=r) hf (Below.refl _ _) (fun k hk=>hk.elim) (.inl ⟨rfl,rfl,rfl⟩) (fun r' hr'=>by cases hr');have hv:a.tmps.getD t undef=.slice none 0 0:=hs.t t _ ht;refine h a w (Sat.ext (T:=fR (aO T) (some t) (.own r)) (H:=bp (ai H) [(r,.row m e [] rfl)]) ⟨_,_,{hN with t:=?_,tn:=?_}⟩ (fun t'=>?_) (fun r'=>?_))
 ·intro t' d hd;simp only[fR]at hd
  split at hd
  ·rename_i e';subst e';injection hd with hd;subst hd;exact⟨by rw[hv,aB],by rw[hv];rfl⟩
  ·exact hN.t t' d hd
 ·intro t' d hd r' hr';simp only[fR]at hd
  split at hd
  ·injection hd with hd;subst hd;have:r'=r:=by simpa [D.own]using hr'
   subst this;rw[bG,aB];simp
  ·exact hN.tn t' d hd r' hr'
 ·rw[fX];rfl
 ·rw[bu];rfl
theorem wH{a:Act}{w:World}{ε:Env}{φ:Nat->cl}{r m:Nat}{e:TypeId}{l:List D}{hl:bF l=[]}(hs:cf c (aO T) (ai H) a w ε φ)(hh:ai H r=some (.row m e l hl)):
  cf c (aO T) (ai ((r,.dead)::H)) a w ε (cW φ r noBlocks):=by
 have hH:ai ((r,.dead)::H)=cW (ai H) r (some .dead):=by
  rw[←bG,bu];rfl
 rw[hH];have hl2:∀r',cW (ai H) r (some .dead) r'≠none↔ai H r'≠none:=by
  intro r';by_cases e':r'=r
  ·subst e';simp[aB,hh]
  ·rw[aL _ _ e']
 have hreg:∀k,ak c (ai H) φ k->k<w.heap.size->ak c (cW (ai H) r (some .dead)) (cW φ r noBlocks) k/\w.heap[k]?=w.heap[k]?:=by
  intro k hk _;refine⟨⟨hk.1,fun r' hr'=>?_⟩,rfl⟩;by_cases e':r'=r
  ·subst e';rw[aB];exact fun h=>h
  ·rw[aL _ _ e'];exact hk.2 r' ((hl2 r').1 hr')
 constructor
 ·exact fun t d ht=>d.mono (hs.t t d ht) (fun _ _=>rfl) hreg
 ·exact fun t d ht r' hr'=>(hl2 r').2 (hs.tn t d ht r' hr')
 ·intro r' y hy;by_cases e':r'=r
  ·subst e';rw[aB]at hy;injection hy with hy;subst hy;rw[aB];rfl
  ·rw[aL _ _ e']at hy;rw[aL _ _ e'];exact y.mono (hs.h r' y hy) (fun _ _=>rfl) hreg (fun _ _=>rfl)
 ·intro r' y hy r2 h2;by_cases e':r'=r
  ·subst e';rw[aB]at hy;injection hy with hy;subst hy;cases h2
  ·rw[aL _ _ e']at hy;exact(hl2 r2).2 (hs.hn r' y hy r2 h2)
 ·intro r' hr' k hk;by_cases e':r'=r
  ·subst e';rw[aB]at hk;exact hk.elim
  ·rw[aL _ _ e']at hk;exact hs.lo r' ((hl2 r').1 hr') k hk
 ·intro ra rb ha hb hne k hk;by_cases ea:ra=r
  ·subst ea;rw[aB]at hk;exact hk.elim
  ·by_cases eb:rb=r
   ·subst eb;rw[aB];exact fun h=>h
   ·rw[aL _ _ ea]at hk;rw[aL _ _ eb];exact hs.dj ra rb ((hl2 ra).1 ha) ((hl2 rb).1 hb) hne k hk
 ·exact hs.oL
 ·exact hs.bs
 ·exact hs.sz
 ·exact hs.df
theorem qm{a:Act}{w:World}{ε:Env}{φ:Nat->cl}{t:Nat}{d:D}{K:Nat->Option Hp}(hs:cf c (aO T) K a w ε φ)(hp:d.p ε w (ak c K φ) (a.tmps.getD t undef))(hn:d.nm=[]):cf c (aO ((t,d)::T)) K a w ε φ:=by
 refine{hs with t:=?_,tn:=?_}
 ·intro t' d' hd;simp only[aO]at hd
  cases hb:Nat.beq t' t with
  |true=>rw[hb]at hd;injection hd with hd;subst hd;rw[Nat.eq_of_beq_eq_true hb];exact hp
  |false=>rw[hb]at hd;exact hs.t t' d' hd
 ·intro t' d' hd r hr;simp only[aO]at hd
  cases hb:Nat.beq t' t with
  |true=>rw[hb]at hd;injection hd with hd;subst hd;rw[hn]at hr;cases hr
  |false=>rw[hb]at hd;exact hs.tn t' d' hd r hr
theorem Ok.sD{x:Code}{Q:Exit->Act->World->Prop}(t:Nat){r m m' n:Nat}{e:TypeId}{l:List D}{hl:bF l=[]}(ht:aO T t=some (.own r))(hh:ai H r=some (.row m e l hl))(hn:l.length=n*m')(hm':Nat.beq m m'=true)(hm:Nat.blt 0 m=true)
  (h:Ok P c ((t,.ib n m l hl)::T) ((r,.dead)::H) x Q):Ok P c T H x Q:=by
 intro a w ⟨ε,φ,hs⟩;have hmm:=Nat.eq_of_beq_eq_true hm';subst hmm;have hm0:0<m:=by simpa using hm
 have hv:a.tmps.getD t undef=ε r:=(hs.t t _ ht).1;refine h a w ⟨ε,cW φ r noBlocks,qm (wH hs hh) ?_ rfl⟩;rcases hs.h r _ hh with⟨e0,eb,_⟩|⟨g,n',cap,cs,rest,eb,eF,hg,h1,hcap,_,hln,hcs⟩
 ·subst e0;have:n=0:=by rcases Nat.mul_eq_zero.1 (show n*m=0 from hn.symm)with h|h<;>omega
  subst this;exact⟨none,0,by rw[hv,eb],Nat.le_refl _,hn,.inl rfl⟩
 ·have:n'=n:=Nat.eq_of_mul_eq_mul_right hm0 (hln.symm.trans hn);subst this;have hlo:=hs.lo r (by simp[hh]) g (by rw[eF];rfl);have hSg:Am.ak c (ai ((r,Hp.dead)::H)) (cW φ r noBlocks) g:=by
   refine⟨.inr hlo.1,fun r' hr'=>?_⟩;by_cases e':r'=r
   ·subst e';rw[aB];exact fun h=>h
   ·rw[aL _ _ e'];have:ai H r'≠none:=by
     have hH:ai ((r,Hp.dead)::H)=cW (ai H) r (some .dead):=by rw[←bG,bu];rfl
     rw[hH,aL _ _ e']at hr';exact hr'
    exact hs.dj r r' (by simp[hh]) this (Ne.symm e') g (by rw[eF];rfl)
  refine⟨some ⟨g,0,none⟩,cap,by rw[hv,eb],?_,hn,.inr ⟨g,0,rfl,hSg,(cs++rest).toArray,e,(0,0),cs,hg,fun j u hj=>?_,h1,?_⟩⟩
  ·have hle:n'*m<=cap*m:=by rw[←hcap,List.length_append,aS hcs,hn];omega
   exact Nat.le_of_mul_le_mul_right hle hm0
  ·rw[Nat.zero_add];simp only[List.getElem?_toArray];rw[List.getElem?_append_left (List.getElem?_eq_some_iff.1 hj).1];exact hj
  ·refine bN (fun k hk _=>⟨⟨hk.1,fun r' hr'=>?_⟩,rfl⟩) hcs (by rw[hl];intro r' hr';cases hr');by_cases e':r'=r
   ·subst e';rw[aB];exact fun h=>h
   ·rw[aL _ _ e'];refine hk.2 r' ?_;have hH:ai ((r,Hp.dead)::H)=cW (ai H) r (some .dead):=by rw[←bG,bu];rfl
    rw[hH,aL _ _ e']at hr';exact hr'
end
end Go.Am
namespace Go.Am
open Go.RowKit
theorem eh(v:Value)(k:IntKind)(z:Int)(y:Nat)(code:BoundsCode)(h0:0<=z)(h1:z<=y)(e:v=.int k z){P:Program}(w:World):(Instr.sliceBound v y code).run P w=.ok z.toNat w:=by
 subst e;have:0<=z/\z<=(y:Int):=⟨h0,h1⟩;simp[Instr.sliceBound,asIntOf,this]
section
variable {P:Program} {os:List Oper} {c:Ctx} {T T':List (Nat×D)} {H H':List (Nat×Hp)} {sps:List Spec}
variable {ops:Array Oper} {dst:Option Nat} {ty:TypeId} {pos:String} {aft:Array Edge}
theorem sn{ε:Env}{w:World}{S:cl}{n m lo hi cap cap':Nat}{l:List D}{A:Option Addr}(hln:l.length=n*m)(h:n=0\/∃b o,A=some ⟨b,o,none⟩/\S b/\oD ε w S b o l)(h1:lo<=hi)(h2:hi<=n)(h3:hi<=cap)(h4:cap'=cap-lo)
  (hcl:bF ((l.drop (lo*m)).take ((hi-lo)*m))=[]):
  (D.ib (hi-lo) m ((l.drop (lo*m)).take ((hi-lo)*m)) hcl).p ε w S (.slice (if cap=lo then A else A.map (·.add (lo*m))) (hi-lo) cap'):=by
 refine⟨_,cap',rfl,by omega,?_,?_⟩
 ·simp only[List.length_take,List.length_drop,hln];have:hi*m<=n*m:=Nat.mul_le_mul_right _ h2;have e:(hi-lo)*m=hi*m-lo*m:=Nat.sub_mul _ _ _;omega
 ·by_cases h0:hi-lo=0
  ·exact .inl h0
  ·right
   rcases h with h|⟨b,o,eA,hb,hls⟩
   ·omega
   ·subst eA;refine⟨b,o+lo*m,?_,hb,nW (n8 hls _) _⟩;rw[if_neg (by omega)];simp[gA]
theorem aj.C8{t:TypeId}{x y:Operand}{n m:Nat}{l:List D}{hl:bF l=[]}{k:IntKind}{z:Int}(hx:ev T x=some (.ib n m l hl))(hy:ev T y=some (.int k z))(ht:sle P t=some m)(h0:0<=z)(h1:z<=n)
  (hr:aj P ops c os (bf T dst (.ib (n-z.toNat) m ((l.drop (z.toNat*m)).take ((n-z.toNat)*m)) (dV (nk hl _) _))) H sps T' H'):
  aj P ops c (⟨dst,.slice t x (some y) none none,ty,pos,aft,none⟩::os) T H (ps [(x,.ib n m l hl),(y,.int k z)] (.ib (n-z.toNat) m ((l.drop (z.toNat*m)).take ((n-z.toNat)*m)) (dV (nk hl _) _))::sps) T' H':=
 .pure [(x,.ib n m l hl),(y,.int k z)] rfl (two hx hy) (iO rfl) (fun ε w S a ha=>by
  obtain⟨A,cap,h2,hc,hln,hA⟩:=ha (x,.ib n m l hl) (by simp);have h3:a.eval y=.int k z:=ha (y,.int k z) (by simp);dsimp only at h2;obtain⟨e,he,hs⟩:=ko ht;refine⟨_,?_,sn (cap':=cap-z.toNat) hln hA (by omega:z.toNat<=n) (Nat.le_refl n) hc rfl _⟩;simp only[execOp,Instr.sliceAt,run_underlying he,Sem.run_bind,Result.andThen_ok,Instr.slice,h2,Option.map_some,Option.map_none,Instr.sliceBounds,eh _ k z n _ h0 h1 h3,Sem.run_pure,hs]) hr
theorem aj.C9{t:TypeId}{x y:Operand}{n m:Nat}{l:List D}{hl:bF l=[]}{k:IntKind}{z:Int}(hx:ev T x=some (.ib n m l hl))(hy:ev T y=some (.int k z))(ht:sle P t=some m)(h0:0<=z)(h1:z<=n)
  (hr:aj P ops c os (bf T dst (.ib z.toNat m (l.take (z.toNat*m)) (dV hl _))) H sps T' H'):
  aj P ops c (⟨dst,.slice t x none (some y) none,ty,pos,aft,none⟩::os) T H (ps [(x,.ib n m l hl),(y,.int k z)] (.ib z.toNat m (l.take (z.toNat*m)) (dV hl _))::sps) T' H':=
 .pure [(x,.ib n m l hl),(y,.int k z)] rfl (two hx hy) (iO rfl) (fun ε w S a ha=>by
  obtain⟨A,cap,h2,hc,hln,hA⟩:=ha (x,.ib n m l hl) (by simp);have h3:a.eval y=.int k z:=ha (y,.int k z) (by simp);dsimp only at h2;obtain⟨e,he,hs⟩:=ko ht;have hcut:=sn (cap':=cap) (lo:=0) hln hA (Nat.zero_le z.toNat) (by omega:z.toNat<=n) (by omega) rfl (by rw[Nat.zero_mul,List.drop_zero];exact dV hl _);simp only[Nat.sub_zero,Nat.zero_mul,List.drop_zero]at hcut;refine⟨_,?_,hcut⟩;simp only[execOp,Instr.sliceAt,run_underlying he,Sem.run_bind,Result.andThen_ok,Instr.slice,h2,Option.map_some,Option.map_none,Instr.sliceBounds,eh _ k z cap _ h0 (by omega) h3,Sem.run_pure,hs,Nat.sub_zero,Nat.zero_mul]) hr
theorem aj.zT{t:TypeId}{x y u:Operand}{n m:Nat}{l:List D}{hl:bF l=[]}{k k':IntKind}{z:Int}(hx:ev T x=some (.ib n m l hl))(hy:ev T y=some (.int k z))(hu:ev T u=some (.int k' z))(ht:sle P t=some m)(h0:0<=z)(h1:z<=n)
  (hr:aj P ops c os (bf T dst (.ib z.toNat m (l.take (z.toNat*m)) (dV hl _))) H sps T' H'):
  aj P ops c (⟨dst,.slice t x none (some y) (some u),ty,pos,aft,none⟩::os) T H (ps [(x,.ib n m l hl),(y,.int k z),(u,.int k' z)] (.ib z.toNat m (l.take (z.toNat*m)) (dV hl _))::sps) T' H':=
 .pure [(x,.ib n m l hl),(y,.int k z),(u,.int k' z)] rfl (by
  intro q hq;simp only[List.mem_cons,List.not_mem_nil,or_false]at hq;rcases hq with rfl|rfl|rfl
  ·exact hx
  ·exact hy
  ·exact hu) (iO rfl) (fun ε w S a ha=>by
  obtain⟨A,cap,h2,hc,hln,hA⟩:=ha (x,.ib n m l hl) (by simp);have h3:a.eval y=.int k z:=ha (y,.int k z) (by simp);have h4:a.eval u=.int k' z:=ha (u,.int k' z) (by simp);dsimp only at h2;obtain⟨e,he,hs⟩:=ko ht;have hcut:=sn (cap':=z.toNat) (cap:=z.toNat) (lo:=0) hln hA (Nat.zero_le z.toNat) (by omega:z.toNat<=n) (by omega) rfl (by rw[Nat.zero_mul,List.drop_zero];exact dV hl _);simp only[Nat.sub_zero,Nat.zero_mul,List.drop_zero]at hcut;refine⟨_,?_,hcut⟩;simp only[execOp,Instr.sliceAt,run_underlying he,Sem.run_bind,Result.andThen_ok,Instr.slice,h2,Option.map_some,Option.map_none,Instr.sliceBounds,eh _ k' z cap _ h0 (by omega) h4,eh _ k z z.toNat _ h0 (by omega) h3,Sem.run_pure,hs,Nat.sub_zero,Nat.zero_mul]) hr
theorem aj.CX{t e:TypeId}{x y:Operand}{r n m m':Nat}{l:List D}{hl:bF l=[]}{k:IntKind}{z:Int}(hx:ev T x=some (.own r))(hy:ev T y=some (.int k z))(hh:ai H r=some (.row m e l hl))(ht:sle P t=some m)(hn:l.length=n*m')(hm':Nat.beq m m'=true)(hm:Nat.blt 0 m=true)(h0:0<=z)(h1:z<=n)(hn0:0<n)
  (hr:aj P ops c os (bf T dst (.cut r z.toNat)) H sps T' H'):
  aj P ops c (⟨dst,.slice t x none (some y) none,ty,pos,aft,none⟩::os) T H (tS [(x,.own r),(y,.int k z)] r (.row m e l hl) (.cut r z.toNat)::sps) T' H':=
 .ask rfl (two hx hy) hh (fun r' hr'=>.inl (by simpa [D.cut]using hr')) (fun ε w S a F ha hp=>by
  have h2:a.eval x=ε r:=(ha (x,.own r) (by simp)).1;have h3:a.eval y=.int k z:=ha (y,.int k z) (by simp);have hmm:=Nat.eq_of_beq_eq_true hm';subst hmm;have hm0:0<m:=by simpa using hm
  obtain⟨e',he,hs⟩:=ko ht;rcases hp with⟨h,_,_⟩|⟨g,n',cap,cs,rest,hb,_,_,_,hcap,_,hln,hcs⟩
  ·subst h;rcases Nat.mul_eq_zero.1 (show n*m=0 from hn.symm)with hn|hn<;>omega
  ·have hnn:n'=n:=Nat.eq_of_mul_eq_mul_right hm0 (hln.symm.trans hn);subst hnn;have hle:n'<=cap:=by
    have hle:n'*m<=cap*m:=by rw[←hcap,List.length_append,aS hcs,hn];omega
    exact Nat.le_of_mul_le_mul_right hle hm0
   refine⟨.slice (some ⟨g,0,none⟩) z.toNat cap,?_,cap,by rw[hb];rfl,by omega,by rw[hb];rfl⟩;simp only[execOp,Instr.sliceAt,run_underlying he,Sem.run_bind,Result.andThen_ok,Instr.slice,h2,hb,Option.map_some,Option.map_none,Instr.sliceBounds,eh _ k z cap _ h0 (by omega) h3,Sem.run_pure,hs,Nat.sub_zero,Nat.zero_mul];simp[gA]) hr
theorem mN{t:TypeId}(ht:isStr P t=true)(s:ByteArray)(lo hi:Option Value)(l h:Nat)(hh:match hi with|some v=>∃k z,v=.int k z/\0<=z/\z<=s.size/\z.toNat=h|none=>h=s.size)
  (hl:match lo with|some v=>∃k z,v=.int k z/\0<=z/\z<=h/\z.toNat=l|none=>l=0)(w:World):(Instr.sliceAt t (.string s) lo hi none).run P w=.ok (.string (s.extract l h)) w:=by
 unfold isStr at ht
 split at ht<;>try cases ht
 rename_i he
 cases hi with
 |none=>
  simp only at hh;subst hh
  cases lo with
  |none=>simp only at hl;subst hl;simp[Instr.sliceAt,run_underlying he,Instr.slice,Instr.sliceBounds]
  |some v=>
   obtain⟨k,z,rfl,h0,h1,rfl⟩:=hl;simp[Instr.sliceAt,run_underlying he,Instr.slice,Instr.sliceBounds,eh _ k z _ _ h0 h1 rfl]
 |some u=>
  obtain⟨k,z,rfl,h0,h1,rfl⟩:=hh
  cases lo with
  |none=>simp only at hl;subst hl;simp[Instr.sliceAt,run_underlying he,Instr.slice,Instr.sliceBounds,eh _ k z _ _ h0 h1 rfl]
  |some v=>
   obtain⟨k',z',rfl,h0',h1',rfl⟩:=hl;simp[Instr.sliceAt,run_underlying he,Instr.slice,Instr.sliceBounds,eh _ k z _ _ h0 h1 rfl,eh _ k' z' _ _ h0' h1' rfl]
theorem aj.CV{t:TypeId}{x y:Operand}{s:ByteArray}{k:IntKind}{z:Int}(hx:ev T x=some (.str s))(hy:ev T y=some (.int k z))(ht:isStr P t=true)(h0:0<=z)(h1:z<=s.size)
  (hr:aj P ops c os (bf T dst (.str (s.extract z.toNat s.size))) H sps T' H'):
  aj P ops c (⟨dst,.slice t x (some y) none none,ty,pos,aft,none⟩::os) T H (ps [(x,.str s),(y,.int k z)] (.str (s.extract z.toNat s.size))::sps) T' H':=
 .pure [(x,.str s),(y,.int k z)] rfl (two hx hy) (iO rfl) (fun ε w S a ha=>by
  have h2:a.eval x=.string s:=ha (x,.str s) (by simp);have h3:a.eval y=.int k z:=ha (y,.int k z) (by simp);refine⟨_,?_,rfl⟩;simp only[execOp,h2,h3,Option.map_some,Option.map_none,Sem.run_bind,mN ht s (some (.int k z)) none z.toNat s.size rfl ⟨k,z,rfl,h0,h1,rfl⟩ w,Result.andThen_ok,Sem.run_pure]) hr
theorem aj.jW{t:TypeId}{x y:Operand}{s:ByteArray}{k:IntKind}{z:Int}(hx:ev T x=some (.str s))(hy:ev T y=some (.int k z))(ht:isStr P t=true)(h0:0<=z)(h1:z<=s.size)
  (hr:aj P ops c os (bf T dst (.str (s.extract 0 z.toNat))) H sps T' H'):
  aj P ops c (⟨dst,.slice t x none (some y) none,ty,pos,aft,none⟩::os) T H (ps [(x,.str s),(y,.int k z)] (.str (s.extract 0 z.toNat))::sps) T' H':=
 .pure [(x,.str s),(y,.int k z)] rfl (two hx hy) (iO rfl) (fun ε w S a ha=>by
  have h2:a.eval x=.string s:=ha (x,.str s) (by simp);have h3:a.eval y=.int k z:=ha (y,.int k z) (by simp);refine⟨_,?_,rfl⟩;simp only[execOp,h2,h3,Option.map_some,Option.map_none,Sem.run_bind,mN ht s none (some (.int k z)) 0 z.toNat ⟨k,z,rfl,h0,h1,rfl⟩ rfl w,Result.andThen_ok,Sem.run_pure]) hr
theorem aj.Ca{t:TypeId}{x y:Operand}{s:ByteArray}{k:IntKind}{z:Int}{b:UInt8}(hx:ev T x=some (.str s))(hy:ev T y=some (.int k z))(ht:isStr P t=true)(h0:0<=z)(hb:s[z.toNat]?=some b)
  (hr:aj P ops c os (bf T dst (.int .u8 b.toNat)) H sps T' H'):
  aj P ops c (⟨dst,.index t x y,ty,pos,aft,none⟩::os) T H (ps [(x,.str s),(y,.int k z)] (.int .u8 b.toNat)::sps) T' H':=
 .pure [(x,.str s),(y,.int k z)] rfl (two hx hy) (iO rfl) (fun ε w S a ha=>by
  have h2:a.eval x=.string s:=ha (x,.str s) (by simp);have h3:a.eval y=.int k z:=ha (y,.int k z) (by simp);refine⟨_,?_,rfl⟩;unfold isStr at ht
  split at ht<;>try cases ht
  rename_i he;simp only[execOp,h2,h3,Instr.index,asIntOf,run_underlying he,Sem.run_bind,Sem.run_pure,Result.andThen_ok,h0,if_true,hb]) hr
theorem aj.grow{o:Oper}(xs:List (Operand×D)){d:D}(hg:o.guard=none)(he:∀x∈xs,ev T x.1=some x.2)(hnm:d.nm=[])
  (hrun:∀(ε:Env) (w:World) (S:cl) (a:Act),(∀x∈xs,x.2.p ε w S (a.eval x.1))->∃v w',(execOp a.eval o).run P w=.ok (.value v) w'/\Below w.heap.size w w'/\d.p ε w' (fun k=>S k\/w.heap.size<=k) v)
  (hr:aj P ops c os (bf T o.dst d) H sps T' H'):aj P ops c (o::os) T H (ps xs d::sps) T' H':=by
 refine .cons (sp:=ps xs d) ?_ (dQ he) trivial trivial hr;intro hdst T0 H0 hi _ _ a w ⟨ε,φ,hs⟩ Q K hK;rw[if_pos (a_ hg _)];have hx:=cz hi;obtain⟨v,w',hv,hb,hp⟩:=hrun ε w (Am.ak c H0 φ) a (fun x h=>(hs.ev (hx x h) (aA (he x h)).2).1);simp only[Oper.wp,hv,Oper.upon];refine hK _ _ ⟨ε,φ,(hs.grow hb).put (d:=d) (cG hdst) ?_ (by rw[hnm];intro r h;cases h)⟩;refine d.mono hp (fun _ _=>rfl) (fun k hk hlt=>⟨?_,rfl⟩);rcases hk with hk|hk
 ·exact hk
 ·exact⟨.inr (.inl (Nat.le_trans hs.fp hk)),fun r hr' hf=>by have:=(hs.lo r hr' k hf).2;omega⟩
def yU(m:Nat):Nat->Nat->List (Nat×Nat)
 |_,0=>[]
 |i,n+1=>(i*m,m)::yU m (i+1) n
theorem rT(m:Nat):∀(i n k:Nat) (x:Nat×Nat),(yU m i n)[k]?=some x->x=((i+k)*m,m)
 |_,0,k,x,h=>by simp[yU]at h
 |i,n+1,0,x,h=>by simp[yU]at h;simpa using h.symm
 |i,n+1,k+1,x,h=>by
  have:=rT m (i+1) n k x (by simpa [yU]using h)
  rwa [show i+1+k=i+(k+1)by omega]at this
theorem aj.bl{t e:TypeId}{parts:List (Nat×Operand)}{m bt n:Nat}{z l:List D}{hl:bF l=[]}(q:List (Nat×Operand×D×List D))(hm:mj P t=some (e,m,bt,z))(hs:Nat.ble (n*m) 16777216=true)(hn0:Nat.blt 0 n=true)(hq:i4 (yU m 0 n) (n*m) parts q)(he:∀x∈qs q,ev T x.1=some x.2)
  (hle:over (List.replicate n z).flatten q=l)(hln:Nat.beq l.length (n*m)=true)
  (hr:aj P ops c os (bf T dst (.ib n m l hl)) H sps T' H'):
  aj P ops c (⟨dst,.buildSlice t n parts.toArray,ty,pos,aft,none⟩::os) T H (ps (qs q) (.ib n m l hl)::sps) T' H':=by
 obtain⟨i,v,hu,hinf,hzv,hsz,_,ez,hv1,hvs,hm0⟩:=fP hm;obtain⟨hpl,hg⟩:=jC hq;refine .grow (qs q) rfl he rfl (fun ε w S a ha=>?_) hr;have hn1:0<n:=by simpa using hn0
 have hcs:=eX hvs hm0 n;have hz0:bX ε w S (List.replicate n z).flatten (madeCells v.cells (n*m)).toList:=by rw[hcs,ez];exact fC (iz _ _ _ _) n
 have hzl:(List.replicate n z).flatten.length=n*m:=by rw[fZ,ez,List.length_map,Array.length_toList,hvs]
 obtain⟨cs',hf,hA,hO⟩:=lJ (a:=a) (place:=fun i=>some (i*m,m)) hpl (fun k u x hu' hx=>by
  have:=hg k u x hu' hx;have h2:=rT m 0 n u.1 _ this.2.1;simp only[Prod.mk.injEq,Nat.zero_add]at h2;exact⟨this.1,by rw[h2.1,h2.2],this.2.2.1,by rw[hzl];exact this.2.2.2⟩) hz0 (by
   intro u hu';rw[hcs]at hu';simp only[List.mem_flatten,List.mem_replicate]at hu';obtain⟨l',⟨_,rfl⟩,hu'⟩:=hu';exact hv1 u hu') (fun x hx=>ha (x.2.1,x.2.2.1) (List.mem_map.2 ⟨x,hx,rfl⟩))
 refine⟨.slice (some ⟨w.heap.size,0,none⟩) n n,w.alloc (.cells cs' e),?_,(Below.refl _ _).alloc (Nat.le_refl _) _,some ⟨w.heap.size,0,none⟩,n,rfl,Nat.le_refl _,Nat.eq_of_beq_eq_true hln,?_⟩
 ·have hlim:¬(n*m>2^24):=by have:=Nat.le_of_ble_eq_true hs;omega
  have hf':Instr.fill (fun i=>some (i*m,m)) (madeCells v.cells (n*m)) (parts.map fun x=>(x.1,a.eval x.2))=some cs':=hf;have h0:¬(n*m=0):=by
   intro h;rcases Nat.mul_eq_zero.1 h with h|h<;>omega
  simp only[execOp,Instr.buildSlice,run_underlying hu,Sem.run_bind,Result.andThen_ok,sizeOf,typeInfo,run_program,hinf,Sem.run_pure,hsz];simp[hlim,h0,zeroValue,typeInfo,hinf,hzv,newRow];rw[show(Array.map (fun x=>v.cells[x%v.cells.size]!) (Array.range (n*m)))=madeCells v.cells (n*m)from rfl,hf'];simp
 ·by_cases h0:n=0
  ·exact .inl h0
  ·refine .inr ⟨w.heap.size,0,rfl,.inr (Nat.le_refl _),cs',e,(0,0),cs'.toList,gK _ _,fun j u hj=>by rw[Nat.zero_add];simpa using hj,hO,?_⟩;subst hle;exact bN (fun k hk hlt=>⟨.inl hk,Below.heap_alloc _ _ _ hlt⟩) hA (fun _ _=>rfl)
theorem oh{t u:TypeId}{x y:Operand}(a:Act)(w w':World){v:Value}(h:(Builtin.copy_ #[t,u] ty #[a.eval x,a.eval y]).run P w=.ok v w'):
  (execOp a.eval ⟨dst,.call {callee:=.builtin .copy,args:=#[x,y],argTypes:=#[t,u]},ty,pos,aft,none⟩).run P w=.ok (.value v) w':=by
 simp only[execOp,resolve,Sem.run_bind,Sem.run_pure,Result.andThen_ok,invoke,builtin,List.map_toArray,List.map_cons,List.map_nil,h]
end
end Go.Am
namespace Go.Am
open Go.RowKit
def D.sub(r off n:Nat):D where
 p:=fun ε _ _ v=>∃cap,v=.slice (some ⟨iv (ε r),off,none⟩) n cap
 nm:=[r]
 sh:=.one
 mono:=fun h he _=>by rw[he _ (by simp)];exact h
 iD:=fun⟨_,e⟩=>by subst e;rfl
structure xA(P:Program)(f:FuncId)(ds:List D)(m:Nat)(e:TypeId)(l:List D)(d:D)(l':List D):Prop where
 ok:l8 P f=true
 bF:bF ds=[]
 nm:d.nm=[]
 hl:Am.bF l=[]
 hl':Am.bF l'=[]
 calls:∀(A:cl) (w:World) (b:Value) (F:cl) (vs:List Value),(∀k,F k->¬A k/\k<w.heap.size)->(Hp.row m e l hl).p ε0 w A b F->bX ε0 w A ds vs->
  Calls P f (b::vs).toArray w (fun e' w'=>∃v,e'=.returned v/\d.p ε0 w' (fun k=>A k\/w.heap.size<=k) v/\(Hp.row m e l' hl').p ε0 w' (fun k=>A k\/w.heap.size<=k) b F/\lj w.heap.size F w w')
structure wK(P:Program)(f:FuncId)(ds:List D)(m:Nat)(e:TypeId)(l:List D):Prop where
 ok:l8 P f=true
 bF:bF ds=[]
 hl:Am.bF l=[]
 calls:∀(A:cl) (w:World) (vs:List Value),bX ε0 w A ds vs->Calls P f vs.toArray w (fun e' w'=>∃v F,e'=.returned v/\
  (Hp.row m e l hl).p ε0 w' (fun k=>(A k\/w.heap.size<=k)/\¬F k) v F/\(∀k,F k->w.heap.size<=k/\k<w'.heap.size)/\Below w.heap.size w w')
theorem row_one{m:Nat}{e:TypeId}{l:List D}{hl:bF l=[]}{ε:Env}{w:World}{S:cl}{b:Value}{F:cl}(h:(Hp.row m e l hl).p ε w S b F):b.oneCell'=true:=by
 rcases h with⟨_,e,_⟩|⟨_,_,_,_,_,e,_⟩<;>subst e<;>rfl
section
variable {P:Program} {os:List Oper} {c:Ctx} {T T':List (Nat×D)} {H H':List (Nat×Hp)} {sps:List Spec}
variable {ops:Array Oper} {dst:Option Nat} {ty:TypeId} {pos:String} {aft:Array Edge}
theorem aj.vD{f:FuncId}{xs:List Operand}{ats:Array TypeId}{ds:List D}{r m:Nat}{e:TypeId}{l:List D}{hl:bF l=[]}(hc:wK P f ds m e l)(he:tT T xs ds)(hf:ai H r=none)
  (hr:aj P ops c os ((r,.own r)::T) ((r,.row m e l hl)::H) sps T' H'):
  aj P ops c (⟨some r,.call {callee:=.value (.func f),args:=xs.toArray,argTypes:=ats},ty,pos,aft,none⟩::os) T H (rws (xs.zip ds) r (.row m e l hl)::sps) T' H':=by
 refine .cons (sp:=rws (xs.zip ds) r (.row m e l hl)) ?_ (dQ (fl he)) trivial ⟨hf,trivial⟩ hr;intro hdst T0 H0 hi _ hnew a w ⟨ε,φ,hs⟩ Q K hK;rw[if_pos (a_ rfl _)];have hx:∀x∈xs.zip ds,eV T0 (dM x.1 x.2):=cz hi;have hall:=fI he (fun x h=>(hs.ev (hx x h) (aA (fl he x h)).2).1);have hall0:bX ε0 w (ak c H0 φ) ds (xs.map a.eval):=bN (fun k hk _=>⟨hk,rfl⟩) hall (by rw[hc.bF];intro r h;cases h);simp only[Oper.wp,jY hc.ok,Oper.upon];refine(hc.calls (ak c H0 φ) w _ hall0).mono ?_;rintro e' w' ⟨v,F,rfl,hp,hF,hb⟩;have h1:=row_one hp;have hN:=hs.ky (x:=.row m e l hl) (b:=v) (F:=F) (r:=r) hnew.1 hb hF ((Hp.row m e l hl).mono hp (fun r h=>by cases h) (fun k hk _=>⟨⟨?_,fun r' hr'=>?_⟩,rfl⟩) (fun _ _=>rfl)) (fun r' hr'=>by cases hr')
 ·exact hK _ _ ⟨_,_,hN.put (dst:=some r) (d:=.own r) (cG hdst) ⟨(aB _ _ _).symm,h1⟩ (by simp[D.own,bG,aB])⟩
 ·rcases hk.1 with h|h
  ·exact h.1
  ·exact .inr (.inl (Nat.le_trans hs.fp h))
 ·rw[bG]at hr';by_cases e2:r'=r
  ·subst e2;rw[aB];exact hk.2
  ·rw[aL _ _ e2]at hr'|-;rcases hk.1 with h|h
   ·exact h.2 r' hr'
   ·intro hf;have:=(hs.lo r' hr' k hf).2;omega
def Cz(x:Operand)(r:Nat)(xs:List (Operand×D))(h h':Hp)(d:D):Spec:={ins:=dM x (.own r)++xs.flatMap (fun x=>dM x.1 x.2),cO:=[(r,h)],out:=d,c_:=[(r,h')],news:=[]}
theorem cf.Cf{T:Nat->Option D}{H:Nat->Option Hp}{a:Act}{w w':World}{ε:Env}{φ:Nat->cl}(h:cf c T H a w ε φ){r:Nat}{x y:Hp}(hr:H r=some x)(hb:lj w.heap.size (φ r) w w')
  (hy:y.p ε w' (ak c H φ) (ε r) (φ r))(hn:y.nm=[]):cf c T (bp H [(r,y)]) a w' ε φ:=by
 rw[bG];have hl:∀r',cW H r (some y) r'≠none↔H r'≠none:=by
  intro r';by_cases e:r'=r
  ·subst e;simp[aB,hr]
  ·rw[aL _ _ e]
 have hreg:ak c (cW H r (some y)) φ=ak c H φ:=by
  funext k
  simp only[ak];apply propext
  constructor
  ·exact fun⟨h1,h2⟩=>⟨h1,fun r' hr'=>h2 r' ((hl r').2 hr')⟩
  ·exact fun⟨h1,h2⟩=>⟨h1,fun r' hr'=>h2 r' ((hl r').1 hr')⟩
 have hS:∀k,ak c H φ k->k<w.heap.size->ak c H φ k/\w'.heap[k]?=w.heap[k]?:=fun k hk hlt=>⟨hk,hb.block k hlt (hk.2 r (by simp[hr]))⟩
 constructor
 ·rw[hreg];exact fun t d ht=>d.mono (h.t t d ht) (fun _ _=>rfl) hS
 ·exact fun t d ht r' hr'=>(hl r').2 (h.tn t d ht r' hr')
 ·rw[hreg];intro r' z hz;by_cases e:r'=r
  ·subst e;rw[aB]at hz;injection hz with hz;subst hz;exact hy
  ·rw[aL _ _ e]at hz;exact z.mono (h.h r' z hz) (fun _ _=>rfl) hS (fun k hk=>hb.block k (h.lo r' (by simp[hz]) k hk).2 (h.dj r' r (by simp[hz]) (by simp[hr]) e k hk))
 ·intro r' z hz r2 h2;by_cases e:r'=r
  ·subst e;rw[aB]at hz;injection hz with hz;subst hz;rw[hn]at h2;cases h2
  ·rw[aL _ _ e]at hz;exact(hl r2).2 (h.hn r' z hz r2 h2)
 ·intro r' hr' k hk;have:=h.lo r' ((hl r').1 hr') k hk;exact⟨this.1,Nat.lt_of_lt_of_le this.2 hb.size⟩
 ·exact fun r1 r2 h1 h2=>h.dj r1 r2 ((hl r1).1 h1) ((hl r2).1 h2)
 ·exact h.oL.trans ⟨hb.os,hb.tape,hb.output,hb.size,fun k hk hkl=>hb.block k (Nat.lt_of_lt_of_le hk h.fp) (fun hf=>by
   rcases(h.lo r (by simp[hr]) k hf).1 with h1|h1
   ·omega
   ·exact hkl h1)⟩
 ·exact h.bs
 ·exact h.sz
 ·exact h.df
theorem aj.xF{f:FuncId}{x:Operand}{xs:List Operand}{ats:Array TypeId}{ds:List D}{r m:Nat}{e:TypeId}{l l':List D}{hl:bF l=[]}{hl':bF l'=[]}{d:D}(hc:xA P f ds m e l d l')(hx:ev T x=some (.own r))(he:tT T xs ds)(hh:ai H r=some (.row m e l hl))
  (hr:aj P ops c os (bf T dst d) ((r,.row m e l' hl')::H) sps T' H'):
  aj P ops c (⟨dst,.call {callee:=.value (.func f),args:=(x::xs).toArray,argTypes:=ats},ty,pos,aft,none⟩::os) T H (Cz x r (xs.zip ds) (.row m e l hl) (.row m e l' hl') d::sps) T' H':=by
 refine .cons (sp:=Cz x r (xs.zip ds) (.row m e l hl) (.row m e l' hl') d) ?_ (aV.2 ⟨(aA hx).1,dQ (fl he)⟩) ⟨hh,trivial⟩ trivial hr;intro hdst T0 H0 hi cO _ a w ⟨ε,φ,hs⟩ Q K hK;rw[if_pos (a_ rfl _)];obtain⟨hi1,hi2⟩:=aV.1 hi;have hxs:∀x∈xs.zip ds,eV T0 (dM x.1 x.2):=cz hi2;have hall:=fI he (fun x h=>(hs.ev (hxs x h) (aA (fl he x h)).2).1);have hall0:bX ε0 w (ak c H0 φ) ds (xs.map a.eval):=bN (fun k hk _=>⟨hk,rfl⟩) hall (by rw[hc.bF];intro r h;cases h);have hb0:a.eval x=ε r:=(hs.ev hi1 (aA hx).2).1.1;have hrow:=hs.h r _ cO.1;simp only[Oper.wp,jY hc.ok,Oper.upon];rw[List.map_cons,hb0];refine(hc.calls (ak c H0 φ) w (ε r) (φ r) _ (fun k hk=>⟨fun hk'=>hk'.2 r (by simp[cO.1]) hk,(hs.lo r (by simp[cO.1]) k hk).2⟩) ((Hp.row m e l hl).mono hrow (fun r h=>by cases h) (fun _ hk _=>⟨hk,rfl⟩) (fun _ _=>rfl)) hall0).mono ?_;rintro e' w' ⟨v,rfl,hp,hrow',hb⟩;have hreg:∀k,(ak c H0 φ k\/w.heap.size<=k)->ak c H0 φ k:=by
  intro k hk;rcases hk with hk|hk
  ·exact hk
  ·exact⟨.inr (.inl (Nat.le_trans hs.fp hk)),fun r hr' hf=>by have:=(hs.lo r hr' k hf).2;omega⟩
 have hN:=hs.Cf (y:=.row m e l' hl') cO.1 hb ((Hp.row m e l' hl').mono hrow' (fun r h=>by cases h) (fun k hk _=>⟨hreg k hk,rfl⟩) (fun _ _=>rfl)) rfl;refine hK _ _ ⟨ε,φ,hN.put (d:=d) (cG hdst) ?_ (by rw[hc.nm];intro r h;cases h)⟩;refine d.mono hp (by rw[hc.nm];intro r h;cases h) (fun k hk hlt=>⟨?_,rfl⟩);have:=hreg k hk;refine⟨this.1,fun r' hr'=>this.2 r' ?_⟩;rw[bG]at hr';by_cases e2:r'=r
 ·subst e2;simp[cO.1]
 ·rwa [aL _ _ e2]at hr'
def sN(r:Nat)(b:Value):D where
 p:=fun ε _ _ v=>(v=ε r/\v.oneCell'=true)/\v=b
 nm:=[r]
 sh:=.one
 mono:=fun h he _=>by rw[he _ (by simp)];exact h
 iD:=fun h=>h.1.2
theorem ki{r:Nat}{b:Value}:Le (sN r b) (.own r):=⟨fun _ _ _ _ h=>h.1,fun _ h=>h⟩
theorem aj.Bc{x:Operand}{d d':D}(h:ev T x=some d)(hle:Le d d')(hr:aj P ops c os (bf T dst d') H sps T' H'):
  aj P ops c (⟨dst,.move x,ty,pos,aft,none⟩::os) T H (ps [(x,d)] d'::sps) T' H':=
 .pure [(x,d)] rfl (by simpa using h) (fun r hr=>⟨(x,d),by simp,hle.2 r hr⟩) (fun ε w S a ha=>⟨_,rfl,hle.1 _ _ _ _ (ha (x,d) (by simp))⟩) hr
def BG(c:Ctx)(m:Nat)(e:TypeId)(l:List D)(hl:bF l=[]):Ending->World->Prop:=fun e' w=>∃v F,e'=.returned v/\(Hp.row m e l hl).p ε0 w (fun k=>(c.A k\/c.base<=k\/c.L k)/\¬F k) v F/\(∀k,F k->(c.base<=k\/c.L k)/\k<w.heap.size)/\lj c.base c.L c.w0 w
theorem Ok.wm{fn:Func}{t r m:Nat}{e:TypeId}{l:List D}{hl:bF l=[]}{Q:Exit->Act->World->Prop}(hQ:∀a w,bodyPost P fn (BG c m e l hl) .ret a w->Q .ret a w)(hx:fn.results=#[.tmp t])(ht:aO T t=some (.own r))(hh:ai H r=some (.row m e l hl)):Ok P c T H .ret Q:=by
 intro a w ⟨ε,φ,hs⟩;have hv:a.tmps.getD t undef=ε r:=(hs.t t _ ht).1;refine wp_ret (hQ _ _ ⟨hs.df,a.tmps.getD t undef,?_,a.tmps.getD t undef,φ r,rfl,?_,hs.lo r (by simp[hh]),hs.oL⟩)
 ·rw[eE,hx];simp[Bw]
 ·rw[hv];exact(Hp.row m e l hl).mono (hs.h r _ hh) (fun r h=>by cases h) (fun k hk _=>⟨⟨hk.1,hk.2 r (by simp[hh])⟩,rfl⟩) (fun _ _=>rfl)
theorem wK.of{f:FuncId}{fn:Func}{x:Code}{ds:List D}{m:Nat}{e:TypeId}{l:List D}{hl:Am.bF l=[]}(hf:P.funcs[f]?=some fn)(hb:fn.body=some x)(hok:l8 P f=true)(hn:Am.bF ds=[])
  (hlt:Nat.ble ds.length fn.ntmps=true)(h:∀A w0,Ok P ⟨A,w0.heap.size,w0,fn.ntmps,fun _=>False⟩ (frame 0 ds) [] x (bodyPost P fn (BG ⟨A,w0.heap.size,w0,fn.ntmps,fun _=>False⟩ m e l hl))):wK P f ds m e l where
 ok:=hok
 bF:=hn
 hl:=hl
 calls:=by
  intro A w vs hv;refine(calls_of_wp hf hb (h A w _ _ ⟨ε0,fun _ _=>False,?_⟩)).mono (fun e' w' ⟨v,F,e0,hp,hF,hb'⟩=>⟨v,F,e0,(Hp.row m e l hl).mono hp (fun r h=>by cases h) (fun k hk _=>⟨⟨hk.1.elim .inl (fun h=>h.elim .inr False.elim),hk.2⟩,rfl⟩) (fun _ _=>rfl),
   fun k hk=>⟨(hF k hk).1.elim id False.elim,(hF k hk).2⟩,⟨hb'.os,hb'.tape,hb'.output,hb'.size,fun k hk=>hb'.block k hk (fun h=>h)⟩⟩)
  have hlen:=aS hv;have hl':=Nat.le_of_ble_eq_true hlt
  constructor
  ·intro t d' ht;obtain⟨j,v,e,hj,hp,_⟩:=ec hv ht;have hjl:j<vs.length:=(List.getElem?_eq_some_iff.1 hj).1;have:(vs.toArray++Array.replicate (fn.ntmps-vs.toArray.size) undef).getD t undef=v:=by
    simp only[Nat.zero_add]at e;subst e;simp[Array.getD_eq_getD_getElem?,Array.getElem?_append,hjl];have:=(List.getElem?_eq_some_iff.1 hj).2;exact this
   rw[this];exact d'.mono hp (fun _ _=>rfl) (fun k hk _=>⟨⟨.inl hk,fun _ hr=>absurd rfl hr⟩,rfl⟩)
  ·intro t d' ht r hr;obtain⟨_,_,_,_,_,hm⟩:=ec hv ht;have:r∈Am.bF ds:=bM.2 ⟨d',hm,hr⟩;rw[hn]at this;cases this
  ·intro r y hy;cases hy
  ·intro r y hy;cases hy
  ·intro r hr;exact absurd rfl hr
  ·intro r _ hr;exact absurd rfl hr
  ·exact .of (Below.refl _ _)
  ·rfl
  ·simp[hlen];omega
  ·rfl
def Ap(c:Ctx)(d:D)(m:Nat)(e:TypeId)(l:List D)(hl:bF l=[])(b:Value):Ending->World->Prop:=fun e' w=>∃v F,e'=.returned v/\d.p ε0 w (fun k=>c.A k\/c.base<=k) v/\
 (Hp.row m e l hl).p ε0 w (fun k=>c.A k\/c.base<=k) b F/\lj c.base c.L c.w0 w
theorem tj{a:Act}{w:World}{ε:Env}{φ:Nat->cl}{r m:Nat}{e:TypeId}{l:List D}{hl:bF l=[]}{b:Value}{t:Nat}(hL:∀k,c.L k->b≠.slice none 0 0/\k=iv b)(ht:aO T t=some (sN r b))(hh:ai H r=some (.row m e l hl))(hs:cf c (aO T) (ai H) a w ε φ):
  (Hp.row m e l hl).p ε w (ak c (ai H) φ) b (φ r)/\∀k,ak c (ai H) φ k->c.A k\/c.base<=k:=by
 have hp:=hs.t t _ ht;have e1:b=ε r:=hp.2.symm.trans hp.1.1;have hrow:=hs.h r _ hh;rw[←e1]at hrow;refine⟨hrow,fun k hk=>?_⟩;rcases hk.1 with h|h|h
 ·exact .inl h
 ·exact .inr h
 ·exfalso
  obtain⟨h0,h1⟩:=hL k h;rcases hrow with⟨_,e0,_⟩|⟨g,n,cap,cs,rest,e0,eF,_⟩
  ·exact h0 e0
  ·refine hk.2 r (by simp[hh]) ?_;rw[eF,h1,e0]
   rfl
theorem Ok.BE{fn:Func}{x:ResultVar}{t r m:Nat}{e:TypeId}{l:List D}{hl:bF l=[]}{b:Value}{d d':D}{Q:Exit->Act->World->Prop}(hL:∀k,c.L k->b≠.slice none 0 0/\k=iv b)(hQ:∀a w,bodyPost P fn (Ap c d m e l hl b) .ret a w->Q .ret a w)(hx:fn.results=#[x])(h:RV P c T H x d')
  (hle:Le d' d)(hn:d.nm=[])(ht:aO T t=some (sN r b))(hh:ai H r=some (.row m e l hl)):Ok P c T H .ret Q:=by
 intro a w ⟨ε,φ,hs⟩;obtain⟨v,hv,hp⟩:=h a w ε φ hs;obtain⟨hrow,hS⟩:=tj hL ht hh hs;refine wp_ret (hQ _ _ ⟨hs.df,v,?_,v,φ r,rfl,d.mono (hle.1 _ _ _ _ hp) (by rw[hn];intro r h;cases h) (fun k hk _=>⟨hS k hk,rfl⟩),(Hp.row m e l hl).mono hrow (fun r h=>by cases h) (fun k hk _=>⟨hS k hk,rfl⟩) (fun _ _=>rfl),hs.oL⟩);rw[eE,hx];simp[hv]
theorem xA.of{f:FuncId}{fn:Func}{x:Code}{ds:List D}{m:Nat}{e:TypeId}{l l':List D}{hl:Am.bF l=[]}{hl':Am.bF l'=[]}{d:D}(hf:P.funcs[f]?=some fn)(hb:fn.body=some x)(hok:l8 P f=true)(hn:Am.bF ds=[])(hd:d.nm=[])
  (hlt:Nat.ble (ds.length+1) fn.ntmps=true)(h:∀A w0 b F,(∀k,F k->b≠.slice none 0 0/\k=iv b)->Ok P ⟨A,w0.heap.size,w0,fn.ntmps,F⟩ ((0,sN 0 b)::frame 1 ds) [(0,.row m e l hl)] x (bodyPost P fn (Ap ⟨A,w0.heap.size,w0,fn.ntmps,F⟩ d m e l' hl' b))):xA P f ds m e l d l' where
 ok:=hok
 bF:=hn
 nm:=hd
 hl:=hl
 hl':=hl'
 calls:=by
  intro A w b F vs hF hrow hv;have hFb:∀k,F k->b≠.slice none 0 0/\k=iv b:=by
   intro k hk;rcases hrow with⟨_,_,e0⟩|⟨g,n,cap,cs,rest,e0,eF,_⟩
   ·rw[e0]at hk;exact hk.elim
   ·rw[eF]at hk;refine⟨by rw[e0];simp,?_⟩;rw[e0];exact hk
  refine(calls_of_wp hf hb (h A w b F hFb _ _ ⟨cW ε0 0 b,cW (fun _=>noBlocks) 0 F,?_⟩)).mono (fun e' w' ⟨v,F',e0,hp,hr',hb'⟩=>⟨v,e0,hp,?_,hb'⟩)
  ·have hlen:=aS hv;have hl2:=Nat.le_of_ble_eq_true hlt;have hreg:∀k,A k->ak ⟨A,w.heap.size,w,fn.ntmps,F⟩ (ai [(0,.row m e l hl)]) (cW (fun _=>noBlocks) 0 F) k:=fun k hk=>⟨.inl hk,fun r hr=>by
    by_cases e0:r=0
    ·subst e0;rw[aB];exact fun hf=>(hF k hf).1 hk
    ·rw[aL _ _ e0];exact fun h=>h⟩
   have h00:ai [(0,Hp.row m e l hl)] 0=some (.row m e l hl):=rfl;have h0n:∀r,r≠0->ai [(0,Hp.row m e l hl)] r=none:=fun r hr=>by
    simp only[ai]
    cases hb:Nat.beq r 0 with
    |true=>exact absurd (Nat.eq_of_beq_eq_true hb) hr
    |false=>rfl
   have htm:∀j,((b::vs).toArray++Array.replicate (fn.ntmps-(b::vs).toArray.size) undef).getD j undef=(b::vs).getD j undef\/(b::vs).length<=j:=by
    intro j;by_cases hj:j<(b::vs).length
    ·left
     rw[Array.getD_eq_getD_getElem?,Array.getElem?_append,if_pos (by simpa using hj)];simp
    ·right;omega
   constructor
   ·intro t d' ht;simp only[aO]at ht
    cases hbq:Nat.beq t 0 with
    |true=>
     rw[hbq]at ht;injection ht with ht;subst ht;have e0:=Nat.eq_of_beq_eq_true hbq;subst e0;rcases htm 0 with h|h
     ·rw[h];exact⟨⟨by rw[aB];rfl,row_one hrow⟩,rfl⟩
     ·simp at h
    |false=>
     rw[hbq]at ht;obtain⟨j,v,e,hj,hp,hm⟩:=ec hv ht;have hjl:j<vs.length:=(List.getElem?_eq_some_iff.1 hj).1;have:((b::vs).toArray++Array.replicate (fn.ntmps-(b::vs).toArray.size) undef).getD t undef=v:=by
      rcases htm t with h|h
      ·rw[h,e,Nat.add_comm,List.getD_cons_succ];simp[hj]
      ·simp at h;omega
     rw[this];exact d'.mono hp (fun r hr=>by
      have:r∈Am.bF ds:=bM.2 ⟨d',hm,hr⟩;rw[hn]at this;cases this) (fun k hk _=>⟨hreg k hk,rfl⟩)
   ·intro t d' ht r hr;simp only[aO]at ht
    cases hbq:Nat.beq t 0 with
    |true=>
     rw[hbq]at ht;injection ht with ht;subst ht;have:r=0:=by simpa [sN]using hr
     subst this;simp[h00]
    |false=>
     rw[hbq]at ht;obtain⟨_,_,_,_,_,hm⟩:=ec hv ht;have:r∈Am.bF ds:=bM.2 ⟨d',hm,hr⟩;rw[hn]at this;cases this
   ·intro r y hy;by_cases e0:r=0
    ·subst e0;rw[h00]at hy;injection hy with hy;subst hy;rw[aB,aB];exact(Hp.row m e l hl).mono hrow (fun r h=>by cases h) (fun k hk _=>⟨hreg k hk,rfl⟩) (fun _ _=>rfl)
    ·rw[h0n r e0]at hy;cases hy
   ·intro r y hy;by_cases e0:r=0
    ·subst e0;rw[h00]at hy;injection hy with hy;subst hy;intro r' hr';cases hr'
    ·rw[h0n r e0]at hy;cases hy
   ·intro r hr k hk;by_cases e0:r=0
    ·subst e0;rw[aB]at hk;exact⟨.inr hk,(hF k hk).2⟩
    ·exact absurd (h0n r e0) hr
   ·intro r r' hr hr' hne;by_cases e0:r=0
    ·subst e0;exact absurd (h0n r' (Ne.symm hne)) hr'
    ·exact absurd (h0n r e0) hr
   ·exact .of (Below.refl _ _)
   ·rfl
   ·simp[hlen];omega
   ·rfl
  ·have hF':F'=F:=by
    rcases hrow with⟨_,e1,eF⟩|⟨g,n,cap,cs,rest,e1,eF,_⟩<;>rcases hr' with⟨_,e2,eF'⟩|⟨g',n',cap',cs',rest',e2,eF',_⟩
    ·rw[eF,eF']
    ·rw[e1]at e2;cases e2
    ·rw[e1]at e2;cases e2
    ·rw[e1]at e2;injection e2 with e3;injection e3 with e3;injection e3 with e3;rw[eF,eF',e3]
   rw[←hF'];exact hr'
end
end Go.Am
namespace Go.Am
open Go.RowKit
section
variable {P:Program} {os:List Oper} {c:Ctx} {T T':List (Nat×D)} {H H':List (Nat×Hp)} {sps:List Spec}
variable {ops:Array Oper} {dst:Option Nat} {ty:TypeId} {pos:String} {aft:Array Edge}
theorem aj.C0{t e:TypeId}{x y:Operand}{r n m m':Nat}{l:List D}{hl:bF l=[]}{k:IntKind}{z:Int}(hx:ev T x=some (.own r))(hy:ev T y=some (.int k z))(hh:ai H r=some (.row m e l hl))(ht:sle P t=some m)(hn:l.length=n*m')(hm':Nat.beq m m'=true)(hm:Nat.blt 0 m=true)(h0:0<=z)(h1:z<n)
  (hr:aj P ops c os (bf T dst (.sub r (z.toNat*m) (n-z.toNat))) H sps T' H'):
  aj P ops c (⟨dst,.slice t x (some y) none none,ty,pos,aft,none⟩::os) T H (tS [(x,.own r),(y,.int k z)] r (.row m e l hl) (.sub r (z.toNat*m) (n-z.toNat))::sps) T' H':=
 .ask rfl (two hx hy) hh (fun r' hr'=>.inl (by simpa [D.sub]using hr')) (fun ε w S a F ha hp=>by
  have h2:a.eval x=ε r:=(ha (x,.own r) (by simp)).1;have h3:a.eval y=.int k z:=ha (y,.int k z) (by simp);have hmm:=Nat.eq_of_beq_eq_true hm';subst hmm;have hm0:0<m:=by simpa using hm
  obtain⟨e',he,hs⟩:=ko ht;rcases hp with⟨h,_,_⟩|⟨g,n',cap,cs,rest,hb,_,_,_,hcap,_,hln,hcs⟩
  ·subst h;rcases Nat.mul_eq_zero.1 (show n*m=0 from hn.symm)with hn|hn<;>omega
  ·have hnn:n'=n:=Nat.eq_of_mul_eq_mul_right hm0 (hln.symm.trans hn);subst hnn;have hle:n'<=cap:=by
    have hle:n'*m<=cap*m:=by rw[←hcap,List.length_append,aS hcs,hn];omega
    exact Nat.le_of_mul_le_mul_right hle hm0
   refine⟨.slice (some ⟨g,z.toNat*m,none⟩) (n'-z.toNat) (cap-z.toNat),?_,cap-z.toNat,by rw[hb];rfl⟩;simp only[execOp,Instr.sliceAt,run_underlying he,Sem.run_bind,Result.andThen_ok,Instr.slice,h2,hb,Option.map_some,Option.map_none,Instr.sliceBounds,eh _ k z n' _ h0 (by omega) h3,Sem.run_pure,hs];simp[gA];intro h;omega) hr
theorem rv{t u e e':TypeId}{a:Act}{w:World}{ε:Env}{φ:Nat->cl}{T:Nat->Option D}{H:Nat->Option Hp}(hs:cf c T H a w ε φ){r off nd n2 dcap cap2:Nat}{l l2 z:List D}{hl:bF l=[]}{hl2:bF l2=[]}{hl':bF (l.take off++l2++l.drop (off+n2))=[]}{bt:Nat}
  (hr:H r=some (.row 1 e l hl))(hm:mj P t=some (e',1,bt,z)){A:Option Addr}(hA:n2=0\/∃b o,A=some ⟨b,o,none⟩/\ak c H φ b/\oD ε w (ak c H φ) b o l2)(hln2:l2.length=n2*1)
  (hnd:n2<=nd)(hfit:off+n2<=l.length){base:Option Addr}(hbase:base=some ⟨iv (ε r),off,none⟩\/n2=0):
  ∃w',(Builtin.copy_ #[t,u] ty #[.slice base nd dcap,.slice A n2 cap2]).run P w=.ok (.int .i64 n2) w'/\cf c T (bp H [(r,.row 1 e (l.take off++l2++l.drop (off+n2)) hl')]) a w' ε φ:=by
 obtain⟨i,v,hu,hinf,hzv,hsz,_,ez,hv1,hvs,hm0⟩:=fP hm;have hs1:(P.info? e').map (·.size)=some 1:=by rw[hinf];simp[hsz]
 by_cases h0:n2=0
 ·subst h0;have e2:l2=[]:=List.eq_nil_of_length_eq_zero (by simpa using hln2);subst e2;refine⟨w,run_copy_none w t u ty e' base A nd dcap 0 cap2 hu hs1 (by simp),?_⟩;have he:Hp.row 1 e (l.take off++[]++l.drop (off+0)) hl'=Hp.row 1 e l hl:=by
   congr 1
   simp
  rw[he];have:bp H [(r,.row 1 e l hl)]=H:=by
   rw[bG]
   funext k
   by_cases ek:k=r
   ·subst ek;rw[aB,hr]
   ·rw[aL _ _ ek]
  rw[this];exact hs
 ·have hb:=hbase.resolve_right h0;obtain⟨b,o,rfl,hSb,cells,ty2,mark,vs,hg2,hj,hv1',hall⟩:=hA.resolve_left h0;have hvl:vs.length=n2:=by rw[aS hall,hln2];omega
  rcases hs.h r _ hr with⟨e0,_,_⟩|⟨g,n',cap,cs,rest,hbv,eF,hg,h1,hcap,hmax,hln,hcs⟩
  ·subst e0;simp at hfit;omega
  ·have hlen:=aS hcs;have hbase':base=some ⟨g,off,none⟩:=by rw[hb,hbv];rfl
   subst hbase';have hrun:=run_copy_row (P:=P) w t u ty e' g off nd dcap ⟨b,o,none⟩ n2 cap2 (cs++rest).toArray e vs hu hs1 hg (by rw[hvl];exact(Nat.min_eq_left hnd).symm) (fun j u hu'=>by
    rw[gA];have:=hj j u hu';simpa [World.cell?,hg2]using this) (by simp;omega) hv1'
   have hsplit:(cs++rest).take off++vs++(cs++rest).drop (off+n2)=(cs.take off++vs++cs.drop (off+n2))++rest:=by
    rw[List.take_append_of_le_length (by omega),List.drop_append_of_le_length (by omega)];simp[List.append_assoc]
   refine⟨w.setRow g ((cs.take off++vs++cs.drop (off+n2))++rest).toArray,?_,?_⟩
   ·rw[hrun,←hsplit,hvl]
    rfl
   refine hs.pM (w':=w.setRow g ((cs.take off++vs++cs.drop (off+n2))++rest).toArray) (y:=.row 1 e (l.take off++l2++l.drop (off+n2)) hl') hr (by simp[World.setRow]) rfl rfl rfl
    (fun k hk=>eP _ _ _ _ (fun e'=>hk (by rw[eF,e'];rfl)))
    (.inr ⟨g,n',cap,cs.take off++vs++cs.drop (off+n2),rest,hbv,eF,setRow_heap w g (cs++rest).toArray _ e _ hg,(by
     intro u hu;simp only[List.mem_append]at hu;rcases hu with(hu|hu)|hu
     ·exact h1 u (List.mem_of_mem_take hu)
     ·exact hv1' u hu
     ·exact h1 u (List.mem_of_mem_drop hu)),(by rw[←hcap];simp;omega),hmax,(by rw[←hln];simp;omega),by
     refine bN ?_ (bS (bS (dA off hcs) hall) (dK (off+n2) hcs)) (fun _ _=>rfl);intro k hk _;exact⟨hk,eP _ _ _ _ (fun e'=>hk.2 r (by simp[hr]) (by rw[eF,e'];rfl))⟩⟩)
    (fun r' hr'=>by cases hr')
def B1(x:Operand)(dx:D)(y:Operand)(dy:D)(r n2:Nat)(h h':Hp):Spec:={ins:=dM x dx++dM y dy,cO:=[(r,h)],out:=.int .i64 n2,c_:=[(r,h')],news:=[]}
theorem iM{l l2:List D}{off k:Nat}(h:bF l=[])(h2:bF l2=[]):bF (l.take off++l2++l.drop k)=[]:=cU (cU (dV h off) h2) (nk h k)
theorem aj.Dd{t u e e':TypeId}{x y:Operand}{r off nd n2 bt:Nat}{l l2 z:List D}{hl:bF l=[]}{hl2:bF l2=[]}(hx:ev T x=some (.sub r off nd))(hy:ev T y=some (.ib n2 1 l2 hl2))(hh:ai H r=some (.row 1 e l hl))(hm:mj P t=some (e',1,bt,z))(hnd:n2<=nd)(hfit:off+n2<=l.length)
  (hr:aj P ops c os (bf T dst (.int .i64 n2)) ((r,.row 1 e (l.take off++l2++l.drop (off+n2)) (iM hl hl2))::H) sps T' H'):
  aj P ops c (⟨dst,.call {callee:=.builtin .copy,args:=#[x,y],argTypes:=#[t,u]},ty,pos,aft,none⟩::os) T H (B1 x (.sub r off nd) y (.ib n2 1 l2 hl2) r n2 (.row 1 e l hl) (.row 1 e (l.take off++l2++l.drop (off+n2)) (iM hl hl2))::sps) T' H':=by
 refine .cons (sp:=B1 x (.sub r off nd) y (.ib n2 1 l2 hl2) r n2 (.row 1 e l hl) (.row 1 e (l.take off++l2++l.drop (off+n2)) (iM hl hl2))) ?_ (aV.2 ⟨(aA hx).1,(aA hy).1⟩) ⟨hh,trivial⟩ trivial hr;intro hdst T0 H0 hi cO _ a w ⟨ε,φ,hs⟩ Q K hK;rw[if_pos (a_ rfl _)];obtain⟨hi1,hi2⟩:=aV.1 hi;obtain⟨dcap,h1⟩:=(hs.ev hi1 (aA hx).2).1;obtain⟨A,cap2,h2,_,hln2,hA⟩:=(hs.ev hi2 (aA hy).2).1;obtain⟨w',hrun,hS⟩:=rv (t:=t) (u:=u) (ty:=ty) (hl2:=hl2) (hl':=iM hl hl2) hs cO.1 hm (cap2:=cap2) (dcap:=dcap) hA hln2 hnd hfit (.inl rfl);have hrun':(Builtin.copy_ #[t,u] ty #[a.eval x,a.eval y]).run P w=.ok (.int .i64 n2) w':=by rw[h1,h2];exact hrun
 simp only[Oper.wp,oh a w w' hrun',Oper.upon];exact hK _ _ ⟨ε,φ,hS.put (d:=.int .i64 n2) (cG hdst) rfl (fun _ h=>by cases h)⟩
theorem aj.CU{t u e e':TypeId}{x y:Operand}{r n2 bt:Nat}{l l2 z:List D}{hl:bF l=[]}{hl2:bF l2=[]}(hx:ev T x=some (.own r))(hy:ev T y=some (.ib n2 1 l2 hl2))(hh:ai H r=some (.row 1 e l hl))(hm:mj P t=some (e',1,bt,z))(hfit:0+n2<=l.length)
  (hr:aj P ops c os (bf T dst (.int .i64 n2)) ((r,.row 1 e (l.take 0++l2++l.drop (0+n2)) (iM hl hl2))::H) sps T' H'):
  aj P ops c (⟨dst,.call {callee:=.builtin .copy,args:=#[x,y],argTypes:=#[t,u]},ty,pos,aft,none⟩::os) T H (B1 x (.own r) y (.ib n2 1 l2 hl2) r n2 (.row 1 e l hl) (.row 1 e (l.take 0++l2++l.drop (0+n2)) (iM hl hl2))::sps) T' H':=by
 refine .cons (sp:=B1 x (.own r) y (.ib n2 1 l2 hl2) r n2 (.row 1 e l hl) (.row 1 e (l.take 0++l2++l.drop (0+n2)) (iM hl hl2))) ?_ (aV.2 ⟨(aA hx).1,(aA hy).1⟩) ⟨hh,trivial⟩ trivial hr;intro hdst T0 H0 hi cO _ a w ⟨ε,φ,hs⟩ Q K hK;rw[if_pos (a_ rfl _)];obtain⟨hi1,hi2⟩:=aV.1 hi;have h1:a.eval x=ε r:=(hs.ev hi1 (aA hx).2).1.1;obtain⟨A,cap2,h2,_,hln2,hA⟩:=(hs.ev hi2 (aA hy).2).1;have key:∃base nd dcap,ε r=.slice base nd dcap/\n2<=nd/\(base=some ⟨iv (ε r),0,none⟩\/n2=0):=by
  rcases hs.h r _ cO.1 with⟨e0,eb,_⟩|⟨g,n',cap,cs,rest,hbv,eF,hg,_,_,_,hln,_⟩
  ·subst e0;simp at hfit;exact⟨none,0,0,eb,by omega,.inr (by omega)⟩
  ·exact⟨some ⟨g,0,none⟩,n',cap,hbv,by omega,.inl (by rw[hbv];rfl)⟩
 obtain⟨base,nd,dcap,h3,hnd,hbase⟩:=key;obtain⟨w',hrun,hS⟩:=rv (t:=t) (u:=u) (ty:=ty) (hl2:=hl2) (hl':=iM hl hl2) hs cO.1 hm (cap2:=cap2) (dcap:=dcap) hA hln2 hnd hfit hbase;have hrun':(Builtin.copy_ #[t,u] ty #[a.eval x,a.eval y]).run P w=.ok (.int .i64 n2) w':=by rw[h1,h2,h3];exact hrun
 simp only[Oper.wp,oh a w w' hrun',Oper.upon];exact hK _ _ ⟨ε,φ,hS.put (d:=.int .i64 n2) (cG hdst) rfl (fun _ h=>by cases h)⟩
theorem Ok.BN{x:Code}{Q:Exit->Act->World->Prop}(t r2:Nat){r m m' n:Nat}{e:TypeId}{l:List D}{hl:bF l=[]}(ht:aO T t=some (.cut r n))(hh:ai H r=some (.row m e l hl))(hf:ai H r2=none)(hn:n*m'<=l.length)(hm':Nat.beq m m'=true)(h0:0<l.length)
  (h:Ok P c ((t,.own r2)::T) ((r,.dead)::(r2,.row m e (l.take (n*m)) (dV hl _))::H) x Q):Ok P c T H x Q:=by
 intro a w ⟨ε,φ,hs⟩;have hmm:=Nat.eq_of_beq_eq_true hm';subst hmm;obtain⟨capv,hv,hcv,hce⟩:=hs.t t _ ht;rcases hs.h r _ hh with⟨e0,_,_⟩|⟨g,n',cap,cs,rest,eb,eF,hg,h1,hcp,hmax,hln,hcs⟩
 ·subst e0;simp at h0
 have hlen:=aS hcs;have ecap:capv=cap:=by rw[hce,eb];rfl
 subst ecap;have hv':a.tmps.getD t undef=.slice (some ⟨g,0,none⟩) n capv:=by rw[hv,eb];rfl
 have hN:=hs.vF (w':=w) (x:=.row m e (l.take (n*m)) (dV hl _)) (b:=.slice (some ⟨g,0,none⟩) n capv) (F:=φ r) (r:=r2) hh hf (Nat.le_refl _) rfl rfl rfl (fun _ _ _=>rfl) (fun k hk=>⟨.inl hk,(hs.lo r (by simp[hh]) k hk).2⟩)
  (.inr ⟨g,n,capv,cs.take (n*m),cs.drop (n*m)++rest,rfl,eF,by rw[←List.append_assoc,List.take_append_drop];exact hg,fun u hu=>h1 u (List.mem_of_mem_take hu),by rw[←List.append_assoc,List.take_append_drop];exact hcp,hmax,by simp;omega,?_⟩) rfl
 ·refine h a w (Sat.ext (T:=fR (aO T) (some t) (.own r2)) (H:=bp (ai H) [(r,.dead),(r2,.row m e (l.take (n*m)) (dV hl _))]) ⟨_,_,{hN with t:=?_,tn:=?_}⟩ (fun t'=>?_) (fun r'=>?_))
  ·intro t' d hd;simp only[fR]at hd
   split at hd
   ·rename_i e';subst e';injection hd with hd;subst hd;exact⟨by rw[hv',aB],by rw[hv'];rfl⟩
   ·exact hN.t t' d hd
  ·intro t' d hd r' hr';simp only[fR]at hd
   split at hd
   ·injection hd with hd;subst hd;have:r'=r2:=by simpa [D.own]using hr'
    subst this;have hne:r'≠r:=fun e=>by subst e;rw[hf]at hh;cases hh
    rw[fx,aL _ _ hne,aB];simp
   ·exact hN.tn t' d hd r' hr'
  ·rw[fX];rfl
  ·rw[bu];rfl
 ·refine dA (n*m) (bN (fun k hk _=>⟨⟨hk.1,fun r' hr' hf'=>?_⟩,rfl⟩) hcs (by rw[hl];intro r' hr';cases hr'));rw[fx]at hr';by_cases e1:r'=r
  ·subst e1;have hne:r'≠r2:=fun e=>by subst e;rw[hf]at hh;cases hh
   rw[aL _ _ hne,aB]at hf';exact hf'
  ·by_cases e2:r'=r2
   ·subst e2;rw[aB]at hf';exact hk.2 r (by simp[hh]) hf'
   ·rw[aL _ _ e2,aL _ _ e1]at hf';rw[aL _ _ e1,aL _ _ e2]at hr';exact hk.2 r' hr' hf'
end
end Go.Am
namespace Go.Am
open Go.RowKit
def D.BB(q:Prop):D where
 p:=fun _ _ _ v=>∃b,v=.bool b/\(b=true->q)
 nm:=[]
 sh:=.one
 mono:=fun h _ _=>h
 iD:=fun⟨_,e,_⟩=>by subst e;rfl
section
variable {P:Program} {os:List Oper} {c:Ctx} {T T':List (Nat×D)} {H H':List (Nat×Hp)} {sps:List Spec}
variable {ops:Array Oper} {dst:Option Nat} {ty:TypeId} {pos:String} {aft:Array Edge}
theorem Ok.cQ{o:Operand}{q:Prop}{x y:Code}{Q:Exit->Act->World->Prop}(h:ev T o=some (.BB q))(kT:q->Ok P c T H x Q)(kF:Ok P c T H y Q):Ok P c T H (.cond o x y) Q:=by
 intro a w ⟨ε,φ,hs⟩;obtain⟨b,hv,hq⟩:=(hs.ev (aA h).1 (aA h).2).1
 cases b with
 |true=>exact wp_cond_true hv (kT (hq rfl) a w ⟨ε,φ,hs⟩)
 |false=>exact wp_cond_false hv (kF a w ⟨ε,φ,hs⟩)
theorem qY(op:BinOp)(t:TypeId)(x y:Operand)(A:Option Addr)(n c:Nat)(v:Value):eqGuard op t x y (.slice A n c) v=pure ():=by cases op<;>rfl
theorem kz(w:World)(d:Nat){t e:TypeId}(A:Option Addr)(n cap:Nat)(hu:P.underlying t=some (.slice e)):(Op.equalIn (d+1) t (.slice A n cap) (.slice none 0 0)).run P w=.ok A.isNone w:=by
 cases A<;>simp[Op.equalIn,run_underlying hu]
theorem aj.Ck{xt yt:TypeId}{x y:Operand}{n m:Nat}{l:List D}{hl:bF l=[]}(ht:isSlice P xt=true)(hx:ev T x=some (.ib n m l hl))(hy:ev T y=some .nil)
  (hr:aj P ops c os (bf T dst (.BB (n=0))) H sps T' H'):
  aj P ops c (⟨dst,.binOp .eql xt x y yt,ty,pos,aft,none⟩::os) T H (ps [(x,.ib n m l hl),(y,.nil)] (.BB (n=0))::sps) T' H':=
 .pure [(x,.ib n m l hl),(y,.nil)] rfl (two hx hy) (iO rfl) (fun ε w S a ha=>by
  obtain⟨A,cap,h1,_,_,hA⟩:=ha (x,.ib n m l hl) (by simp);have h2:a.eval y=.slice none 0 0:=ha (y,.nil) (by simp);dsimp only at h1;unfold isSlice at ht
  split at ht<;>try cases ht
  rename_i e he;refine⟨.bool A.isNone,?_,A.isNone,rfl,fun h=>?_⟩
  ·have hq:(Op.equal xt (.slice A n cap) (.slice none 0 0)).run P w=.ok A.isNone w:=by
    simp only[Op.equal,Op.maxDepth];exact kz w 9999 A n cap he
   simp only[execOp,h1,h2,qY,Sem.run_bind,Sem.run_pure,Result.andThen_ok];simp[binOp,hq]
  ·rcases hA with h0|⟨b,o,e,_⟩
   ·exact h0
   ·subst e;cases h) hr
theorem aj.BX{t e:TypeId}{r m bt:Nat}{z:List D}(hm:mj P t=some (e,m,bt,z))(hf:ai H r=none)(hr:aj P ops c os ((r,.own r)::T) ((r,.row m e [] rfl)::H) sps T' H'):
  aj P ops c (⟨some r,.buildSlice t 0 #[],ty,pos,aft,none⟩::os) T H (rws [] r (.row m e [] rfl)::sps) T' H':=by
 refine .cons (sp:=rws [] r (.row m e [] rfl)) ?_ trivial trivial ⟨hf,trivial⟩ hr;intro hd T0 H0 hi _ hnew a w ⟨ε,φ,hs⟩ Q K hK;rw[if_pos (a_ rfl _)];obtain⟨i,v,hu,hinf,hzv,hsz,_,ez,hv1,hvs,hm0⟩:=fP hm;have hex:(execOp a.eval ⟨some r,.buildSlice t 0 #[],ty,pos,aft,none⟩).run P w=.ok (.value (.slice (some ⟨w.heap.size,0,none⟩) 0 0)) (w.alloc (.cells #[] e)):=by
  simp[execOp,Instr.buildSlice,run_underlying hu,sizeOf,typeInfo,hinf,Instr.fill,newRow,Array.range_zero']
 simp only[Oper.wp,hex,Oper.upon];have hN:=hs.ky (x:=.row m e [] rfl) (b:=.slice (some ⟨w.heap.size,0,none⟩) 0 0) (F:=only w.heap.size) (w':=w.alloc (.cells #[] e)) (r:=r) hnew.1 ((Below.refl _ _).alloc (Nat.le_refl _) _)
  (fun k hk=>by simp only[only]at hk;subst hk;simp)
  (.inr ⟨w.heap.size,0,0,[],[],rfl,rfl,by rw[gK];rfl,(fun u hu=>by cases hu),by simp,Nat.zero_le _,by simp,trivial⟩) (fun r' hr'=>by cases hr')
 exact hK _ _ ⟨_,_,hN.put (dst:=some r) (d:=.own r) (cG hd) ⟨(aB _ _ _).symm,rfl⟩ (by simp[D.own,bG,aB])⟩
end
end Go.Am
namespace Go.Am
inductive St(σ ρ:Type) where
 |next (s:σ)
 |done (r:ρ)
def iJ{σ ρ:Type}(body:σ->Option (St σ ρ)):Nat->σ->Option ρ
 |0,_=>none
 |k+1,s=>match body s with
  |none=>none
  |some (.next s')=>iJ body k s'
  |some (.done r)=>some r
theorem mm{σ ρ:Type}{body:σ->Option (St σ ρ)}{r:ρ}:∀{k k':Nat} {s:σ},iJ body k s=some r->k<=k'->iJ body k' s=some r
 |0,_,_,h,_=>by cases h
 |k+1,0,_,_,hle=>by omega
 |k+1,k'+1,s,h,hle=>by
  simp only[iJ]at h|-
  cases hb:body s with
  |none=>rw[hb]at h;cases h
  |some st=>
   rw[hb]at h
   cases st with
   |next s'=>exact mm (k:=k) h (by omega)
   |done r'=>exact h
open Classical in
noncomputable def Loop{σ ρ:Type}(body:σ->Option (St σ ρ))(s:σ):Option ρ:=
 if h:∃k r,iJ body k s=some r then some (Classical.choose (Classical.choose_spec h))else none
theorem lF{σ ρ:Type}{body:σ->Option (St σ ρ)}{s:σ}{r:ρ}:Loop body s=some r↔∃k,iJ body k s=some r:=by
 unfold Loop
 constructor
 ·intro h
  split at h
  ·rename_i hk;injection h with h;exact⟨_,by rw[←h];exact Classical.choose_spec (Classical.choose_spec hk)⟩
  ·cases h
 ·rintro⟨k,hk⟩;have hx:∃k r,iJ body k s=some r:=⟨k,r,hk⟩;rw[dif_pos hx];have h2:=Classical.choose_spec (Classical.choose_spec hx);generalize Classical.choose (Classical.choose_spec hx)=r2 at h2|-;generalize Classical.choose hx=k2 at h2;have e1:=mm hk (Nat.le_max_left k k2);have e2:=mm h2 (Nat.le_max_right k k2);rw[e1]at e2;exact e2.symm
theorem uR{σ ρ:Type}{body:σ->Option (St σ ρ)}{s:σ}{r:ρ}(k:Nat)(h:iJ body k s=some r):Loop body s=some r:=lF.2 ⟨k,h⟩
theorem wR{σ ρ:Type}{body:σ->Option (St σ ρ)}{s s':σ}(h:body s=some (.next s')):Loop body s=Loop body s':=by
 have key:∀r,Loop body s=some r↔Loop body s'=some r:=by
  intro r;rw[lF,lF]
  constructor
  ·rintro⟨k,hk⟩
   cases k with
   |zero=>cases hk
   |succ k=>simp only[iJ,h]at hk;exact⟨k,hk⟩
  ·rintro⟨k,hk⟩;exact⟨k+1,by simp only[iJ,h];exact hk⟩
 cases e:Loop body s' with
 |some r=>exact(key r).2 e
 |none=>
  cases e2:Loop body s with
  |none=>rfl
  |some r=>rw[(key r).1 e2]at e;cases e
theorem wF{σ ρ:Type}{body:σ->Option (St σ ρ)}{s:σ}{r:ρ}(h:body s=some (.done r)):Loop body s=some r:=uR 1 (by simp only[iJ,h])
theorem xW{σ ρ:Type}{body:σ->Option (St σ ρ)}(I:σ->Prop)(μ:σ->Nat)(Q:ρ->Prop)
  (h:∀s,I s->(∃s',body s=some (.next s')/\I s'/\μ s'<μ s)\/(∃r,body s=some (.done r)/\Q r)):∀{s:σ},I s->∃r,Loop body s=some r/\Q r:=by
 intro s hs;generalize hn:μ s=n
 induction n using Nat.strongRecOn generalizing s with
 |_ n ih=>
  rcases h s hs with⟨s',hb,hI,hlt⟩|⟨r,hb,hq⟩
  ·obtain⟨r,hr,hq⟩:=ih (μ s') (hn▸hlt) hI rfl;exact⟨r,(wR hb).trans hr,hq⟩
  ·exact⟨r,wF hb,hq⟩
theorem iF{σ ρ:Type}{body:σ->Option (St σ ρ)}(s0:σ)(I:σ->Prop)(μ:σ->Nat)(Q:ρ->Prop)(h0:I s0)
  (h:∀s,I s->(∃s',body s=some (.next s')/\I s'/\μ s'<μ s)\/(∃r,body s=some (.done r)/\Q r)):∃r,Loop body s0=some r/\Q r:=xW I μ Q h h0
theorem bind_some{α β:Type}{x:Option α}{f:α->Option β}{r:β}(h:x.bind f=some r):∃a,x=some a/\f a=some r:=by
 cases x with
 |none=>cases h
 |some a=>exact⟨a,rfl,h⟩
theorem ab{α:Type}{p:Prop}[Decidable p]{a b r:Option α}(hp:p)(h:(if p then a else b)=r):a=r:=by rwa [if_pos hp]at h
theorem ae{α:Type}{p:Prop}[Decidable p]{a b r:Option α}(hp:¬p)(h:(if p then a else b)=r):b=r:=by rwa [if_neg hp]at h
def bC{α:Type}(p:Prop)[Decidable p](x:Option α):Option α:=if p then x else none
theorem aG{α:Type}{p:Prop}[Decidable p]{x:Option α}{r:α}(h:bC p x=some r):p/\x=some r:=by
 unfold bC at h
 split at h
 ·rename_i hp;exact⟨hp,h⟩
 ·cases h
theorem bK{α:Type}{p:Prop}[Decidable p]{x:Option α}(hp:p):bC p x=x:=if_pos hp
section
variable {P:Program} {c:Ctx} {T T':List (Nat×D)} {H H':List (Nat×Hp)} {Q:Exit->Act->World->Prop} {x y:Code}
theorem Ok.cY{σ ρ:Type}{body:σ->Option (St σ ρ)}(IT:σ->List (Nat×D))(IH:σ->List (Nat×Hp)){s0:σ}{r:ρ}(hl:Loop body s0=some r)
  (hT:gG T (IT s0))(hH:jw H (IH s0))(h1:cp (IH s0) (mK (IT s0))=true)(h2:cp (IH s0) (iV (IH s0))=true)
  (h:∀s st,body s=some st->Ok P c (IT s) (IH s) x (Exit.then (fun a w=>∃s',st=.next s'/\Sat c (aO (IT s')) (ai (IH s')) a w) (fun e a w=>∃r',st=.done r'/\(r'=r->Q e a w)))):Ok P c T H (.loop x) Q:=by
 obtain⟨k0,hk0⟩:=lF.1 hl;refine .loop (ι:={p:Nat×σ//iJ body p.1 p.2=some r}) (fun p=>IT p.1.2) (fun p=>IH p.1.2) (fun p=>p.1.1) ⟨(k0,s0),hk0⟩ hT hH h1 h2 ?_;rintro⟨⟨k,s⟩,hk⟩
 cases k with
 |zero=>cases hk
 |succ k=>
  simp only[iJ]at hk
  cases hb:body s with
  |none=>rw[hb]at hk;cases hk
  |some st=>
   rw[hb]at hk;intro a w hs;refine wp_mono (h s st hb a w hs) (fun e a' w' hq=>?_)
   cases e with
   |normal=>
    obtain⟨s',rfl,hs'⟩:=hq;exact⟨⟨(k,s'),hk⟩,Nat.lt_succ_self k,hs'⟩
   |_=>
    obtain⟨r',rfl,hq'⟩:=hq;injection hk with hk;exact hq' hk
end
theorem sj{α:Type}{a b:α}(h:some a=some b):b=a:=(Option.some.inj h).symm
end Go.Am
namespace Go.Am
open Go.RowKit
structure aK(α:Type) where
 n:Nat
 c:α->List D
 len:∀a,(c a).length=n
 nm:∀a,bF (c a)=[]
def flat{α:Type}(e:aK α)(l:List α):List D:=l.flatMap e.c
theorem eO{α:Type}(e:aK α)(l:List α):bF (flat e l)=[]:=ov e.nm l
theorem cb{α:Type}(e:aK α):∀l:List α,(flat e l).length=l.length*e.n
 |[]=>by simp[flat]
 |a::l=>by
  have:=cb e l;simp only[flat,List.flatMap_cons,List.length_append,e.len,List.length_cons]at this|-;rw[this,Nat.succ_mul,Nat.add_comm]
theorem kK{α:Type}(e:aK α)(l m:List α):flat e (l++m)=flat e l++flat e m:=by simp[flat]
theorem lW{α:Type}(e:aK α):∀(l:List α) (i:Nat),(flat e l).drop (i*e.n)=flat e (l.drop i)
 |l,0=>by simp
 |[],i+1=>by simp[flat]
 |a::l,i+1=>by
  have:=lW e l i;rw[List.drop_succ_cons,←this];simp only[flat,List.flatMap_cons];rw[Nat.succ_mul,Nat.add_comm,←List.drop_drop]
  congr 1
  rw[List.drop_append_of_le_length (by rw[e.len];exact Nat.le_refl _),List.drop_of_length_le (by rw[e.len];exact Nat.le_refl _),List.nil_append]
theorem kP{α:Type}(e:aK α){l:List α}{i:Nat}{a:α}(h:l[i]?=some a):((flat e l).drop (i*e.n)).take e.n=e.c a:=by
 obtain⟨hlt,he⟩:=List.getElem?_eq_some_iff.1 h;rw[lW,List.drop_eq_getElem_cons hlt,he];simp only[flat,List.flatMap_cons];rw[List.take_append_of_le_length (by rw[e.len];exact Nat.le_refl _),List.take_of_length_le (by rw[e.len];exact Nat.le_refl _)]
theorem vW{α:Type}(e:aK α){l:List α}{i o w:Nat}{a:α}(h:l[i]?=some a)(hw:o+w<=e.n):((flat e l).drop (i*e.n+o)).take w=((e.c a).drop o).take w:=by
 have hg:=kP e h;rw[←hg,←List.drop_drop,List.drop_take,List.take_take,Nat.min_eq_left (by omega)]
theorem qW{α:Type}(e:aK α):∀(l:List α) (i:Nat),(flat e l).take (i*e.n)=flat e (l.take i)
 |l,0=>by simp[flat]
 |[],i+1=>by simp[flat]
 |a::l,i+1=>by
  have:=qW e l i;rw[List.take_succ_cons];simp only[flat,List.flatMap_cons]at this|-;rw[←this,Nat.succ_mul,Nat.add_comm,List.take_append,e.len,Nat.add_sub_cancel_left,List.take_of_length_le (by rw[e.len];omega)]
theorem tA{α:Type}(e:aK α){l:List α}{i:Nat}(h:i<l.length)(a:α):(flat e l).take (i*e.n)++e.c a++(flat e l).drop (i*e.n+e.n)=flat e (l.set i a):=by
 rw[qW,show i*e.n+e.n=(i+1)*e.n by rw[Nat.succ_mul],lW,List.set_eq_take_append_cons_drop,if_pos h];simp[flat,List.append_assoc]
theorem pL{α:Type}(e:aK α)(a:α):∀n,flat e (List.replicate n a)=(List.replicate n (e.c a)).flatten
 |0=>rfl
 |n+1=>by rw[List.replicate_succ,List.replicate_succ,List.flatten_cons,←pL e a n];rfl
def br{α:Type}(e:aK α)(l:List α):D:=.ib l.length e.n (flat e l) (eO e l)
def bm{α:Type}(e:aK α)(ty:TypeId)(l:List α):Hp:=.row e.n ty (flat e l) (eO e l)
def aK.int(k:IntKind):aK Int:=⟨1,fun n=>[.int k n],fun _=>rfl,fun _=>rfl⟩
def aK.slice{α:Type}(e:aK α):aK (List α):=⟨1,fun l=>[br e l],fun _=>rfl,fun _=>rfl⟩
def aK.prod{α β:Type}(e:aK α)(f:aK β):aK (α×β):=⟨e.n+f.n,fun p=>e.c p.1++f.c p.2,fun p=>by rw[List.length_append,e.len,f.len],fun p=>cU (e.nm _) (f.nm _)⟩
def oz:List D->List D->Prop
 |[],[]=>True
 |d::l,d'::l'=>Le d d'/\oz l l'
 |_,_=>False
theorem oz.all{ε:Env}{w:World}{S:cl}:∀{l l':List D} {vs:List Value},oz l l'->bX ε w S l vs->bX ε w S l' vs
 |[],[],_,_,h=>h
 |_::_,_::_,[],_,h=>h.elim
 |_::_,_::_,_::_,h,ha=>⟨h.1.1 _ _ _ _ ha.1,oz.all h.2 ha.2⟩
 |[],_::_,_,h,_=>h.elim
 |_::_,[],_,h,_=>h.elim
theorem oz.bF:∀{l l':List D},oz l l'->∀r∈bF l',r∈Am.bF l
 |[],[],_,r,h=>h
 |d::l,d'::l',h,r,hr=>by
  simp only[Am.bF,List.mem_append]at hr|-;exact hr.imp (h.1.2 r) (oz.bF h.2 r)
 |[],_::_,h,_,_=>h.elim
 |_::_,[],h,_,_=>h.elim
theorem oz.append:∀{l l' m m':List D},oz l l'->oz m m'->oz (l++m) (l'++m')
 |[],[],_,_,_,h=>h
 |_::_,_::_,_,_,h,k=>⟨h.1,oz.append h.2 k⟩
 |[],_::_,_,_,h,_=>h.elim
 |_::_,[],_,_,h,_=>h.elim
theorem oz.rep{z z':List D}(h:oz z z'):∀n,oz (List.replicate n z).flatten (List.replicate n z').flatten
 |0=>trivial
 |n+1=>by rw[List.replicate_succ,List.replicate_succ,List.flatten_cons,List.flatten_cons];exact h.append (oz.rep h n)
theorem Le.agg{l l':List D}(h:oz l l'):Le (.agg l) (.agg l'):=⟨fun _ _ _ _ ⟨cs,e,h1,ha⟩=>⟨cs,e,h1,h.all ha⟩,fun r hr=>h.bF r hr⟩
theorem Le.fA{l l':List D}(h:oz l l'):Le (.fA l) (.fA l'):=⟨fun _ _ _ _ ⟨cs,e,ha⟩=>⟨cs,e,h.all ha⟩,fun r hr=>h.bF r hr⟩
theorem Le.iZ{α:Type}(e:aK α):Le .nil (br e []):=⟨fun _ _ _ _ h=>⟨none,0,h,Nat.le_refl _,by simp[flat],.inl rfl⟩,fun r hr=>by cases hr⟩
def D.sl(r n:Nat):D where
 p:=fun ε _ _ v=>v=ε r/\∃A cap,v=.slice A n cap/\(0<n->A=some ⟨iv (ε r),0,none⟩)
 nm:=[r]
 sh:=.one
 mono:=fun h he _=>by rw[he _ (by simp)];exact h
 iD:=fun⟨_,_,_,e,_⟩=>by subst e;rfl
theorem Le.sl{r n:Nat}:Le (.sl r n) (.own r):=⟨fun _ _ _ _ h=>⟨h.1,by obtain⟨_,_,_,e,_⟩:=h;rw[e];rfl⟩,fun _ h=>h⟩
section
variable {P:Program} {os:List Oper} {c:Ctx} {T T':List (Nat×D)} {H H':List (Nat×Hp)} {sps:List Spec}
variable {ops:Array Oper} {dst:Option Nat} {ty:TypeId} {pos:String} {aft:Array Edge}
theorem rE{α:Type}{e:aK α}{te:TypeId}{xs:List α}{ε:Env}{w:World}{S:cl}{b:Value}{F:cl}(hm:0<e.n)(h:(bm e te xs).p ε w S b F):∃A cap,b=.slice A xs.length cap/\(0<xs.length->A=some ⟨iv b,0,none⟩):=by
 rcases h with⟨h0,hb,_⟩|⟨g,n,cap,cs,rest,hb,_,_,_,_,_,hln,_⟩
 ·have:xs.length=0:=by
   have:=cb e xs;rw[h0]at this;rcases Nat.mul_eq_zero.1 this.symm with h|h<;>omega
  exact⟨none,0,by rw[hb,this],fun h=>by omega⟩
 ·rw[cb]at hln;have:=Nat.eq_of_mul_eq_mul_right hm hln;subst this;exact⟨some ⟨g,0,none⟩,cap,hb,fun _=>by rw[hb];rfl⟩
theorem Ok.sl{α:Type}{x:Code}{Q:Exit->Act->World->Prop}(t:Nat){r:Nat}{e:aK α}{te:TypeId}{xs:List α}(ht:aO T t=some (.own r))(hh:ai H r=some (bm e te xs))(hm:Nat.blt 0 e.n=true)
  (h:Ok P c ((t,.sl r xs.length)::T) H x Q):Ok P c T H x Q:=by
 intro a w ⟨ε,φ,hs⟩;have hv:a.tmps.getD t undef=ε r:=(hs.t t _ ht).1;have hsl:=rE (by simpa using hm) (hs.h r _ hh);refine h a w ⟨ε,φ,{hs with t:=?_,tn:=?_}⟩
 ·intro t' d hd;simp only[aO]at hd
  cases hb:Nat.beq t' t with
  |true=>
   rw[hb]at hd;injection hd with hd;subst hd;obtain⟨A,cap,h1,h2⟩:=hsl;rw[Nat.eq_of_beq_eq_true hb];exact⟨hv,A,cap,by rw[hv,h1],h2⟩
  |false=>rw[hb]at hd;exact hs.t t' d hd
 ·intro t' d hd r' hr';simp only[aO]at hd
  cases hb:Nat.beq t' t with
  |true=>
   rw[hb]at hd;injection hd with hd;subst hd;have:r'=r:=by simpa [D.sl]using hr'
   subst this;rw[hh];simp
  |false=>rw[hb]at hd;exact hs.tn t' d hd r' hr'
theorem aj.dn{α:Type}{e:aK α}{t:TypeId}{x y:Operand}{xs:List α}{a:α}{k:IntKind}{z:Int}(hx:ev T x=some (br e xs))(hy:ev T y=some (.int k z))(ht:sle P t=some e.n)(h0:0<=z)(ha:xs[z.toNat]?=some a)
  (hr:aj P ops c os (bf T dst (.ptr (e.c a) (e.nm a))) H sps T' H'):
  aj P ops c (⟨dst,.indexAddr t x y,ty,pos,aft,none⟩::os) T H (ps [(x,br e xs),(y,.int k z)] (.ptr (e.c a) (e.nm a))::sps) T' H':=
 .Cw (e.c a) hx hy ht h0 (by have:=(List.getElem?_eq_some_iff.1 ha).1;omega) (kP e ha) hr
theorem aj.gb{α:Type}{e:aK α}{t:TypeId}{x:Operand}{xs:List α}(hx:ev T x=some (br e xs))(ht:isSlice P t=true)(hr:aj P ops c os (bf T dst (.int .i64 xs.length)) H sps T' H'):
  aj P ops c (⟨dst,.call {callee:=.builtin .len,args:=#[x],argTypes:=#[t]},ty,pos,aft,none⟩::os) T H (ps [(x,br e xs)] (.int .i64 xs.length)::sps) T' H':=.ln hx ht hr
theorem aj.fb{t:TypeId}{x:Operand}{n:Nat}{l:List D}{hnm:bF l=[]}(hx:ev T x=some (.ptr l hnm))(hl:lay P t=some (some n))(hn:l.length=n)(hr:aj P ops c os (bf T dst (.agg l)) H sps T' H'):
  aj P ops c (⟨dst,.load t x,ty,pos,aft,none⟩::os) T H (ps [(x,.ptr l hnm)] (.agg l)::sps) T' H':=by
 have e:l.take n=l:=by rw[←hn,List.take_length]
 have:=aj.CW (P:=P) (os:=os) (c:=c) (T:=T) (T':=T') (H:=H) (H':=H') (sps:=sps) (ops:=ops) (dst:=dst) (ty:=ty) (pos:=pos) (aft:=aft) hx hl (by rw[hn];simp) (by rw[e];exact hr);rw[e]at this;exact this
theorem aj.bg{t tb r off n:Nat}{x:Operand}{l:List D}(e:List D)(h:ev T x=some (.ref r off))(hh:ai H r=some (.box tb l))(hl:lay P t=some (some n))(he:(l.drop off).take n=e)(hn:Nat.ble (off+n) l.length=true)
  (hr:aj P ops c os (bf T dst (.agg e)) H sps T' H'):aj P ops c (⟨dst,.load t x,ty,pos,aft,none⟩::os) T H (rs x (.ref r off) r (.box tb l) (.agg e)::sps) T' H':=by
 subst he;exact .C4 h hh hl hn hr
theorem aj.kG{s k o':Nat}{x:Operand}{l:List D}{hnm:bF l=[]}(l':List D){hl':bF l'=[]}(hx:ev T x=some (.ptr l hnm))(hf:wU P s k=some o')(he:(l.drop o').take l'.length=l')(hr:aj P ops c os (bf T dst (.ptr l' hl')) H sps T' H'):
  aj P ops c (⟨dst,.fieldAddr s x k,ty,pos,aft,none⟩::os) T H (ps [(x,.ptr l hnm)] (.ptr l' hl')::sps) T' H':=
 .pure [(x,.ptr l hnm)] rfl (by simpa using hx) (iO rfl) (fun ε w S a ha=>by
  obtain⟨b,o,h1,hb,h2⟩:=ha (x,.ptr l hnm) (by simp);dsimp only at h1;refine⟨_,by simp only[execOp,h1,Sem.run_bind,vt hf,Result.andThen_ok];rfl,b,_,rfl,hb,?_⟩;have:=nW (n8 h2 o') l'.length
  rwa [he]at this) hr
theorem aj.BZ{α:Type}{e:aK α}{t te:TypeId}{r m b:Nat}{x y:Operand}{zl:List D}{z:Int}(a0:α)(hx:ev T x=some (.int .i64 z))(hy:ev T y=some (.int .i64 z))(hm:mj P t=some (te,m,b,zl))(hmn:m=e.n)(hz:oz zl (e.c a0))(h0:0<=z)(hb:b*z<=281474976710656)(hn:z<=9223372036854775807)(hf:ai H r=none)
  (hr:aj P ops c os ((r,.own r)::T) ((r,bm e te (List.replicate z.toNat a0))::H) sps T' H'):
  aj P ops c (⟨some r,.makeSlice t x y,ty,pos,aft,none⟩::os) T H (rws [(x,.int .i64 z),(y,.int .i64 z)] r (bm e te (List.replicate z.toNat a0))::sps) T' H':=by
 subst hmn;obtain⟨n,rfl⟩:∃n:Nat,z=n:=⟨z.toNat,by omega⟩;rw[Int.toNat_natCast]at hr|-;refine .cons (sp:=rws [(x,.int .i64 n),(y,.int .i64 n)] r (bm e te (List.replicate n a0))) ?_ (dQ (two hx hy)) trivial ⟨hf,trivial⟩ hr;intro hd T0 H0 hi _ hnew a w ⟨ε,φ,hs⟩ Q K hK;rw[if_pos (a_ rfl _)];have hxs:=cz hi;have h1:a.eval x=.int .i64 n:=(hs.ev (hxs (x,.int .i64 n) (by simp)) (aA hx).2).1;have h2:a.eval y=.int .i64 n:=(hs.ev (hxs (y,.int .i64 n) (by simp)) (aA hy).2).1;obtain⟨i,v,hu,hinf,hzv,hsz,hbz,ez,hv1,hvs,hm0⟩:=fP hm;have hb':(i.bytes:Int)*(n:Int)<=281474976710656:=by rw[hbz];exact hb
 have hrun:=run_make (P:=P) w t te i v hu hinf hzv .i64 .i64 n n (by omega) (Int.le_refl _) hb' (by omega);simp only[Int.toNat_natCast,hsz]at hrun;have hex:(execOp a.eval ⟨some r,.makeSlice t x y,ty,pos,aft,none⟩).run P w=.ok (.value (.slice (some ⟨w.heap.size,0,none⟩) n n)) (w.alloc (.cells (madeCells v.cells (n*e.n)) te)):=by
  simp only[execOp,h1,h2,Sem.run_bind,hrun,Result.andThen_ok]
  rfl
 simp only[Oper.wp,hex,Oper.upon];have hcs:=eX hvs hm0 n;have hfl:=pL e a0 n;have hall:∀(ε:Env) (w:World) (S:cl),bX ε w S (flat e (List.replicate n a0)) (List.replicate n v.cells.toList).flatten:=by
  intro ε w S;rw[hfl];refine(hz.rep n).all ?_;rw[ez];exact fC (iz _ _ _ _) n
 have hN:=hs.ky (x:=bm e te (List.replicate n a0)) (b:=.slice (some ⟨w.heap.size,0,none⟩) n n) (F:=only w.heap.size) (w':=w.alloc (.cells (madeCells v.cells (n*e.n)) te)) (r:=r) hnew.1 ((Below.refl _ _).alloc (Nat.le_refl _) _)
  (fun k hk=>by simp only[only]at hk;subst hk;simp)
  (.inr ⟨w.heap.size,n,n,(List.replicate n v.cells.toList).flatten,[],rfl,rfl,by rw[gK,List.append_nil,←hcs],(by
   intro u hu;simp only[List.mem_flatten,List.mem_replicate]at hu;obtain⟨l',⟨_,rfl⟩,hu⟩:=hu;exact hv1 u hu),by rw[List.append_nil,fZ,Array.length_toList,hvs],by unfold maxLen;omega,by rw[cb,List.length_replicate],hall _ _ _⟩) (fun r' hr'=>by cases hr')
 exact hK _ _ ⟨_,_,hN.put (dst:=some r) (d:=.own r) (cG hd) ⟨(aB _ _ _).symm,rfl⟩ (by simp[D.own,bG,aB])⟩
theorem aj.iS{t:TypeId}{x y:Operand}{r n m:Nat}{k:IntKind}{z:Int}(hx:ev T x=some (.sl r n))(hy:ev T y=some (.int k z))(ht:sle P t=some m)(h0:0<=z)(h1:z<n)
  (hr:aj P ops c os (bf T dst (.ref r (z.toNat*m))) H sps T' H'):
  aj P ops c (⟨dst,.indexAddr t x y,ty,pos,aft,none⟩::os) T H (ps [(x,.sl r n),(y,.int k z)] (.ref r (z.toNat*m))::sps) T' H':=
 .pure [(x,.sl r n),(y,.int k z)] rfl (two hx hy) (fun r' hr'=>⟨(x,.sl r n),by simp,hr'⟩) (fun ε w S a ha=>by
  obtain⟨_,A,cap,h2,hA⟩:=ha (x,.sl r n) (by simp);have h3:a.eval y=.int k z:=ha (y,.int k z) (by simp);have hA':=hA (by omega);subst hA';dsimp only at h2;exact⟨_,by simp only[execOp,h2,h3,Sem.run_bind,f_ ht (iv (ε r)) 0 n cap k z h0 h1 w,Result.andThen_ok];rfl,by simp only[D.ref,Nat.zero_add]⟩) hr
theorem aj.zx{t:TypeId}{x:Operand}{r n:Nat}(hx:ev T x=some (.sl r n))(ht:isSlice P t=true)(hr:aj P ops c os (bf T dst (.int .i64 n)) H sps T' H'):
  aj P ops c (⟨dst,.call {callee:=.builtin .len,args:=#[x],argTypes:=#[t]},ty,pos,aft,none⟩::os) T H (ps [(x,.sl r n)] (.int .i64 n)::sps) T' H':=
 .pure [(x,.sl r n)] rfl (by simpa using hx) (iO rfl) (fun ε w S a ha=>by
  obtain⟨_,A,cap,h2,_⟩:=ha (x,.sl r n) (by simp);dsimp only at h2;exact⟨_,gZ a w (by rw[h2];exact mQ ht A n cap w),rfl⟩) hr
theorem aj.CE{α:Type}{e:aK α}{t tb r:Nat}{x:Operand}{xs:List α}{a:α}{d:D}{z:Int}{m:Nat}(h:ev T x=some (.ref r (z.toNat*m)))(hh:ai H r=some (bm e tb xs))(ht:lay P t=some none)(hm:m=e.n)(ha:xs[z.toNat]?=some a)(he:e.c a=[d])
  (hr:aj P ops c os (bf T dst d) H sps T' H'):aj P ops c (⟨dst,.load t x,ty,pos,aft,none⟩::os) T H (tS [(x,.ref r (z.toNat*m))] r (bm e tb xs) d::sps) T' H':=by
 subst hm;refine .tY h hh ht ?_ hr;have hg:=kP e ha;have hn:e.n=1:=by rw[←e.len a,he];rfl
 rw[he,hn,Nat.mul_one]at hg;rw[hn,Nat.mul_one];have h2:((flat e xs).drop z.toNat)[0]?=some d:=by
  cases hq:(flat e xs).drop z.toNat with
  |nil=>rw[hq]at hg;cases hg
  |cons d' l=>rw[hq]at hg;injection hg with hg;rw[hg];rfl
 simpa using h2
theorem aj.C6{α:Type}{e:aK α}{t tb r n o:Nat}{x:Operand}{xs:List α}{a:α}(d:List D){z:Int}{m:Nat}(h:ev T x=some (.ref r (z.toNat*m+o)))(hh:ai H r=some (bm e tb xs))(ht:lay P t=some (some n))(hm:m=e.n)(ha:xs[z.toNat]?=some a)(he:((e.c a).drop o).take n=d)(hn:o+n<=e.n)
  (hr:aj P ops c os (bf T dst (.agg d)) H sps T' H'):aj P ops c (⟨dst,.load t x,ty,pos,aft,none⟩::os) T H (tS [(x,.ref r (z.toNat*m+o))] r (bm e tb xs) (.agg d)::sps) T' H':=by
 subst hm;refine .Da h hh ht ?_ (by rw[vW e ha hn,he]) hr;have hlt:=(List.getElem?_eq_some_iff.1 ha).1;have:=Nat.mul_le_mul_right e.n (Nat.succ_le_of_lt hlt);rw[cb,Nat.succ_mul]at*;omega
theorem aj.Cj{α:Type}{e:aK α}{t tb r n:Nat}{x:Operand}{xs:List α}{a:α}{z:Int}{m:Nat}(h:ev T x=some (.ref r (z.toNat*m)))(hh:ai H r=some (bm e tb xs))(ht:lay P t=some (some n))(hm:m=e.n)(ha:xs[z.toNat]?=some a)(hn:n=e.n)
  (hr:aj P ops c os (bf T dst (.agg (e.c a))) H sps T' H'):aj P ops c (⟨dst,.load t x,ty,pos,aft,none⟩::os) T H (tS [(x,.ref r (z.toNat*m))] r (bm e tb xs) (.agg (e.c a))::sps) T' H':=
 .C6 (o:=0) (e.c a) h hh ht hm ha (by subst hn;rw[List.drop_zero,List.take_of_length_le (by rw[e.len];exact Nat.le_refl _)]) (by rw[hn];omega) hr
theorem aj.CH{α:Type}{e:aK α}{t tb r n:Nat}{x y:Operand}{xs:List α}{dy:D}{z:Int}{m:Nat}(a:α)(h:ev T x=some (.ref r (z.toNat*m)))(hy:ev T y=some dy)(hh:ai H r=some (bm e tb xs))(hsz:∀w,(sizeOf t).run P w=.ok n w)(hm:m=e.n)(hn:n=e.n)(hn0:Nat.blt 0 e.n=true)(hc:xP dy (e.c a))(hz:z.toNat<xs.length)
  (hr:aj P ops c os (bf T dst .any) ((r,bm e tb (xs.set z.toNat a))::H) sps T' H'):
  aj P ops c (⟨dst,.store t x y,ty,pos,aft,none⟩::os) T H (ws x (.ref r (z.toNat*m)) y dy r (bm e tb xs) (bm e tb (xs.set z.toNat a))::sps) T' H':=by
 subst hm;subst hn;refine .CA h hy hh hsz ?_ (by simpa using hn0) hc (e.len a) (tA e hz a) hr;have:=Nat.mul_le_mul_right e.n (Nat.succ_le_of_lt hz);rw[cb];rw[Nat.succ_mul]at this;omega
theorem aj.BC{α:Type}{e:aK α}{t tb r:Nat}{x y:Operand}{xs:List α}{dy:D}{z:Int}{m:Nat}(a:α)(h:ev T x=some (.ref r (z.toNat*m)))(hy:ev T y=some dy)(hh:ai H r=some (bm e tb xs))(ht:lay P t=some none)(hm:m=e.n)(hn:1=e.n)(hc:e.c a=[dy])(hsh:dy.sh=.one)(hz:z.toNat<xs.length)
  (hr:aj P ops c os (bf T dst .any) ((r,bm e tb (xs.set z.toNat a))::H) sps T' H'):
  aj P ops c (⟨dst,.store t x y,ty,pos,aft,none⟩::os) T H (ws x (.ref r (z.toNat*m)) y dy r (bm e tb xs) (bm e tb (xs.set z.toNat a))::sps) T' H':=
 .CH a h hy hh (fun w=>(ij ht w).2) hm hn (by rw[←hn];rfl) (by rw[hc];exact .one hsh) hz hr
theorem aj.yO{α:Type}{e:aK α}{t tb r n:Nat}{x y:Operand}{xs:List α}{z:Int}{m:Nat}(a:α)(h:ev T x=some (.ref r (z.toNat*m)))(hy:ev T y=some (.agg (e.c a)))(hh:ai H r=some (bm e tb xs))(ht:lay P t=some (some n))(hm:m=e.n)(hn:n=e.n)(hn0:Nat.blt 0 e.n=true)(hz:z.toNat<xs.length)
  (hr:aj P ops c os (bf T dst .any) ((r,bm e tb (xs.set z.toNat a))::H) sps T' H'):
  aj P ops c (⟨dst,.store t x y,ty,pos,aft,none⟩::os) T H (ws x (.ref r (z.toNat*m)) y (.agg (e.c a)) r (bm e tb xs) (bm e tb (xs.set z.toNat a))::sps) T' H':=
 .CH a h hy hh (fun w=>(dT ht w).2) hm hn hn0 (.agg _) hz hr
theorem Ok.iZ{α:Type}{x:Code}{Q:Exit->Act->World->Prop}(e:aK α)(t r:Nat)(te:TypeId)(ht:aO T t=some .nil)(hf:ai H r=none)(h:Ok P c ((t,.own r)::T) ((r,bm e te [])::H) x Q):Ok P c T H x Q:=
 .sM t r e.n te ht hf h
theorem Ok.vx{α:Type}{x:Code}{Q:Exit->Act->World->Prop}{e:aK α}{te:TypeId}{xs:List α}(t:Nat){r:Nat}(ht:aO T t=some (.own r))(hh:ai H r=some (bm e te xs))(hm:Nat.blt 0 e.n=true)(h:Ok P c ((t,br e xs)::T) ((r,.dead)::H) x Q):Ok P c T H x Q:=
 .sD t ht hh (cb e xs) (Nat.beq_refl _) hm h
theorem Ok.zp{x:Code}{Q:Exit->Act->World->Prop}(t:Nat){d:D}(d':D)(ht:aO T t=some d)(hle:Le d d')(h:Ok P c ((t,d')::T) H x Q):Ok P c T H x Q:=by
 intro a w ⟨ε,φ,hs⟩;refine h a w ⟨ε,φ,{hs with t:=?_,tn:=?_}⟩
 ·intro t' d2 hd;simp only[aO]at hd
  cases hb:Nat.beq t' t with
  |true=>
   rw[hb]at hd;injection hd with hd;subst hd;rw[Nat.eq_of_beq_eq_true hb];exact hle.1 _ _ _ _ (hs.t t _ ht)
  |false=>rw[hb]at hd;exact hs.t t' d2 hd
 ·intro t' d2 hd r hr;simp only[aO]at hd
  cases hb:Nat.beq t' t with
  |true=>
   rw[hb]at hd;injection hd with hd;subst hd;exact hs.tn t _ ht r (hle.2 r hr)
  |false=>rw[hb]at hd;exact hs.tn t' d2 hd r hr
end
end Go.Am
namespace Go.Am
open Go.RowKit
def ld(Hi:List (Nat×Hp))(φ:Nat->cl):cl:=fun k=>∃r,ai Hi r≠none/\φ r k
def D.pinned(r:Nat)(b:Value):D where
 p:=fun ε _ _ _=>ε r=b
 nm:=[r]
 sh:=.Bf
 mono:=fun h he _=>by rw[he _ (by simp)];exact h
 iD:=fun _=>trivial
def wG(c:Ctx)(Ho:List (Nat×Hp))(d:D)(ε:Env)(w:World)(φ:Nat->cl)(v:Value):Prop:=
 d.p ε w (ak c (ai Ho) φ) v/\(∀r h,ai Ho r=some h->h.p ε w (ak c (ai Ho) φ) (ε r) (φ r))/\(∀r,ai Ho r≠none->∀k,φ r k->(c.base<=k\/c.L k)/\k<w.heap.size)/\
 (∀r r',ai Ho r≠none->ai Ho r'≠none->r≠r'->∀k,φ r k->¬φ r' k)/\lj c.base c.L c.w0 w
structure bb(P:Program)(f:FuncId)(Hi:List (Nat×Hp))(ds:List D)(Ho:List (Nat×Hp))(d:D):Prop where
 ok:l8 P f=true
 BJ:cp Hi (bF ds)=true
 BY:cp Hi (iV Hi)=true
 BD:cp Ho (iV Ho)=true
 A2:cp Ho d.nm=true
 rR:cp Ho (names Hi)=true
 calls:∀(A:cl) (w:World) (ε:Env) (φ:Nat->cl) (vs:List Value),
  (∀r,ai Hi r≠none->∀k,φ r k->¬A k/\k<w.heap.size)->(∀r r',ai Hi r≠none->ai Hi r'≠none->r≠r'->∀k,φ r k->¬φ r' k)->
  (∀r h,ai Hi r=some h->h.p ε w A (ε r) (φ r))->bX ε w A ds vs->
  Calls P f vs.toArray w (fun e w'=>∃v ε' φ',e=.returned v/\(∀r,ai Hi r≠none->ε' r=ε r)/\wG ⟨A,w.heap.size,w,0,ld Hi φ⟩ Ho d ε' w' φ' v)
def Bo(Hi:List (Nat×Hp))(H:List (Nat×Hp)):Prop:=∀r h,ai Hi r=some h->ai H r=some h
def hasAll(H:List (Nat×Hp)):List (Nat×Hp)->Prop
 |[]=>True
 |(r,h)::l=>ai H r=some h/\hasAll H l
theorem pW{H:List (Nat×Hp)}:∀{l:List (Nat×Hp)},hasAll H l->Bo l H
 |[],_,r,h,hh=>by cases hh
 |(r0,h0)::l,ha,r,h,hh=>by
  simp only[ai]at hh
  cases hb:Nat.beq r r0 with
  |true=>rw[hb]at hh;injection hh with hh;subst hh;rw[Nat.eq_of_beq_eq_true hb];exact ha.1
  |false=>rw[hb]at hh;exact pW ha.2 r h hh
theorem lZ{H:Nat->Option Hp}:∀{l:List (Nat×Hp)},nC H l->∀r h,ai l r=some h->H r=some h
 |[],_,r,h,hh=>by cases hh
 |(r0,h0)::l,ha,r,h,hh=>by
  simp only[ai]at hh
  cases hb:Nat.beq r r0 with
  |true=>rw[hb]at hh;injection hh with hh;subst hh;rw[Nat.eq_of_beq_eq_true hb];exact ha.1
  |false=>rw[hb]at hh;exact lZ ha.2 r h hh
theorem nK{H:List (Nat×Hp)}:∀{l:List (Nat×Hp)},hasAll H l->nC (ai H) l
 |[],_=>trivial
 |(_,_)::_,h=>⟨h.1,nK h.2⟩
def eC(Hi:List (Nat×Hp)):List (Nat×Hp)->List Nat
 |[]=>[]
 |(r,_)::l=>match ai Hi r with|some _=>eC Hi l|none=>r::eC Hi l
theorem nx{Hi:List (Nat×Hp)}{r:Nat}:∀{l:List (Nat×Hp)},ai l r≠none->ai Hi r=none->r∈eC Hi l
 |[],h,_=>absurd rfl h
 |(r0,h0)::l,h,hi=>by
  simp only[ai]at h;simp only[eC]
  cases hb:Nat.beq r r0 with
  |true=>rw[←Nat.eq_of_beq_eq_true hb,hi];simp
  |false=>
   rw[hb]at h;have:=nx (l:=l) h hi
   cases ai Hi r0 with
   |some _=>exact this
   |none=>exact List.mem_cons_of_mem _ this
theorem rk{H:Nat->Option Hp}:∀{l:List Nat},jQ H l->∀r∈l,H r=none
 |[],_,r,h=>by cases h
 |r0::l,h,r,hr=>by
  rcases List.mem_cons.1 hr with rfl|hr
  ·exact h.1
  ·exact rk h.2 r hr
section
variable {P:Program} {os:List Oper} {c:Ctx} {T T':List (Nat×D)} {H H':List (Nat×Hp)} {sps:List Spec}
variable {ops:Array Oper} {dst:Option Nat} {ty:TypeId} {pos:String} {aft:Array Edge}
theorem cf.back{T0:Nat->Option D}{H0:Nat->Option Hp}{a:Act}{w w':World}{ε ε':Env}{φ φ':Nat->cl}{Hi Ho:List (Nat×Hp)}{d:D}{v:Value}{dst:Option Nat}{n:Nat}(hs:cf c T0 H0 a w ε φ)(cO:∀r h,ai Hi r=some h->H0 r=some h)(hnew:∀r,ai Ho r≠none->ai Hi r=none->H0 r=none)
  (hnmo:∀r h,ai Ho r=some h->∀r'∈h.nm,ai Ho r'≠none)(hnr:∀r∈d.nm,ai Ho r≠none)(hkeep:∀r,ai Hi r≠none->ai Ho r≠none)(hε:∀r,ai Hi r≠none->ε' r=ε r)(hb:wG ⟨ak c H0 φ,w.heap.size,w,n,ld Hi φ⟩ Ho d ε' w' φ' v)(hdst:∀t,dst=some t->t<c.n):
  ∃ε1 φ1,cf c (fR T0 dst d) (bp H0 Ho) (a.put dst v) w' ε1 φ1:=by
 obtain⟨hv,hp,hlo,hdj,hbel⟩:=hb;simp only at hv hp hlo hdj hbel;have hi0:∀r,ai Hi r≠none->H0 r≠none:=fun r hr=>by
  cases hq:ai Hi r with
  |none=>exact absurd hq hr
  |some h=>rw[cO r h hq];simp
 have old:∀r,H0 r≠none->ai Ho r≠none->ai Hi r≠none:=fun r h0 ho hi=>h0 (hnew r ho hi);have hU:∀r,bp H0 Ho r≠none↔(ai Ho r≠none\/H0 r≠none):=by
  intro r;simp only[bp];cases ai Ho r<;>simp
 have notL:∀k,(∀r,H0 r≠none->¬φ r k)->¬ld Hi φ k:=fun k h ⟨r,hr,hf⟩=>h r (hi0 r hr) hf
 let ε1:Env:=fun r=>match ai Ho r with|some _=>ε' r|none=>ε r
 let φ1:Nat->cl:=fun r=>match ai Ho r with|some _=>φ' r|none=>φ r
 have e1o:∀r,ai Ho r≠none->ε1 r=ε' r:=fun r hr=>by
  show(match ai Ho r with|some _=>ε' r|none=>ε r)=ε' r
  cases hq:ai Ho r with
  |none=>exact absurd hq hr
  |some _=>rfl
 have e1n:∀r,ai Ho r=none->ε1 r=ε r:=fun r hr=>by
  show(match ai Ho r with|some _=>ε' r|none=>ε r)=ε r;rw[hr]
 have f1o:∀r,ai Ho r≠none->φ1 r=φ' r:=fun r hr=>by
  show(match ai Ho r with|some _=>φ' r|none=>φ r)=φ' r
  cases hq:ai Ho r with
  |none=>exact absurd hq hr
  |some _=>rfl
 have f1n:∀r,ai Ho r=none->φ1 r=φ r:=fun r hr=>by
  show(match ai Ho r with|some _=>φ' r|none=>φ r)=φ r;rw[hr]
 have eold:∀r,H0 r≠none->ε1 r=ε r:=fun r hr=>by
  cases hq:ai Ho r with
  |none=>exact e1n r hq
  |some h=>rw[e1o r (by rw[hq];simp),hε r (old r hr (by rw[hq];simp))]
 -- what the caller could read it still can
 have hreg:∀k,ak c H0 φ k->k<w.heap.size->ak c (bp H0 Ho) φ1 k/\w'.heap[k]?=w.heap[k]?:=by
  intro k hk hlt;refine⟨⟨hk.1,fun r hr=>?_⟩,hbel.block k hlt (notL k hk.2)⟩
  cases hq:ai Ho r with
  |none=>
   rw[f1n r hq];refine hk.2 r ?_;rcases(hU r).1 hr with h|h
   ·exact absurd hq h
   ·exact h
  |some h=>
   have hne:ai Ho r≠none:=by rw[hq];simp
   rw[f1o r hne];intro hf;rcases(hlo r hne k hf).1 with h1|h1
   ·omega
   ·exact notL k hk.2 h1
 -- what the call could read the caller can
 have hreg2:∀k,ak ⟨ak c H0 φ,w.heap.size,w,n,ld Hi φ⟩ (ai Ho) φ' k->ak c (bp H0 Ho) φ1 k:=by
  intro k ⟨h1,h2⟩;refine⟨?_,fun r hr=>?_⟩
  ·rcases h1 with h1|h1|⟨r0,hr0,hf⟩
   ·exact h1.1
   ·exact .inr (.inl (Nat.le_trans hs.fp h1))
   ·exact .inr ((hs.lo r0 (hi0 r0 hr0) k hf).1)
  ·cases hq:ai Ho r with
   |some h=>rw[f1o r (by rw[hq];simp)];exact h2 r (by rw[hq];simp)
   |none=>
    rw[f1n r hq];have hr0:H0 r≠none:=by
     rcases(hU r).1 hr with h|h
     ·exact absurd hq h
     ·exact h
    intro hf;rcases h1 with h1|h1|⟨r1,hr1,hf1⟩
    ·exact h1.2 r hr0 hf
    ·have:=(hs.lo r hr0 k hf).2;simp only at h1;omega
    ·have hne:r1≠r:=fun e=>by subst e;exact hkeep r1 hr1 hq
     exact hs.dj r1 r (hi0 r1 hr1) hr0 hne k hf1 hf
 have hS:cf c T0 (bp H0 Ho) a w' ε1 φ1:=by
  constructor
  ·exact fun t d' ht=>d'.mono (hs.t t d' ht) (fun r hr=>eold r (hs.tn t d' ht r hr)) hreg
  ·exact fun t d' ht r hr=>(hU r).2 (.inr (hs.tn t d' ht r hr))
  ·intro r h hr
   cases hq:ai Ho r with
   |some h'=>
    have:h'=h:=by simp only[bp,hq]at hr;injection hr
    subst this;have hne:ai Ho r≠none:=by rw[hq];simp
    rw[e1o r hne,f1o r hne];exact h'.mono (hp r h' hq) (fun r2 h2=>e1o r2 (hnmo r h' hq r2 h2)) (fun k hk _=>⟨hreg2 k hk,rfl⟩) (fun _ _=>rfl)
   |none=>
    have hr0:H0 r=some h:=by simpa only[bp,hq]using hr
    rw[e1n r hq,f1n r hq];refine h.mono (hs.h r h hr0) (fun r2 h2=>eold r2 (hs.hn r h hr0 r2 h2)) hreg (fun k hk=>?_);refine hbel.block k (hs.lo r (by rw[hr0];simp) k hk).2 ?_;rintro⟨r1,hr1,hf1⟩;have hne:r1≠r:=fun e=>by subst e;exact hkeep r1 hr1 hq
    exact hs.dj r1 r (hi0 r1 hr1) (by rw[hr0];simp) hne k hf1 hk
  ·intro r h hr r' hr'
   cases hq:ai Ho r with
   |some h'=>
    have:h'=h:=by simp only[bp,hq]at hr;injection hr
    subst this;exact(hU r').2 (.inl (hnmo r h' hq r' hr'))
   |none=>
    have hr0:H0 r=some h:=by simpa only[bp,hq]using hr
    exact(hU r').2 (.inr (hs.hn r h hr0 r' hr'))
  ·intro r hr k hk
   cases hq:ai Ho r with
   |some h'=>
    have hne:ai Ho r≠none:=by rw[hq];simp
    rw[f1o r hne]at hk;have:=hlo r hne k hk;refine⟨?_,this.2⟩;rcases this.1 with h1|⟨r1,hr1,hf1⟩
    ·exact .inl (Nat.le_trans hs.fp h1)
    ·exact(hs.lo r1 (hi0 r1 hr1) k hf1).1
   |none=>
    rw[f1n r hq]at hk;have hr0:H0 r≠none:=by
     rcases(hU r).1 hr with h|h
     ·exact absurd hq h
     ·exact h
    have:=hs.lo r hr0 k hk;exact⟨this.1,Nat.lt_of_lt_of_le this.2 hbel.size⟩
  ·intro r r' hr hr' hne k hk;have mixed:∀ra rb,ai Ho ra≠none->ai Ho rb=none->H0 rb≠none->φ' ra k->¬φ rb k:=by
    intro ra rb ha hb hb0 hfa hfb;rcases(hlo ra ha k hfa).1 with h1|⟨r1,hr1,hf1⟩
    ·have:=(hs.lo rb hb0 k hfb).2;omega
    ·have hne:r1≠rb:=fun e=>by subst e;exact hkeep r1 hr1 hb
     exact hs.dj r1 rb (hi0 r1 hr1) hb0 hne k hf1 hfb
   have h0:∀rx,bp H0 Ho rx≠none->ai Ho rx=none->H0 rx≠none:=fun rx hx hq=>by
    rcases(hU rx).1 hx with h|h
    ·exact absurd hq h
    ·exact h
   cases hq:ai Ho r with
   |some h1=>
    have hn1:ai Ho r≠none:=by rw[hq];simp
    rw[f1o r hn1]at hk
    cases hq':ai Ho r' with
    |some h2=>
     have hn2:ai Ho r'≠none:=by rw[hq'];simp
     rw[f1o r' hn2];exact hdj r r' hn1 hn2 hne k hk
    |none=>rw[f1n r' hq'];exact mixed r r' hn1 hq' (h0 r' hr' hq') hk
   |none=>
    rw[f1n r hq]at hk
    cases hq':ai Ho r' with
    |some h2=>
     have hn2:ai Ho r'≠none:=by rw[hq'];simp
     rw[f1o r' hn2];exact fun hf=>mixed r' r hn2 hq (h0 r hr hq) hf hk
    |none=>rw[f1n r' hq'];exact hs.dj r r' (h0 r hr hq) (h0 r' hr' hq') hne k hk
  ·refine hs.oL.trans ⟨hbel.os,hbel.tape,hbel.output,hbel.size,fun k hk hl=>hbel.block k (Nat.lt_of_lt_of_le hk hs.fp) ?_⟩;rintro⟨r1,hr1,hf1⟩;rcases(hs.lo r1 (hi0 r1 hr1) k hf1).1 with h|h
   ·omega
   ·exact hl h
  ·exact hs.bs
  ·exact hs.sz
  ·exact hs.df
 refine⟨ε1,φ1,hS.put hdst ?_ (fun r hr=>(hU r).2 (.inl (hnr r hr)))⟩;exact d.mono hv (fun r hr=>e1o r (hnr r hr)) (fun k hk _=>⟨hreg2 k hk,rfl⟩)
def Bj(xs:List (Operand×D))(Hi Ho:List (Nat×Hp))(d:D):Spec:={ins:=xs.flatMap fun x=>dM x.1 x.2,cO:=Hi,out:=d,c_:=Ho,news:=eC Hi Ho}
theorem mM{Hx:List (Nat×Hp)}(h:cp Hx (iV Hx)=true):∀r x,ai Hx r=some x->∀r'∈x.nm,ai Hx r'≠none:=fun _ _ hr r' hr'=>cH h r' (m2 hr r' hr')
theorem aj.goes{o:Oper}{f:FuncId}{Hi Ho:List (Nat×Hp)}{ds:List D}{d:D}(xs:List (Operand×D))(hc:bb P f Hi ds Ho d)(hg:o.guard=none)(he:∀x∈xs,ev T x.1=some x.2)(cO:hasAll H Hi)(hnew:jQ (ai H) (eC Hi Ho))
  (hrun:∀(ε:Env) (w:World) (S:cl) (a:Act),(∀x∈xs,x.2.p ε w S (a.eval x.1))->∃vs:List Value,(execOp a.eval o).run P w=.ok (.enter f vs.toArray) w/\bX ε w S ds vs)
  (hr:aj P ops c os (bf T o.dst d) (Ho++H) sps T' H'):aj P ops c (o::os) T H (Bj xs Hi Ho d::sps) T' H':=by
 refine .cons (sp:=Bj xs Hi Ho d) ?_ (dQ he) (nK cO) hnew hr;intro hdst T0 H0 hi hin0 hnew0 a w ⟨ε,φ,hs⟩ Q K hK;rw[if_pos (a_ hg _)];have hx:∀x∈xs,eV T0 (dM x.1 x.2):=cz hi;obtain⟨vs,hrn,hall⟩:=hrun ε w (ak c H0 φ) a (fun x h=>(hs.ev (hx x h) (aA (he x h)).2).1);simp only[Oper.wp,hrn,Oper.upon];have hget0:=lZ hin0;have hi0:∀r,ai Hi r≠none->H0 r≠none:=fun r hr=>by
  cases hq:ai Hi r with
  |none=>exact absurd hq hr
  |some h=>rw[hget0 r h hq];simp
 refine(hc.calls (ak c H0 φ) w ε φ vs (fun r hr k hk=>⟨fun h=>h.2 r (hi0 r hr) hk,(hs.lo r (hi0 r hr) k hk).2⟩) (fun r r' hr hr'=>hs.dj r r' (hi0 r hr) (hi0 r' hr')) (fun r h hr=>hs.h r h (hget0 r h hr)) hall).mono ?_;rintro e w' ⟨v,ε',φ',rfl,hε,hb⟩;obtain⟨ε1,φ1,hS⟩:=hs.back (T0:=T0) hget0 (fun r ho hi=>rk hnew0 r (nx ho hi)) (mM hc.BD) (cH hc.A2) (fun r hr=>cH hc.rR r (bW.1 hr)) hε hb (cG hdst);exact hK _ _ ⟨ε1,φ1,hS⟩
theorem aj.af{f:FuncId}{xs:List Operand}{ats:Array TypeId}{Hi Ho:List (Nat×Hp)}{ds:List D}{d:D}(hc:bb P f Hi ds Ho d)(he:tT T xs ds)(cO:hasAll H Hi)(hnew:jQ (ai H) (eC Hi Ho))
  (hr:aj P ops c os (bf T dst d) (Ho++H) sps T' H'):
  aj P ops c (⟨dst,.call {callee:=.value (.func f),args:=xs.toArray,argTypes:=ats},ty,pos,aft,none⟩::os) T H (Bj (xs.zip ds) Hi Ho d::sps) T' H':=
 .goes (xs.zip ds) hc rfl (fl he) cO hnew (fun ε w S a ha=>⟨_,jY hc.ok a w,fI he ha⟩) hr
def D.nH(f:FuncId)(l m:List D):D where
 p:=fun ε w S v=>∃vs us:List Value,v=.func (.func f) vs.toArray us.toArray/\bX ε w S l vs/\bX ε w S m us
 nm:=bF l++bF m
 sh:=.Bf
 mono:=fun⟨vs,us,e,h1,h2⟩ he hS=>⟨vs,us,e,bN hS h1 (fun r hr=>he r (by simp[hr])),bN hS h2 (fun r hr=>he r (by simp[hr]))⟩
 iD:=fun _=>trivial
theorem wD{f:FuncId}{x:Operand}{xs:List Operand}{ats:Array TypeId}(hok:l8 P f=true)(a:Act)(w:World){vs us:List Value}(hx:a.eval x=.func (.func f) vs.toArray us.toArray):
  (execOp a.eval ⟨dst,.call {callee:=.value x,args:=xs.toArray,argTypes:=ats},ty,pos,aft,none⟩).run P w=.ok (.enter f (vs++(xs.map a.eval)++us).toArray) w:=by
 unfold l8 at hok;cases hf:P.funcs[f]?with
 |none=>simp[hf]at hok
 |some fn=>
  simp only[hf,Bool.and_eq_true,Bool.not_eq_true']at hok;have hb:fn.body.isNone=false:=by cases h:fn.body<;>simp_all
  simp only[execOp,resolve,hx,Deferred.ofValue,Sem.run_bind,Sem.run_pure,Result.andThen_ok,invoke,callFunc,run_program,hf,hok.1,Bool.false_eq_true,if_false,hb];simp
theorem aj.zW{f:FuncId}{x:Operand}{xs:List Operand}{ats:Array TypeId}{Hi Ho:List (Nat×Hp)}{l m ds:List D}{d:D}(hx:ev T x=some (.nH f l m))(hc:bb P f Hi (l++ds++m) Ho d)(he:tT T xs ds)(cO:hasAll H Hi)(hnew:jQ (ai H) (eC Hi Ho))
  (hr:aj P ops c os (bf T dst d) (Ho++H) sps T' H'):
  aj P ops c (⟨dst,.call {callee:=.value x,args:=xs.toArray,argTypes:=ats},ty,pos,aft,none⟩::os) T H (Bj ((x,.nH f l m)::xs.zip ds) Hi Ho d::sps) T' H':=
 .goes ((x,.nH f l m)::xs.zip ds) hc rfl (by
  intro y hy;rcases List.mem_cons.1 hy with rfl|hy
  ·exact hx
  ·exact fl he y hy) cO hnew (fun ε w S a ha=>by
  obtain⟨vs,us,e,h1,h2⟩:=ha (x,.nH f l m) (by simp);exact⟨_,wD hc.ok a w e,bS (bS h1 (fI he (fun y hy=>ha y (by simp[hy])))) h2⟩) hr
theorem aj.Cl{f:FuncId}{fs cs:List Operand}{l m:List D}(hl:tT T fs l)(hm:tT T cs m)(hr:aj P ops c os (bf T dst (.nH f l m)) H sps T' H'):
  aj P ops c (⟨dst,.makeFunc (.func f) fs.toArray cs.toArray,ty,pos,aft,none⟩::os) T H (ps (fs.zip l++cs.zip m) (.nH f l m)::sps) T' H':=
 .pure (fs.zip l++cs.zip m) rfl (by
  intro y hy;rcases List.mem_append.1 hy with hy|hy
  ·exact fl hl y hy
  ·exact fl hm y hy) (fun r hr=>by
  have hz:∀{xs:List Operand} {ds:List D},tT T xs ds->∀r∈bF ds,∃x∈xs.zip ds,r∈x.2.nm:=by
   intro xs ds he r hr;obtain⟨d,hd,hr'⟩:=bM.1 hr;obtain⟨i,hi⟩:=List.getElem?_of_mem hd;have hlen:xs.length=ds.length:=by
    have:∀{xs:List Operand} {ds:List D},tT T xs ds->xs.length=ds.length:=by
     intro xs
     induction xs with
     |nil=>intro ds h;cases ds with|nil=>rfl|cons _ _=>exact h.elim
     |cons x xs ih=>intro ds h;cases ds with|nil=>exact h.elim|cons d ds=>simp[ih h.2]
    exact this he
   have hix:i<xs.length:=by rw[hlen];exact(List.getElem?_eq_some_iff.1 hi).1
   exact⟨(xs[i],d),List.mem_of_getElem? (i:=i) (by rw[List.getElem?_zip_eq_some];exact⟨List.getElem?_eq_getElem hix,hi⟩),hr'⟩
  rcases List.mem_append.1 (show r∈bF l++bF m from hr)with h|h
  ·obtain⟨x,hx,hr'⟩:=hz hl r h;exact⟨x,List.mem_append_left _ hx,hr'⟩
  ·obtain⟨x,hx,hr'⟩:=hz hm r h;exact⟨x,List.mem_append_right _ hx,hr'⟩) (fun ε w S a ha=>by
  refine⟨_,by simp only[execOp,Instr.makeFunc,Sem.run_bind,Sem.run_pure,Result.andThen_ok];rfl,fs.map a.eval,cs.map a.eval,by simp,?_,?_⟩
  ·exact fI hl (fun y hy=>ha y (List.mem_append_left _ hy))
  ·exact fI hm (fun y hy=>ha y (List.mem_append_right _ hy))) hr
def wc(c:Ctx)(Hi Ho:List (Nat×Hp))(b:Nat->Value)(d:D):Ending->World->Prop:=fun e w=>∃v ε φ,e=.returned v/\(∀r,ai Hi r≠none->ε r=b r)/\wG c Ho d ε w φ v
def pins(b:Nat->Value):List Nat->List (Nat×D)
 |[]=>[]
 |r::l=>(1000000+r,.pinned r (b r))::pins b l
theorem iE{b:Nat->Value}{t:Nat}{d:D}:∀{l:List Nat},aO (pins b l) t=some d->∃r∈l,t=1000000+r/\d=.pinned r (b r)
 |[],h=>by cases h
 |r::l,h=>by
  simp only[pins,aO]at h;cases hb:Nat.beq t (1000000+r)with
  |true=>rw[hb]at h;injection h with h;exact⟨r,by simp,Nat.eq_of_beq_eq_true hb,h.symm⟩
  |false=>rw[hb]at h;obtain⟨r',h1,h2⟩:=iE h;exact⟨r',by simp[h1],h2⟩
theorem ga{l m:List (Nat×D)}{t:Nat}{d:D}(h:aO (l++m) t=some d):aO l t=some d\/aO m t=some d:=by
 induction l with
 |nil=>exact .inr h
 |cons x l ih=>
  obtain⟨t',d'⟩:=x;simp only[List.cons_append,aO]at h|-
  cases hb:Nat.beq t t' with
  |true=>rw[hb]at h;exact .inl h
  |false=>rw[hb]at h;exact ih h
theorem bb.of{f:FuncId}{fn:Func}{x:Code}{Hi Ho:List (Nat×Hp)}{ds:List D}{d:D}(hf:P.funcs[f]?=some fn)(hb:fn.body=some x)(hok:l8 P f=true)(hd:cp Hi (bF ds)=true)(hni:cp Hi (iV Hi)=true)(hno:cp Ho (iV Ho)=true)(hnr:cp Ho d.nm=true)(hk:cp Ho (names Hi)=true)
  (hl:Nat.ble ds.length fn.ntmps=true)(h:∀A w0 L b,Ok P ⟨A,w0.heap.size,w0,fn.ntmps,L⟩ (frame 0 ds++pins b (names Hi)) Hi x (bodyPost P fn (wc ⟨A,w0.heap.size,w0,fn.ntmps,L⟩ Hi Ho b d))):bb P f Hi ds Ho d where
 ok:=hok
 BJ:=hd
 BY:=hni
 BD:=hno
 A2:=hnr
 rR:=hk
 calls:=by
  intro A w ε φ vs hlo hdj hp hv;refine(calls_of_wp hf hb (h A w (ld Hi φ) ε _ _ ⟨ε,φ,?_⟩)).mono (fun e w' ⟨v,ε',φ',e',hε,hB⟩=>⟨v,ε',φ',e',hε,hB⟩);have hlen:=aS hv;have hl':=Nat.le_of_ble_eq_true hl;have hreg:∀k,A k->k<w.heap.size->ak ⟨A,w.heap.size,w,fn.ntmps,ld Hi φ⟩ (ai Hi) φ k/\w.heap[k]?=w.heap[k]?:=fun k hk _=>⟨⟨.inl hk,fun r hr hf=>(hlo r hr k hf).1 hk⟩,rfl⟩
  constructor
  ·intro t d' ht;rcases ga ht with ht|ht
   ·obtain⟨j,v,e,hj,hp,_⟩:=ec hv ht;have hjl:j<vs.length:=(List.getElem?_eq_some_iff.1 hj).1;have:(vs.toArray++Array.replicate (fn.ntmps-vs.toArray.size) undef).getD t undef=v:=by
     simp only[Nat.zero_add]at e;subst e;simp[Array.getD_eq_getD_getElem?,Array.getElem?_append,hjl];have:=(List.getElem?_eq_some_iff.1 hj).2;exact this
    rw[this];exact d'.mono hp (fun _ _=>rfl) hreg
   ·obtain⟨r,_,_,rfl⟩:=iE ht
    rfl
  ·intro t d' ht r hr;rcases ga ht with ht|ht
   ·obtain⟨_,_,_,_,_,hm⟩:=ec hv ht;exact cH hd r (bM.2 ⟨d',hm,hr⟩)
   ·obtain⟨r',hr',_,rfl⟩:=iE ht;have:r=r':=by simpa [D.pinned]using hr
    subst this;exact bW.2 hr'
  ·exact fun r y hy=>y.mono (hp r y hy) (fun _ _=>rfl) hreg (fun _ _=>rfl)
  ·exact mM hni
  ·exact fun r hr k hk=>⟨.inr ⟨r,hr,hk⟩,(hlo r hr k hk).2⟩
  ·exact hdj
  ·exact .of (Below.refl _ _)
  ·rfl
  ·simp[hlen];omega
  ·rfl
def sR(P:Program)(c:Ctx)(T:List (Nat×D))(H:List (Nat×Hp)):List ResultVar->List D->Prop
 |[],[]=>True
 |x::xs,d::ds=>RV P c T H x d/\sR P c T H xs ds
 |_,_=>False
theorem sR.nil:sR P c T H [] []:=trivial
theorem sR.cons{x:ResultVar}{d:D}{xs:List ResultVar}{ds:List D}(h:RV P c T H x d)(k:sR P c T H xs ds):sR P c T H (x::xs) (d::ds):=⟨h,k⟩
def x_:List D->D
 |[d]=>d
 |ds=>.fA ds
theorem sR.run{P:Program}{a:Act}{w:World}{ε:Env}{φ:Nat->cl}(hs:cf c (aO T) (ai H) a w ε φ):∀{xs:List ResultVar} {ds:List D},sR P c T H xs ds->
  ∃vs:List Value,(xs.mapM (Bw a.tmps)).run P w=.ok vs w/\bX ε w (ak c (ai H) φ) ds vs
 |[],[],_=>⟨[],rfl,trivial⟩
 |x::xs,d::ds,h=>by
  obtain⟨v,hv,hp⟩:=h.1 a w ε φ hs;obtain⟨vs,hvs,hps⟩:=sR.run hs h.2;exact⟨v::vs,by simp[List.mapM_cons,hv,hvs],hp,hps⟩
 |[],_::_,h=>h.elim
 |_::_,[],h=>h.elim
theorem sR.res{P:Program}{fn:Func}{xs:List ResultVar}{ds:List D}(hx:fn.results=xs.toArray)(h:sR P c T H xs ds){a:Act}{w:World}{ε:Env}{φ:Nat->cl}(hs:cf c (aO T) (ai H) a w ε φ):
  ∃v,(results fn a.tmps).run P w=.ok v w/\(x_ ds).p ε w (ak c (ai H) φ) v:=by
 obtain⟨vs,hvs,hp⟩:=sR.run hs h;have hlen:=aS hp;rw[eE,hx]
 match ds,vs,hp,hlen with
 |[d],[v],hp,_=>exact⟨v,by simp[hvs],hp.1⟩
 |[],[],_,_=>exact⟨.tuple #[],by simp[hvs],[],rfl,trivial⟩
 |d1::d2::ds,v1::v2::vs,hp,_=>exact⟨.tuple (v1::v2::vs).toArray,by simp[hvs],v1::v2::vs,rfl,hp⟩
theorem Sat.aF{fn:Func}{xs:List ResultVar}{ds:List D}{d:D}{Hi Ho:List (Nat×Hp)}{b:Nat->Value}(hx:fn.results=xs.toArray)(h:sR P c T H xs ds)(hle:Le (x_ ds) d)
  (hT:gG T (pins b (names Hi)))(hH:jw H Ho):∀a w,Sat c (aO T) (ai H) a w->bodyPost P fn (wc c Hi Ho b d) .ret a w:=by
 intro a w ⟨ε,φ,hs⟩;obtain⟨v,hv,hp⟩:=h.res hx hs;have live:∀r,ai Ho r≠none->ai H r≠none:=by
  intro r hr
  cases hq:ai Ho r with
  |none=>exact absurd hq hr
  |some y=>obtain⟨z,hz,_⟩:=kW hH r y hq;rw[hz];simp
 have hreg:∀k,Am.ak c (ai H) φ k->k<w.heap.size->Am.ak c (ai Ho) φ k/\w.heap[k]?=w.heap[k]?:=fun k hk _=>⟨⟨hk.1,fun r hr=>hk.2 r (live r hr)⟩,rfl⟩;have hB:wG c Ho d ε w φ v:=by
  refine⟨d.mono (hle.1 _ _ _ _ hp) (fun _ _=>rfl) hreg,fun r h' hr=>?_,fun r hr=>hs.lo r (live r hr),fun r r' hr hr'=>hs.dj r r' (live r hr) (live r' hr'),hs.oL⟩;obtain⟨h,hh,hle⟩:=kW hH r h' hr;exact h'.mono (hle.1 _ _ _ _ _ (hs.h r h hh)) (fun _ _=>rfl) hreg (fun _ _=>rfl)
 refine⟨hs.df,v,hv,v,ε,φ,rfl,fun r hr=>?_,hB⟩
 ·have hm:=bW.1 hr;have hpin:∀{l:List Nat},r∈l->∃d',aO (pins b l) (1000000+r)=some d':=by
   intro l
   induction l with
   |nil=>intro h;cases h
   |cons r0 l ih=>
    intro h;simp only[pins,aO];cases hb:Nat.beq (1000000+r) (1000000+r0)with
    |true=>exact⟨_,rfl⟩
    |false=>
     rcases List.mem_cons.1 h with rfl|h
     ·simp at hb
     ·exact ih h
  obtain⟨d',hd'⟩:=hpin hm;obtain⟨r2,_,e2,rfl⟩:=iE hd';have:r2=r:=by omega
  subst this;obtain⟨d0,h0,hle0⟩:=kN hT _ _ hd';exact hle0.1 _ _ _ _ (hs.t _ _ h0)
theorem Ok.aF{fn:Func}{xs:List ResultVar}{ds:List D}{d:D}{Hi Ho:List (Nat×Hp)}{b:Nat->Value}{Q:Exit->Act->World->Prop}(hQ:∀a w,bodyPost P fn (wc c Hi Ho b d) .ret a w->Q .ret a w)(hx:fn.results=xs.toArray)(h:sR P c T H xs ds)(hle:Le (x_ ds) d)
  (hT:gG T (pins b (names Hi)))(hH:jw H Ho):Ok P c T H .ret Q:=fun a w hs=>wp_ret (hQ a w (Sat.aF hx h hle hT hH a w hs))
theorem Sat.Bu{fn:Func}{xs:List ResultVar}{ds:List D}{d:D}{Hi Ho:List (Nat×Hp)}{b:Nat->Value}{a:Act}{w:World}(hs:Sat c (aO T) (ai H) a w)(hx:fn.results=xs.toArray)(h:sR P c T H xs ds)(hle:Le (x_ ds) d)(hT:gG T (pins b (names Hi)))(hH:jw H Ho):
  bodyPost P fn (wc c Hi Ho b d) .normal a w:=Sat.aF hx h hle hT hH a w hs
theorem bb.plain{f:FuncId}{ds:List D}{d:D}(h:bb P f [] ds [] d):j5 P f ds d where
 ok:=h.ok
 bF:=by
  cases e:Am.bF ds with
  |nil=>rfl
  |cons r l=>exact absurd rfl (cH h.BJ r (by rw[e];simp))
 nm:=by
  cases e:d.nm with
  |nil=>rfl
  |cons r l=>exact absurd rfl (cH h.A2 r (by rw[e];simp))
 calls:=by
  intro A w vs hv;refine(h.calls A w ε0 (fun _=>noBlocks) vs (fun r hr=>absurd rfl hr) (fun r _ hr=>absurd rfl hr) (fun r y hy=>by cases hy) hv).mono ?_;rintro e w' ⟨v,ε',φ',rfl,_,hp,_,_,_,hb⟩;have hnm:d.nm=[]:=by
   cases e:d.nm with
   |nil=>rfl
   |cons r l=>exact absurd rfl (cH h.A2 r (by rw[e];simp))
  refine⟨v,rfl,d.mono hp (by rw[hnm];intro r hr;cases hr) (fun k hk _=>⟨?_,rfl⟩),⟨hb.os,hb.tape,hb.output,hb.size,fun k hk=>hb.block k hk ?_⟩⟩
  ·rcases hk.1 with h|h|⟨r,hr,_⟩
   ·exact .inl h
   ·exact .inr h
   ·exact absurd rfl hr
  ·rintro⟨r,hr,_⟩;exact absurd rfl hr
theorem j5.gen{f:FuncId}{ds:List D}{d:D}(h:j5 P f ds d):bb P f [] ds [] d where
 ok:=h.ok
 BJ:=by rw[h.bF];rfl
 BY:=rfl
 BD:=rfl
 A2:=by rw[h.nm];rfl
 rR:=rfl
 calls:=by
  intro A w ε φ vs _ _ _ hv;refine(h.calls A w vs (bN (fun k hk _=>⟨hk,rfl⟩) hv (by rw[h.bF];intro r hr;cases hr))).mono ?_;rintro e w' ⟨v,rfl,hp,hb⟩;have hB:wG ⟨A,w.heap.size,w,0,ld [] φ⟩ [] d ε0 w' (fun _=>noBlocks) v:=by
   refine⟨d.mono hp (fun _ _=>rfl) (fun k hk _=>⟨⟨hk.elim .inl (fun h=>.inr (.inl h)),fun r hr=>absurd rfl hr⟩,rfl⟩),?_,fun r hr=>absurd rfl hr,fun r _ hr=>absurd rfl hr,lj.of hb⟩;intro r y hy;cases hy
  exact⟨v,ε0,fun _=>noBlocks,rfl,fun r hr=>absurd rfl hr,hB⟩
end
theorem sR.t1{P:Program}{c:Ctx}{T:List (Nat×D)}{H:List (Nat×Hp)}{x:ResultVar}{d:D}(h:RV P c T H x d):sR P c T H [x] [d]:=⟨h,trivial⟩
end Go.Am
namespace Go.Am
open Go.RowKit
inductive Ex(σ ρ:Type) where
 |cy (s:σ)
 |ret (r:ρ)
section
variable {P:Program} {os:List Oper} {c:Ctx} {T T':List (Nat×D)} {H H':List (Nat×Hp)} {sps:List Spec}
variable {ops:Array Oper} {dst:Option Nat} {ty:TypeId} {pos:String} {aft:Array Edge} {Q:Exit->Act->World->Prop} {x y:Code}
theorem Ok.du{ι:Type}(q:ι->Prop)(JT:ι->List (Nat×D))(JH:ι->List (Nat×Hp))(h:Ok P c T H x (Exit.then (fun a w=>∃i,q i/\Sat c (aO (JT i)) (ai (JH i)) a w) Q))(k:∀i,q i->Ok P c (JT i) (JH i) y Q):Ok P c T H (.seq x y) Q:=
 .seq h (fun a w ⟨i,hq,hs⟩=>k i hq a w hs)
theorem Ok.bT{o:Operand}{b:Bool}(h:ev T o=some (.bool b))(hb:b=true)(k:Ok P c T H x Q):Ok P c T H (.cond o x y) Q:=by subst hb;exact .cT h k
theorem Ok.cC{o:Operand}{b:Bool}(h:ev T o=some (.bool b))(hb:¬b=true)(k:Ok P c T H y Q):Ok P c T H (.cond o x y) Q:=by
 have hb:b=false:=by simpa using hb
 subst hb;exact .cF h k
theorem aj.C2{op:Op}{j g:Nat}{b:Bool}{sp:Spec}(hj:(ops[j]?).bind (·.dst)=some g)(hlt:Nat.blt g c.n=true)(hg:aO T g=some (.bool b))(hb:b=true)
  (hr:aj P ops c (⟨dst,op,ty,pos,aft,none⟩::os) T H (sp::sps) T' H'):aj P ops c (⟨dst,op,ty,pos,aft,some (j,true)⟩::os) T H (gs g b sp::sps) T' H':=.gY hj hlt hg (by rw[hb];rfl) hr
theorem aj.jN{op:Op}{j g:Nat}{b:Bool}{sp:Spec}(hj:(ops[j]?).bind (·.dst)=some g)(hlt:Nat.blt g c.n=true)(hg:aO T g=some (.bool b))(hb:¬b=true)
  (hr:aj P ops c (⟨dst,op,ty,pos,aft,none⟩::os) T H (sp::sps) T' H'):aj P ops c (⟨dst,op,ty,pos,aft,some (j,false)⟩::os) T H (gs g b sp::sps) T' H':=.gY hj hlt hg (by simp[hb]) hr
def D.qI:D:={p:=fun _ _ _ v=>v=undef,nm:=[],sh:=.Bf,mono:=fun h _ _=>h,iD:=fun _=>trivial}
theorem aj.CI{op:Op}{j g:Nat}{b want:Bool}(hj:(ops[j]?).bind (·.dst)=some g)(hlt:Nat.blt g c.n=true)(hg:aO T g=some (.bool b))(hb:(b==want)=false)
  (hr:aj P ops c os (bf T dst .qI) H sps T' H'):aj P ops c (⟨dst,op,ty,pos,aft,some (j,want)⟩::os) T H (gs g b (ps [] .qI)::sps) T' H':=by
 refine .cons (sp:=gs g b (ps [] .qI)) ?_ ⟨hg,trivial⟩ trivial trivial hr;intro hd T0 H0 hi hh hn a w hsat Q K hK;obtain⟨ε,φ,hs'⟩:=hsat;have hy:yielded ops a.tmps j=some b:=uu hj (by rw[hs'.sz];simpa using hlt) (hs'.t g _ hi.1);have hw:¬Region.wanted (⟨dst,op,ty,pos,aft,some (j,want)⟩:Oper) (yielded ops a.tmps)=true:=by
  have:b≠want:=by intro e;subst e;simp at hb
  simp[Region.wanted,hy,this]
 rw[if_neg hw];exact hK _ _ ⟨ε,φ,hs'.put (d:=.qI) (cG hd) rfl (fun _ h=>by cases h)⟩
theorem aj.CR{op:Op}{j g:Nat}{b:Bool}(hj:(ops[j]?).bind (·.dst)=some g)(hlt:Nat.blt g c.n=true)(hg:aO T g=some (.bool b))(hb:¬b=true)
  (hr:aj P ops c os (bf T dst .qI) H sps T' H'):aj P ops c (⟨dst,op,ty,pos,aft,some (j,true)⟩::os) T H (gs g b (ps [] .qI)::sps) T' H':=.CI hj hlt hg (by simp[hb]) hr
theorem aj.qO{op:Op}{j g:Nat}{b:Bool}(hj:(ops[j]?).bind (·.dst)=some g)(hlt:Nat.blt g c.n=true)(hg:aO T g=some (.bool b))(hb:b=true)
  (hr:aj P ops c os (bf T dst .qI) H sps T' H'):aj P ops c (⟨dst,op,ty,pos,aft,some (j,false)⟩::os) T H (gs g b (ps [] .qI)::sps) T' H':=.CI hj hlt hg (by rw[hb];rfl) hr
def B3(g:Nat):Spec:={ins:=[(g,.qI)],cO:=[],out:=.qI,c_:=[],news:=[]}
theorem aj.gU{op:Op}{j g:Nat}{want:Bool}(hj:(ops[j]?).bind (·.dst)=some g)(hg:aO T g=some .qI)
  (hr:aj P ops c os (bf T dst .qI) H sps T' H'):aj P ops c (⟨dst,op,ty,pos,aft,some (j,want)⟩::os) T H (B3 g::sps) T' H':=by
 refine .cons (sp:=B3 g) ?_ ⟨hg,trivial⟩ trivial trivial hr;intro hd T0 H0 hi hh hn a w hsat Q K hK;obtain⟨ε,φ,hs'⟩:=hsat;have hv:a.tmps.getD g undef=undef:=hs'.t g _ hi.1;have hy:yielded ops a.tmps j=none:=by
  unfold yielded;simp only[hj,Option.bind_some];cases hq:a.tmps[g]?with
  |none=>rfl
  |some v=>
   have:v=undef:=by rw[←hv,Array.getD_eq_getD_getElem?,hq];rfl
   rw[this];rfl
 have hw:¬Region.wanted (⟨dst,op,ty,pos,aft,some (j,want)⟩:Oper) (yielded ops a.tmps)=true:=by simp[Region.wanted,hy]
 rw[if_neg hw];exact hK _ _ ⟨ε,φ,hs'.put (d:=.qI) (cG hd) rfl (fun _ h=>by cases h)⟩
theorem aj.an{z x y:Operand}{d:D}{b:Bool}(hz:ev T z=some (.bool b))(hb:b=true)(hx:ev T x=some d)(hr:aj P ops c os (bf T dst d) H sps T' H'):
  aj P ops c (⟨dst,.pick z x y,ty,pos,aft,none⟩::os) T H (ps [(z,.bool true),(x,d)] d::sps) T' H':=by subst hb;exact .B2 hz hx hr
theorem aj.al{z x y:Operand}{d:D}{b:Bool}(hz:ev T z=some (.bool b))(hb:¬b=true)(hy:ev T y=some d)(hr:aj P ops c os (bf T dst d) H sps T' H'):
  aj P ops c (⟨dst,.pick z x y,ty,pos,aft,none⟩::os) T H (ps [(z,.bool false),(y,d)] d::sps) T' H':=by
 have hb:b=false:=by simpa using hb
 subst hb;exact .CL hz hy hr
end
theorem pU.zm{ρ:Nat->Nat}{r n:Nat}:pU ρ (.sl (ρ r) n) (.own r):=⟨fun _ _ _ _ h=>Le.sl.1 _ _ _ _ (show(D.sl r n).p _ _ _ _ from h),fun r' hr'=>by simp[D.own,D.sl]at hr'|-;rw[hr']⟩
section
variable {P:Program} {os:List Oper} {c:Ctx} {T T':List (Nat×D)} {H H':List (Nat×Hp)} {sps:List Spec}
variable {ops:Array Oper} {dst:Option Nat} {ty:TypeId} {pos:String} {aft:Array Edge} {Q:Exit->Act->World->Prop} {x y:Code}
def b_(l:List UInt8):D:=.str ⟨l.toArray⟩
theorem wa(a b:List UInt8):(⟨a.toArray⟩:ByteArray)++⟨b.toArray⟩=⟨(a++b).toArray⟩:=by
 apply ByteArray.ext;rw[ByteArray.data_append];simp
theorem p6(a:List UInt8)(i j:Nat):ByteArray.extract ⟨a.toArray⟩ i j=⟨((a.take j).drop i).toArray⟩:=by
 apply ByteArray.ext;rw[ByteArray.data_extract];simp[List.extract_eq_take_drop,List.drop_take]
theorem ry(a:List UInt8):ByteArray.toList ⟨a.toArray⟩=a:=ByteArray.toList_eq _
theorem aj.zC{xt yt:TypeId}{x y:Operand}{s u:List UInt8}(hx:ev T x=some (b_ s))(hy:ev T y=some (b_ u))(h:s.length+u.length<=9223372036854775807)
  (hr:aj P ops c os (bf T dst (b_ (s++u))) H sps T' H'):aj P ops c (⟨dst,.binOp .add xt x y yt,ty,pos,aft,none⟩::os) T H (ps [(x,b_ s),(y,b_ u)] (b_ (s++u))::sps) T' H':=by
 have e:=wa s u;have:=aj.cat (P:=P) (os:=os) (c:=c) (T:=T) (T':=T') (H:=H) (H':=H') (sps:=sps) (ops:=ops) (dst:=dst) (ty:=ty) (pos:=pos) (aft:=aft) (xt:=xt) (yt:=yt) hx hy h;rw[e]at this;exact this hr
theorem aj.Bm{xt yt:TypeId}{x y:Operand}{s u:List UInt8}(hx:ev T x=some (b_ s))(hy:ev T y=some (b_ u))(hr:aj P ops c os (bf T dst (.bool (s==u))) H sps T' H'):
  aj P ops c (⟨dst,.binOp .eql xt x y yt,ty,pos,aft,none⟩::os) T H (ps [(x,b_ s),(y,b_ u)] (.bool (s==u))::sps) T' H':=
 .sc hx hy (by simp only[BU,ry]) hr
theorem aj.CQ{xt yt:TypeId}{x y:Operand}{s u:List UInt8}(hx:ev T x=some (b_ s))(hy:ev T y=some (b_ u))(hr:aj P ops c os (bf T dst (.bool (!(s==u)))) H sps T' H'):
  aj P ops c (⟨dst,.binOp .neq xt x y yt,ty,pos,aft,none⟩::os) T H (ps [(x,b_ s),(y,b_ u)] (.bool (!(s==u)))::sps) T' H':=
 .sc hx hy (by simp only[BU,ry]) hr
theorem aj.sG{t:TypeId}{x:Operand}{s:List UInt8}(hx:ev T x=some (b_ s))(ht:isStr P t=true)(hr:aj P ops c os (bf T dst (.int .i64 s.length)) H sps T' H'):
  aj P ops c (⟨dst,.call {callee:=.builtin .len,args:=#[x],argTypes:=#[t]},ty,pos,aft,none⟩::os) T H (ps [(x,b_ s)] (.int .i64 s.length)::sps) T' H':=.Cy hx ht hr
theorem aj.C1{t:TypeId}{x y:Operand}{s:List UInt8}{k:IntKind}{z:Int}{b:UInt8}(hx:ev T x=some (b_ s))(hy:ev T y=some (.int k z))(ht:isStr P t=true)(h0:0<=z)(hb:s[z.toNat]?=some b)
  (hr:aj P ops c os (bf T dst (.int .u8 b.toNat)) H sps T' H'):
  aj P ops c (⟨dst,.index t x y,ty,pos,aft,none⟩::os) T H (ps [(x,b_ s),(y,.int k z)] (.int .u8 b.toNat)::sps) T' H':=by
 obtain⟨hlt,he⟩:=List.getElem?_eq_some_iff.1 hb;refine .Ca hx hy ht h0 ?_ hr;have hlt':z.toNat<(ByteArray.mk s.toArray).size:=hlt;rw[getElem?_pos (c:=ByteArray.mk s.toArray) (i:=z.toNat) hlt'];exact congrArg some he
theorem aj.CS{t:TypeId}{x y:Operand}{s:List UInt8}{k:IntKind}{z:Int}(hx:ev T x=some (b_ s))(hy:ev T y=some (.int k z))(ht:isStr P t=true)(h0:0<=z)(h1:z<=s.length)(hr:aj P ops c os (bf T dst (b_ (s.drop z.toNat))) H sps T' H'):
  aj P ops c (⟨dst,.slice t x (some y) none none,ty,pos,aft,none⟩::os) T H (ps [(x,b_ s),(y,.int k z)] (b_ (s.drop z.toNat))::sps) T' H':=by
 have e:ByteArray.extract ⟨s.toArray⟩ z.toNat (ByteArray.mk s.toArray).size=⟨(s.drop z.toNat).toArray⟩:=by
  rw[p6];congr 3;exact List.take_of_length_le (Nat.le_refl _)
 have:=aj.CV (P:=P) (os:=os) (c:=c) (T:=T) (T':=T') (H:=H) (H':=H') (sps:=sps) (ops:=ops) (dst:=dst) (ty:=ty) (pos:=pos) (aft:=aft) hx hy ht h0 h1;rw[e]at this;exact this hr
theorem aj.CD{t:TypeId}{x y:Operand}{s:List UInt8}{k:IntKind}{z:Int}(hx:ev T x=some (b_ s))(hy:ev T y=some (.int k z))(ht:isStr P t=true)(h0:0<=z)(h1:z<=s.length)(hr:aj P ops c os (bf T dst (b_ (s.take z.toNat))) H sps T' H'):
  aj P ops c (⟨dst,.slice t x none (some y) none,ty,pos,aft,none⟩::os) T H (ps [(x,b_ s),(y,.int k z)] (b_ (s.take z.toNat))::sps) T' H':=by
 have e:ByteArray.extract ⟨s.toArray⟩ 0 z.toNat=⟨(s.take z.toNat).toArray⟩:=by rw[p6];rfl
 have:=aj.jW (P:=P) (os:=os) (c:=c) (T:=T) (T':=T') (H:=H) (H':=H') (sps:=sps) (ops:=ops) (dst:=dst) (ty:=ty) (pos:=pos) (aft:=aft) hx hy ht h0 h1;rw[e]at this;exact this hr
theorem aj.Db{t:TypeId}{parts:List (Nat×Operand)}{z l:List D}{pl:List (Nat×Nat)}(q:List (Nat×Operand×D×List D))(hz:wX P t=some z)(hp:Aj P t=some pl)(hq:i4 pl z.length parts q)(he:∀x∈qs q,ev T x.1=some x.2)(hle:oz (over z q) l)
  (hr:aj P ops c os (bf T dst (.agg l)) H sps T' H'):
  aj P ops c (⟨dst,.build t parts.toArray,ty,pos,aft,none⟩::os) T H (ps (qs q) (.agg l)::sps) T' H':=by
 have hb:=aj.bd (P:=P) (os:=[]) (c:=c) (T:=T) (T':=bf T dst (.agg (over z q))) (H:=H) (H':=H) (sps:=[]) (ops:=ops) (dst:=dst) (ty:=ty) (pos:=pos) (aft:=aft) q hz hp hq he .nil
 cases hb with
 |cons hs hi hh hn _=>
  refine .cons (sp:=ps (qs q) (.agg l)) ?_ hi hh hn hr;intro hd T0 H0 hi0 hh0 hn0 a w hsat Q K hK;refine hs hd T0 H0 hi0 hh0 hn0 a w hsat Q K (fun a' w' hs'=>hK a' w' ?_);obtain⟨ε,φ,hs'⟩:=hs';refine⟨ε,φ,{hs' with t:=?_,tn:=?_}⟩
  ·intro t' d hd'
   cases dst with
   |none=>exact hs'.t t' d hd'
   |some t0=>
    simp only[fR]at hd';by_cases e:t'=t0
    ·rw[if_pos e]at hd';injection hd' with hd';subst hd';exact(Le.agg hle).1 _ _ _ _ (hs'.t t' _ (by simp only[fR];rw[if_pos e];rfl))
    ·rw[if_neg e]at hd';exact hs'.t t' d (by simp only[fR];rw[if_neg e];exact hd')
  ·intro t' d hd' r hr'
   cases dst with
   |none=>exact hs'.tn t' d hd' r hr'
   |some t0=>
    simp only[fR]at hd';by_cases e:t'=t0
    ·rw[if_pos e]at hd';injection hd' with hd';subst hd';exact hs'.tn t' (.agg (over z q)) (by simp only[fR];rw[if_pos e];rfl) r (hle.bF r hr')
    ·rw[if_neg e]at hd';exact hs'.tn t' d (by simp only[fR];rw[if_neg e];exact hd') r hr'
theorem aj.eZ{t r:Nat}{z:List D}(l:List D)(hz:wX P t=some z)(hle:oz z l)(hf:ai H r=none)(hr:aj P ops c os ((r,.ref r 0)::T) ((r,.box t l)::H) sps T' H'):
  aj P ops c (⟨some r,.alloc t,ty,pos,aft,none⟩::os) T H (bs [] r t l::sps) T' H':=by
 unfold wX at hz
 cases hi:P.info? t with
 |none=>simp[hi]at hz
 |some i=>
  cases hv:i.zero with
  |none=>simp[hi,hv]at hz
  |some v=>
   simp only[hi,hv]at hz
   split at hz
   ·rename_i h1;injection hz with hz;subst hz;refine .new [] t _ rfl rfl (by simp) hf (fun r hr=>by have:=hle.bF r hr;rw[sI]at this;cases this) (fun ε w S a _=>⟨v.cells.toList,?_,fun u hu=>Array.all_eq_true_iff_forall_mem.1 h1 u (by simpa using hu),hle.all (iz _ _ _ _)⟩) hr;simp only[execOp,Instr.alloc,zeroValue,typeInfo,Sem.run_bind,run_program,Result.andThen_ok,hi,hv,Sem.run_pure,newVar,newRow,run_newObj,Array.toArray_toList]
    rfl
   ·cases hz
theorem aj.Dh{α:Type}{e:aK α}{t te:TypeId}{parts:List (Nat×Operand)}{m bt n:Nat}{z:List D}(xs:List α)(q:List (Nat×Operand×D×List D))(hm:mj P t=some (te,m,bt,z))(hmn:m=e.n)(hs:Nat.ble (n*m) 16777216=true)(hn0:Nat.blt 0 n=true)(hq:i4 (yU m 0 n) (n*m) parts q)(he:∀x∈qs q,ev T x.1=some x.2)
  (hle:over (List.replicate n z).flatten q=flat e xs)(hln:xs.length=n)
  (hr:aj P ops c os (bf T dst (br e xs)) H sps T' H'):
  aj P ops c (⟨dst,.buildSlice t n parts.toArray,ty,pos,aft,none⟩::os) T H (ps (qs q) (br e xs)::sps) T' H':=by
 subst hmn;subst hln;exact .bl (hl:=eO e xs) q hm hs hn0 hq he hle (by rw[cb];simp) hr
theorem aj.z6{f:FuncId}{xs:List Operand}{ats:Array TypeId}{Hi Ho:List (Nat×Hp)}{ds:List D}{d:D}(es:List D)(hc:bb P f Hi ds Ho d)(he:tT T xs es)(hle:oz es ds)(cO:hasAll H Hi)(hnew:jQ (ai H) (eC Hi Ho))
  (hr:aj P ops c os (bf T dst d) (Ho++H) sps T' H'):
  aj P ops c (⟨dst,.call {callee:=.value (.func f),args:=xs.toArray,argTypes:=ats},ty,pos,aft,none⟩::os) T H (Bj (xs.zip es) Hi Ho d::sps) T' H':=
 .goes (xs.zip es) hc rfl (fl he) cO hnew (fun ε w S a ha=>⟨_,jY hc.ok a w,hle.all (fI he ha)⟩) hr
theorem aj.Cb{α:Type}{e:aK α}{t te:TypeId}{x y:Operand}{r1 r m bt:Nat}{xs ys:List α}{z:List D}{dx dy:D}(hx:ev T x=some dx)(hdx:Le dx (.own r1))(hy:ev T y=some dy)(hdy:Le dy (br e ys))(hh:ai H r1=some (bm e te xs))(hm:mj P t=some (te,m,bt,z))(hmn:m=e.n)
  (hb:(xs.length+ys.length)*bt<=140737488355328)(hmax:xs.length+ys.length<=9223372036854775807)(hf:ai H r=none)
  (hr:aj P ops c os ((r,.own r)::T) ((r1,.dead)::(r,bm e te (xs++ys))::H) sps T' H'):
  aj P ops c (⟨some r,.call {callee:=.builtin .append,args:=#[x,y],argTypes:=#[t,t]},ty,pos,aft,none⟩::os) T H
   (apps x dx y dy r1 r [(r1,bm e te xs)] (bm e te (xs++ys))::sps) T' H':=by
 subst hmn;refine .cons (sp:=apps x dx y dy r1 r [(r1,bm e te xs)] (bm e te (xs++ys))) ?_ (aV.2 ⟨(aA hx).1,(aA hy).1⟩) ⟨hh,trivial⟩ ⟨hf,trivial⟩ hr;intro hd T0 H0 hi cO hnew a w ⟨ε,φ,hs⟩ Q K hK;rw[if_pos (a_ rfl _)];obtain⟨hi1,hi2⟩:=aV.1 hi;have h1:a.eval x=ε r1:=(hdx.1 _ _ _ _ (hs.ev hi1 (aA hx).2).1).1;obtain⟨A,cap2,h2,_,hln,hA⟩:=hdy.1 _ _ _ _ (hs.ev hi2 (aA hy).2).1;obtain⟨vs,hvA,hv1,hv⟩:=vA hln hA;obtain⟨v',w',ε',φ',hrun,hS,ev',ho⟩:=hs.app (ty:=ty) hm (r:=r) (hl:=eO e (xs++ys)) cO.1 hnew.1 (cb e xs) hln (eO e ys) (kK e xs ys).symm hvA hv1 hv hb hmax (cap2:=cap2);have hrun':(Builtin.append_ #[t,t] ty #[a.eval x,a.eval y]).run P w=.ok v' w':=by rw[h1,h2];exact hrun
 simp only[Oper.wp,kh a w w' hrun',Oper.upon];refine hK _ _ ⟨ε',φ',hS.put (d:=.own r) (cG hd) ⟨ev'.symm,ho⟩ (fun r' hr'=>?_)⟩;have:r'=r:=by simpa [D.own]using hr'
 subst this;show bp H0 [(r1,.dead),(r',bm e te (xs++ys))] r'≠none;rw[fx];have hne:r'≠r1:=fun e=>by subst e;have:=cO.1;have h0:=hnew.1;rw[h0]at this;cases this
 rw[aL _ _ hne,aB];simp
theorem aj.cc{t tb r off n:Nat}{x y:Operand}{l m:List D}(l':List D)(h:ev T x=some (.ref r off))(hy:ev T y=some (.agg m))(hh:ai H r=some (.box tb l))(hl:lay P t=some (some n))(hm:Nat.beq m.length n=true)
  (hn:Nat.ble (off+n) l.length=true)(hle:l.take off++m++l.drop (off+n)=l')
  (hr:aj P ops c os (bf T dst .any) ((r,.box tb l')::H) sps T' H'):
  aj P ops c (⟨dst,.store t x y,ty,pos,aft,none⟩::os) T H (ws x (.ref r off) y (.agg m) r (.box tb l) (.box tb l')::sps) T' H':=by
 subst hle;exact .C7 h hy hh hl hm hn hr
theorem aj.zR{t tb r off:Nat}{x y:Operand}{l:List D}{e:D}(l':List D)(h:ev T x=some (.ref r off))(hy:ev T y=some e)(hh:ai H r=some (.box tb l))(hl:lay P t=some none)(hsh:e.sh=.one)
  (hn:Nat.ble (off+1) l.length=true)(hle:l.take off++[e]++l.drop (off+1)=l')
  (hr:aj P ops c os (bf T dst .any) ((r,.box tb l')::H) sps T' H'):
  aj P ops c (⟨dst,.store t x y,ty,pos,aft,none⟩::os) T H (ws x (.ref r off) y e r (.box tb l) (.box tb l')::sps) T' H':=by
 subst hle;exact .Dc h hy hh hl hsh hn hr
theorem aj.bH{t tb r off:Nat}{x:Operand}{l:List D}(d:D)(h:ev T x=some (.ref r off))(hh:ai H r=some (.box tb l))(hl:lay P t=some none)(hd:l[off]?=some d)
  (hr:aj P ops c os (bf T dst d) H sps T' H'):aj P ops c (⟨dst,.load t x,ty,pos,aft,none⟩::os) T H (rs x (.ref r off) r (.box tb l) d::sps) T' H':=.Dg h hh hl hd hr
end
def ix{α:Type}(xs:List α)(i:Int):Option α:=if 0<=i then xs[i.toNat]?else none
theorem ag{α:Type}{xs:List α}{i:Int}{a:α}(h:ix xs i=some a):0<=i/\xs[i.toNat]?=some a:=by
 unfold ix at h
 split at h
 ·rename_i h0;exact⟨h0,h⟩
 ·cases h
theorem bE{α:Type}{xs:List α}{i:Int}{a:α}(h:ix xs i=some a):i.toNat<xs.length:=(List.getElem?_eq_some_iff.1 (ag h).2).1
theorem aj.gy{P:Program}{os:List Oper}{c:Ctx}{T T':List (Nat×D)}{H H':List (Nat×Hp)}{sps:List Spec}{ops:Array Oper}{dst:Option Nat}{ty:TypeId}{pos:String}{aft:Array Edge}{op:Op}{j g:Nat}{b:Bool}{sp:Spec}(hb:b=true)(hr:aj P ops c (⟨dst,op,ty,pos,aft,none⟩::os) T H (sp::sps) T' H')(hj:(ops[j]?).bind (·.dst)=some g:=by exact rfl)(hlt:Nat.blt g c.n=true:=by exact rfl)(hg:aO T g=some (.bool b):=by exact rfl):aj P ops c (⟨dst,op,ty,pos,aft,some (j,true)⟩::os) T H (gs g b sp::sps) T' H':=.C2 hj hlt hg hb hr
theorem aj.gz{P:Program}{os:List Oper}{c:Ctx}{T T':List (Nat×D)}{H H':List (Nat×Hp)}{sps:List Spec}{ops:Array Oper}{dst:Option Nat}{ty:TypeId}{pos:String}{aft:Array Edge}{op:Op}{j g:Nat}{b:Bool}{sp:Spec}(hb:¬b=true)(hr:aj P ops c (⟨dst,op,ty,pos,aft,none⟩::os) T H (sp::sps) T' H')(hj:(ops[j]?).bind (·.dst)=some g:=by exact rfl)(hlt:Nat.blt g c.n=true:=by exact rfl)(hg:aO T g=some (.bool b):=by exact rfl):aj P ops c (⟨dst,op,ty,pos,aft,some (j,false)⟩::os) T H (gs g b sp::sps) T' H':=.jN hj hlt hg hb hr
theorem aj.Di{P:Program}{os:List Oper}{c:Ctx}{T T':List (Nat×D)}{H H':List (Nat×Hp)}{sps:List Spec}{ops:Array Oper}{dst:Option Nat}{ty:TypeId}{pos:String}{aft:Array Edge}{op:Op}{j g:Nat}{sp:Spec}(hr:aj P ops c (⟨dst,op,ty,pos,aft,none⟩::os) T H (sp::sps) T' H')(hj:(ops[j]?).bind (·.dst)=some g:=by exact rfl)(hlt:Nat.blt g c.n=true:=by exact rfl)(hg:aO T g=some (.bool false):=by exact rfl):aj P ops c (⟨dst,op,ty,pos,aft,some (j,false)⟩::os) T H (gs g false sp::sps) T' H':=.jN hj hlt hg (by decide) hr
theorem aj.gm{P:Program}{os:List Oper}{c:Ctx}{T T':List (Nat×D)}{H H':List (Nat×Hp)}{sps:List Spec}{ops:Array Oper}{dst:Option Nat}{ty:TypeId}{pos:String}{aft:Array Edge}{op:Op}{j g:Nat}{b:Bool}(hb:¬b=true)(hr:aj P ops c os (bf T dst .qI) H sps T' H')(hj:(ops[j]?).bind (·.dst)=some g:=by exact rfl)(hlt:Nat.blt g c.n=true:=by exact rfl)(hg:aO T g=some (.bool b):=by exact rfl):aj P ops c (⟨dst,op,ty,pos,aft,some (j,true)⟩::os) T H (gs g b (ps [] .qI)::sps) T' H':=.CR hj hlt hg hb hr
theorem aj.aN{P:Program}{os:List Oper}{c:Ctx}{T T':List (Nat×D)}{H H':List (Nat×Hp)}{sps:List Spec}{ops:Array Oper}{dst:Option Nat}{ty:TypeId}{pos:String}{aft:Array Edge}{op:Op}{j g:Nat}(hr:aj P ops c os (bf T dst .qI) H sps T' H')(hj:(ops[j]?).bind (·.dst)=some g:=by exact rfl)(hlt:Nat.blt g c.n=true:=by exact rfl)(hg:aO T g=some (.bool false):=by exact rfl):aj P ops c (⟨dst,op,ty,pos,aft,some (j,true)⟩::os) T H (gs g false (ps [] .qI)::sps) T' H':=.CR hj hlt hg (by decide) hr
theorem aj.gk{P:Program}{os:List Oper}{c:Ctx}{T T':List (Nat×D)}{H H':List (Nat×Hp)}{sps:List Spec}{ops:Array Oper}{dst:Option Nat}{ty:TypeId}{pos:String}{aft:Array Edge}{op:Op}{j g:Nat}{b:Bool}(hb:b=true)(hr:aj P ops c os (bf T dst .qI) H sps T' H')(hj:(ops[j]?).bind (·.dst)=some g:=by exact rfl)(hlt:Nat.blt g c.n=true:=by exact rfl)(hg:aO T g=some (.bool b):=by exact rfl):aj P ops c (⟨dst,op,ty,pos,aft,some (j,false)⟩::os) T H (gs g b (ps [] .qI)::sps) T' H':=.qO hj hlt hg hb hr
theorem aj.gu{P:Program}{os:List Oper}{c:Ctx}{T T':List (Nat×D)}{H H':List (Nat×Hp)}{sps:List Spec}{ops:Array Oper}{dst:Option Nat}{ty:TypeId}{pos:String}{aft:Array Edge}{op:Op}{j g:Nat}{want:Bool}(hr:aj P ops c os (bf T dst .qI) H sps T' H')(hj:(ops[j]?).bind (·.dst)=some g:=by exact rfl)(hg:aO T g=some .qI:=by exact rfl):aj P ops c (⟨dst,op,ty,pos,aft,some (j,want)⟩::os) T H (B3 g::sps) T' H':=.gU hj hg hr
theorem dF{α:Type}{xs:List α}{i:Int}{a:α}(h:ix xs i=some a):i<(xs.length:Int):=by have:=bE h;have:=(ag h).1;omega
end Go.Am
namespace Go.Am
structure bU{α:Type}(a b:Option α):Prop where
 h:∀r,a=some r->b=some r
theorem bU.refl{α:Type}(a:Option α):bU a a:=⟨fun _ h=>h⟩
theorem bU.bind{α β:Type}{a a':Option α}{f f':α->Option β}(h:bU a a')(k:∀x,bU (f x) (f' x)):bU (a.bind f) (a'.bind f'):=⟨fun r hr=>by
 obtain⟨x,h1,h2⟩:=bind_some hr;rw[h.h x h1];exact(k x).h r h2⟩
theorem bU.ite{α:Type}{p:Prop}[Decidable p]{a a' b b':Option α}(h:bU a a')(k:bU b b'):bU (if p then a else b) (if p then a' else b'):=⟨fun r hr=>by
 by_cases hp:p
 ·rw[if_pos hp]at hr|-;exact h.h r hr
 ·rw[if_neg hp]at hr|-;exact k.h r hr⟩
theorem bU.bC{α:Type}{p:Prop}[Decidable p]{a a':Option α}(h:bU a a'):bU (bC p a) (bC p a'):=⟨fun r hr=>by
 obtain⟨hp,h1⟩:=aG hr;rw[h.h r h1];exact bK hp⟩
def dG{σ ρ:Type}(body:σ->Option (St σ ρ))(s:σ):Option ρ:=iJ body 1000000 s
theorem bU.loop{σ ρ:Type}{b b':σ->Option (St σ ρ)}{s:σ}(h:∀s,bU (b s) (b' s)):bU (dG b s) (Loop b' s):=⟨fun r hr=>by
 refine uR 1000000 ?_;unfold dG at hr;have key:∀k s,iJ b k s=some r->iJ b' k s=some r:=by
  intro k
  induction k with
  |zero=>intro s h;cases h
  |succ k ih=>
   intro s hk;unfold iJ at hk|-
   cases hb:b s with
   |none=>rw[hb]at hk;cases hk
   |some x=>
    rw[hb]at hk;rw[(h s).h x hb]
    cases x with
    |next s'=>exact ih s' hk
    |done r'=>exact hk
 exact key _ _ hr⟩
end Go.Am
namespace Go.Am
def aD(x:Nat):List Nat:=if h:x=0 then []else x%4294967296::aD (x/4294967296)
termination_by x
decreasing_by exact Nat.div_lt_self (by omega) (by omega)
def val:List Nat->Nat
 |[]=>0
 |d::l=>d+4294967296*val l
theorem cB:aD 0=[]:=by rw[aD];simp
theorem jt{x:Nat}(h:x≠0):aD x=x%4294967296::aD (x/4294967296):=by rw[aD];simp[h]
theorem dc(x:Nat):val (aD x)=x:=by
 induction x using Nat.strongRecOn with
 |_ x ih=>
  by_cases h:x=0
  ·subst h;rw[cB];rfl
  ·rw[jt h,val,ih _ (Nat.div_lt_self (by omega) (by omega))];omega
def cE(l:List Nat):Prop:=∀d∈l,d<4294967296
theorem cw(x:Nat):cE (aD x):=by
 induction x using Nat.strongRecOn with
 |_ x ih=>
  by_cases h:x=0
  ·subst h;rw[cB];intro d hd;cases hd
  ·rw[jt h];intro d hd;rcases List.mem_cons.1 hd with rfl|hd
   ·omega
   ·exact ih _ (Nat.div_lt_self (by omega) (by omega)) d hd
theorem rC{d x:Nat}(hd:d<4294967296)(h:x≠0\/d≠0):aD (d+4294967296*x)=d::aD x:=by
 rw[jt (by omega)]
 congr 1
 ·omega
 ·congr 1;omega
theorem tF:∀{l:List Nat},cE l->(∀d,l.getLast?=some d->d≠0)->aD (val l)=l
 |[],_,_=>by rw[val,cB]
 |[d],hl,hn=>by
  have h0:=hn d rfl;have hd:=hl d (by simp);rw[val,val,rC hd (.inr h0),cB]
 |d::e::l,hl,hn=>by
  have ih:=tF (l:=e::l) (fun x hx=>hl x (by simp[hx])) (fun x hx=>hn x (by simpa using hx));have hd:=hl d (by simp);rw[val,rC hd,ih]
  left
  intro e0;rw[e0,cB]at ih;cases ih
theorem jm(l m:List Nat):val (l++m)=val l+4294967296^l.length*val m:=by
 induction l with
 |nil=>simp[val]
 |cons d l ih=>
  simp only[List.cons_append,val,ih,List.length_cons,Nat.pow_succ];rw[Nat.mul_add,←Nat.mul_assoc,Nat.mul_comm 4294967296 (4294967296^l.length),Nat.add_assoc]
theorem mi{l:List Nat}(h:cE l):val l<4294967296^l.length:=by
 induction l with
 |nil=>simp[val]
 |cons d l ih=>
  have h1:=ih (fun x hx=>h x (by simp[hx]));have h2:=h d (by simp);simp only[val,List.length_cons,Nat.pow_succ];omega
theorem iI{l m:List Nat}(h:cE l)(k:cE m):cE (l++m):=fun d hd=>(List.mem_append.1 hd).elim (h d) (k d)
theorem j1{l:List Nat}(h:cE l)(n:Nat):cE (l.take n):=fun d hd=>h d (List.mem_of_mem_take hd)
theorem gX{l:List Nat}(h:cE l)(n:Nat):cE (l.drop n):=fun d hd=>h d (List.mem_of_mem_drop hd)
theorem dq{l:List Nat}{i:Nat}{d:Nat}(h:l[i]?=some d):val (l.take (i+1))=val (l.take i)+4294967296^i*d:=by
 obtain⟨hlt,he⟩:=List.getElem?_eq_some_iff.1 h;rw[List.take_succ_eq_append_getElem hlt,jm,he];have:(l.take i).length=i:=by simp;omega
 rw[this];simp[val]
theorem lI(n:Nat):val (List.replicate n 0)=0:=by
 induction n with
 |zero=>rfl
 |succ n ih=>simp[List.replicate_succ,val,ih]
def bB(l:List Nat):List D:=l.map fun d:Nat=>.int .u32 d
theorem aR(l:List Nat):bF (bB l)=[]:=sE (fun _=>rfl) l
theorem bx(l:List Nat):(bB l).length=l.length:=by simp[bB]
theorem bj{l:List Nat}{i d:Nat}(h:l[i]?=some d):(bB l)[i]?=some (.int .u32 d):=by simp[bB,h]
theorem yG(l:List Nat)(i d:Nat):(bB l).set i (.int .u32 d)=bB (l.set i d):=by simp[bB,List.map_set]
theorem qS(l:List Nat)(n:Nat):(bB l).take n=bB (l.take n):=by simp[bB,List.map_take]
theorem wL(l:List Nat)(n:Nat):(bB l).drop n=bB (l.drop n):=by simp[bB,List.map_drop]
def cS(l:List Nat):D:=.ib l.length 1 (bB l) (aR l)
def ah(x:Nat):D:=cS (aD x)
end Go.Am
namespace Go.Am
noncomputable abbrev PP:Program:=Go.Proofs.Tryz.prog
theorem bP:PP.follows .mixedOrders=true:=by kernel_rfl
theorem mg:sle PP 24=some 1:=by kernel_rfl
theorem jI:isSlice PP 24=true:=by kernel_rfl
theorem n0:lay PP 230=some none:=by kernel_rfl
theorem xC:mj PP 24=some (230,1,4,[.int .u32 0]):=by kernel_rfl
theorem jX:wY PP 117 230=some .u32:=by kernel_rfl
theorem kJ:wY PP 230 117=some .u64:=by kernel_rfl
theorem wh{xs:List Nat}{i:Nat}(h:val (xs.take (i+1))=val xs)(h0:xs[i]?=some 0):val (xs.take i)=val xs:=by
 rw[←h,dq h0];omega
theorem xT{xs:List Nat}{i:Nat}(hl:cE xs)(h:val (xs.take i)=val xs)(hi:i<=xs.length)(hz:i=0\/∃d,xs[i-1]?=some d/\d≠0):xs.take i=aD (val xs):=by
 rw[←h]
 symm
 apply tF (j1 hl i);intro d hd;rcases hz with hz|⟨d',hd',hne⟩
 ·subst hz;simp at hd
 ·rw[List.getLast?_eq_getElem?]at hd;have hlen:(xs.take i).length=i:=by simp;omega
  rw[hlen]at hd;by_cases h0:i=0
  ·subst h0;simp at hd
  ·rw[List.getElem?_take_of_lt (by omega),hd']at hd;injection hd with hd;subst hd;exact hne
theorem wrap_i64{n:Int}(h0:-9223372036854775808<=n)(h1:n<=9223372036854775807):IntKind.i64.wrap n=n:=by rw[IntKind.wrap_i64];omega
theorem Bd{n n' m:Nat}{l l':List D}{hl:bF l=[]}{hl':bF l'=[]}(h1:n=n')(h2:l=l'):D.ib n m l hl=D.ib n' m l' hl':=by
 subst h1;subst h2;rfl
theorem kO{n:Nat}{l:List D}{hl:bF l=[]}{xs:List Nat}(h1:n=xs.length)(h2:l=bB xs):D.ib n 1 l hl=cS xs:=Bd h1 h2
theorem Le.of_eq{d d':D}(h:d=d'):Le d d':=h▸.refl d
theorem kc(xs:List Nat)(hl:cE xs)(hb:xs.length<=9223372036854775807):j5 PP 210 [cS xs] (ah (val xs)):=by
 refine .of Go.Proofs.Tryz.func210 rfl (by kernel_rfl) rfl rfl rfl (fun A w0=>?_);refine .ak (.av rfl .nil) rfl ?_;refine .ak (.mv rfl<|.ln rfl jI<|.av rfl .nil) rfl ?_;refine .pz (ι:={i:Nat//i<=xs.length/\val (xs.take i)=val xs/\(i=0\/∃d,xs[i-1]?=some d/\d≠0)}) (fun i=>[(0,cS xs),(3,.int .i64 (i.1:Nat))]) (fun _=>[]) ?_ ?_
 ·refine .block (.loop (ι:={i:Nat//i<=xs.length/\val (xs.take i)=val xs}) (fun i=>[(0,cS xs),(3,.int .i64 (i.1:Nat))]) (fun _=>[]) (fun i=>i.1) ⟨xs.length,Nat.le_refl _,by rw[List.take_length]⟩
   (.of rfl) trivial rfl rfl ?_)
  rintro⟨i,hi,hv⟩;refine .sq ?_
  cases i with
  |zero=>
   refine .ak (.mv rfl<|.cm rfl rfl (b:=false) rfl<|.mv rfl<|.gN rfl rfl rfl rfl<|.gN rfl rfl rfl rfl<|.gN rfl rfl rfl rfl<|.gN rfl rfl rfl rfl<|.gN rfl rfl rfl rfl<|.gN rfl rfl rfl rfl<|.CL rfl rfl .nil) rfl ?_;exact .cF rfl (.exit fun a w hs=>hs.to ⟨0,Nat.zero_le _,hv,.inl rfl⟩ (.of rfl) trivial rfl rfl)
  |succ i=>
   have hlt:i<xs.length:=hi;have hx:xs[i]?=some xs[i]:=List.getElem?_eq_getElem hlt;generalize xs[i]=d at hx;have hsub:IntKind.i64.wrap (((i+1:Nat):Int)-1)=(i:Int):=by rw[wrap_i64 (by omega) (by omega)];omega
   by_cases h0:d=0
   ·subst h0;refine .ak (.mv rfl<|.cm rfl rfl (b:=true) (by simp[cP])<|.mv rfl<|.gY rfl rfl rfl rfl<|.mv rfl<|.gY rfl rfl rfl rfl<|.mv rfl<|.gY rfl rfl rfl rfl<|.ar rfl rfl (congrArg some hsub)<|
     .gY rfl rfl rfl rfl<|.nA rfl rfl mg (by omega) (by omega) (bj hx)<|.gY rfl rfl rfl rfl<|.iu rfl n0<|.gY rfl rfl rfl rfl<|.cm rfl rfl (b:=true) rfl<|.B2 rfl rfl .nil) rfl ?_
    refine .cT rfl (.skip (Ok.on (.block (.region (.mv rfl<|.ar rfl rfl (congrArg some hsub)<|.av rfl .nil) rfl fun a w hs=>?_))));exact hs.round (m:=i+1) ⟨i,by omega,wh hv hx⟩ (by simp) (.of rfl) trivial rfl rfl
   ·refine .ak (.mv rfl<|.cm rfl rfl (b:=true) (by simp[cP])<|.mv rfl<|.gY rfl rfl rfl rfl<|.mv rfl<|.gY rfl rfl rfl rfl<|.mv rfl<|.gY rfl rfl rfl rfl<|.ar rfl rfl (congrArg some hsub)<|
     .gY rfl rfl rfl rfl<|.nA rfl rfl mg (by omega) (by omega) (bj hx)<|.gY rfl rfl rfl rfl<|.iu rfl n0<|.gY rfl rfl rfl rfl<|.cm rfl rfl (b:=false) (by simp[cP,h0])<|.B2 rfl rfl .nil) rfl ?_
    exact .cF rfl (.exit fun a w hs=>hs.to ⟨i+1,hi,hv,.inr ⟨d,by simpa using hx,h0⟩⟩ (.of rfl) trivial rfl rfl)
 ·rintro⟨i,hi,hv,hz⟩;show Ok PP _ [(0,cS xs),(3,.int .i64 (i:Nat))] [] _ _;refine .ak (.mv rfl<|.mv rfl<|.mv rfl<|.zT rfl rfl rfl mg (by omega) (by omega)<|.av rfl .nil) rfl ?_;refine .og rfl (.tmp rfl) (.of_eq ?_) rfl;have he:=xT hl hv hi hz;refine kO ?_ ?_
  ·rw[←he];simp;omega
  ·rw[←he];simp[bB,List.map_take]
end Go.Am
namespace Go.Am
theorem ku:wY PP 2 117=some .u64:=by kernel_rfl
theorem bk:wY PP 230 117=some .u64:=by kernel_rfl
theorem oA:wY PP 230 5=some .u8:=by kernel_rfl
theorem iP:wY PP 117 2=some .i64:=by kernel_rfl
theorem dw:wY PP 117 230=some .u32:=by kernel_rfl
theorem oJ:wY PP 117 5=some .u8:=by kernel_rfl
theorem sa:wY PP 5 3=some .i64:=by kernel_rfl
theorem oH:wY PP 5 117=some .u64:=by kernel_rfl
theorem aU:wU PP 28 0=some 0:=by kernel_rfl
theorem fW:wU PP 28 1=some 2:=by kernel_rfl
theorem iw:wU PP 84 0=some 0:=by kernel_rfl
theorem jL:wU PP 84 1=some 3:=by kernel_rfl
theorem aW:wU PP 126 0=some 0:=by kernel_rfl
theorem aP:wU PP 126 1=some 3:=by kernel_rfl
theorem aX:wU PP 126 2=some 6:=by kernel_rfl
theorem aJ:wU PP 26 0=some 0:=by kernel_rfl
theorem aC:wU PP 26 1=some 1:=by kernel_rfl
theorem kg:isBool PP 4=true:=by kernel_rfl
theorem bh:isSlice PP 68=true:=by kernel_rfl
theorem bL:isSlice PP 119=true:=by kernel_rfl
theorem na:isSlice PP 33=true:=by kernel_rfl
theorem vX:isSlice PP 259=true:=by kernel_rfl
theorem aZ:isSlice PP 132=true:=by kernel_rfl
theorem au:isSlice PP 24=true:=by kernel_rfl
theorem cI:isStr PP 9=true:=by kernel_rfl
theorem aw:lay PP 68=some none:=by kernel_rfl
theorem bY:lay PP 4=some none:=by kernel_rfl
theorem b9:lay PP 132=some none:=by kernel_rfl
theorem aa:lay PP 28=some (some 3):=by kernel_rfl
theorem kj:lay PP 84=some (some 6):=by kernel_rfl
theorem bI:lay PP 126=some (some 9):=by kernel_rfl
theorem aH:lay PP 24=some none:=by kernel_rfl
theorem ba:lay PP 26=some (some 2):=by kernel_rfl
theorem iR:lay PP 3=some none:=by kernel_rfl
theorem np:lay PP 2=some none:=by kernel_rfl
theorem aQ:lay PP 230=some none:=by kernel_rfl
theorem m9:lay PP 5=some none:=by kernel_rfl
theorem ck:mj PP 68=some (28,3,56,[.bool false,.nil,.nil]):=by kernel_rfl
theorem jg:mj PP 119=some (126,9,168,[.bool false,.nil,.nil,.bool false,.nil,.nil,.bool false,.nil,.nil]):=by kernel_rfl
theorem vy:mj PP 33=some (3,1,8,[.int .i64 0]):=by kernel_rfl
theorem qU:mj PP 259=some (5,1,1,[.int .u8 0]):=by kernel_rfl
theorem dm:mj PP 132=some (68,1,24,[.nil]):=by kernel_rfl
theorem c0:mj PP 24=some (230,1,4,[.int .u32 0]):=by kernel_rfl
theorem bw:Aj PP 28=some [(0,2),(2,1)]:=by kernel_rfl
theorem sB:Aj PP 84=some [(0,3),(3,3)]:=by kernel_rfl
theorem cj:Aj PP 126=some [(0,3),(3,3),(6,3)]:=by kernel_rfl
theorem dC:Aj PP 26=some [(0,1),(1,1)]:=by kernel_rfl
theorem aq:sle PP 68=some 3:=by kernel_rfl
theorem aI:sle PP 119=some 9:=by kernel_rfl
theorem o1:sle PP 33=some 1:=by kernel_rfl
theorem lE:sle PP 259=some 1:=by kernel_rfl
theorem ao:sle PP 132=some 1:=by kernel_rfl
theorem az:sle PP 24=some 1:=by kernel_rfl
theorem ay:wX PP 28=some [.bool false,.nil,.nil]:=by kernel_rfl
theorem lf:wX PP 84=some [.bool false,.nil,.nil,.bool false,.nil,.nil]:=by kernel_rfl
theorem bZ:wX PP 126=some [.bool false,.nil,.nil,.bool false,.nil,.nil,.bool false,.nil,.nil]:=by kernel_rfl
theorem cD:wX PP 26=some [.bool false,.nil]:=by kernel_rfl
theorem zX:wX PP 3=some [.int .i64 0]:=by kernel_rfl
end Go.Am
namespace Go.Am
open Go.RowKit
section
variable {P:Program} {os:List Oper} {c:Ctx} {T T':List (Nat×D)} {H H':List (Nat×Hp)} {sps:List Spec}
variable {ops:Array Oper} {dst:Option Nat} {ty:TypeId} {pos:String} {aft:Array Edge} {Q:Exit->Act->World->Prop} {x y:Code}
theorem cf.tell{T0:Nat->Option D}{H0:Nat->Option Hp}{a:Act}{w:World}{ε:Env}{φ:Nat->cl}(hs:cf c T0 H0 a w ε φ){r0:Nat}{x y:Hp}(hr:H0 r0=some x)(hy:y.p ε w (Am.ak c H0 φ) (ε r0) (φ r0))(hn:∀r'∈y.nm,H0 r'≠none):cf c T0 (bp H0 [(r0,y)]) a w ε φ:=
 hs.pM hr rfl rfl rfl rfl (fun _ _=>rfl) hy hn
theorem bD{id:Nat}{Q:Exit->Act->World->Prop}{a:Act}{w:World}(h:Q .normal a w):Exit.inBlock id Q (.exit id) a w:=by simp only[Exit.inBlock,if_true];exact h
def qo(ρ:Nat->Nat):List D->List D->Prop
 |[],[]=>True
 |d::l,d'::l'=>pU ρ d d'/\qo ρ l l'
 |_,_=>False
theorem qo.all{ρ:Nat->Nat}{ε:Env}{w:World}{S:cl}:∀{l l':List D} {vs:List Value},qo ρ l l'->bX ε w S l vs->bX (fun r=>ε (ρ r)) w S l' vs
 |[],[],[],_,_=>trivial
 |[],[],_::_,_,h=>h.elim
 |_::_,_::_,[],_,h=>h.elim
 |_::_,_::_,_::_,h,ha=>⟨h.1.1 _ _ _ _ ha.1,qo.all h.2 ha.2⟩
 |[],_::_,_,h,_=>h.elim
 |_::_,[],_,h,_=>h.elim
theorem qo.bF{ρ:Nat->Nat}:∀{l l':List D},qo ρ l l'->∀r∈bF l',ρ r∈Am.bF l
 |[],[],_,r,h=>by cases h
 |d::l,d'::l',h,r,hr=>by
  simp only[Am.bF,List.mem_append]at hr|-;exact hr.imp (h.1.2 r) (qo.bF h.2 r)
 |[],_::_,h,_,_=>h.elim
 |_::_,[],h,_,_=>h.elim
theorem rS.box{ρ:Nat->Nat}{ty:TypeId}{l l':List D}(h:qo ρ l l'):rS ρ (.box ty l) (.box ty l'):=⟨fun _ _ _ _ _ ⟨e,cs,hb,h1,ha⟩=>⟨e,cs,hb,h1,h.all ha⟩,fun r hr=>h.bF r hr⟩
theorem pU.sN{ρ:Nat->Nat}{r:Nat}{b:Value}:pU ρ (.pinned (ρ r) b) (.pinned r b):=⟨fun _ _ _ _ h=>h,fun r' hr'=>by simp[D.pinned]at hr'|-;rw[hr']⟩
end
end Go.Am
namespace Go.Am
open Go.RowKit
theorem bb.vo{P:Program}{f:FuncId}{Hi Ho Hi' Ho':List (Nat×Hp)}{ds ds':List D}{d d':D}(h:bb P f Hi ds Ho d)(ρ σ:Nat->Nat)(hσ:(names Ho).all (fun r=>Nat.beq (σ (ρ r)) r)=true)
  (hHi:lA ρ Hi' Hi)(hni:names Hi'=(names Hi).map ρ)(hds:qo ρ ds' ds)(hHo:lA σ Ho Ho')(hno:names Ho'=(names Ho).map ρ)(hd:pU σ d d')
  (w1:cp Hi' (bF ds')=true)(w2:cp Hi' (iV Hi')=true)(w3:cp Ho' (iV Ho')=true)(w4:cp Ho' d'.nm=true)(w5:cp Ho' (names Hi')=true):bb P f Hi' ds' Ho' d' where
 ok:=h.ok
 BJ:=w1
 BY:=w2
 BD:=w3
 A2:=w4
 rR:=w5
 calls:=by
  intro A w ε φ vs hlo hdj hp hv;have inv:∀r,ai Ho r≠none->σ (ρ r)=r:=fun r hr=>Nat.eq_of_beq_eq_true (List.all_eq_true.1 hσ r (bW.1 hr));have hio:∀r,ai Hi r≠none->ai Ho r≠none:=fun r hr=>cH h.rR r (bW.1 hr);have toI:∀r,ai Hi r≠none->ai Hi' (ρ r)≠none:=fun r hr=>bW.2 (by rw[hni];exact List.mem_map.2 ⟨r,bW.1 hr,rfl⟩);have ofI:∀r',ai Hi' r'≠none->∃r,ai Hi r≠none/\ρ r=r':=fun r' hr'=>by
   have:=bW.1 hr';rw[hni]at this;obtain⟨r,hr,e⟩:=List.mem_map.1 this;exact⟨r,bW.2 hr,e⟩
  have ofO:∀r',ai Ho' r'≠none->∃r,ai Ho r≠none/\ρ r=r':=fun r' hr'=>by
   have:=bW.1 hr';rw[hno]at this;obtain⟨r,hr,e⟩:=List.mem_map.1 this;exact⟨r,bW.2 hr,e⟩
  have toO:∀r,ai Ho r≠none->ai Ho' (ρ r)≠none:=fun r hr=>bW.2 (by rw[hno];exact List.mem_map.2 ⟨r,bW.1 hr,rfl⟩);have inj:∀r r',ai Ho r≠none->ai Ho r'≠none->r≠r'->ρ r≠ρ r':=fun r r' hr hr' hne e=>hne (by rw[←inv r hr,←inv r' hr',e]);have hL:ld Hi (fun r=>φ (ρ r))=ld Hi' φ:=by
   funext k
   apply propext
   constructor
   ·rintro⟨r,hr,hf⟩;exact⟨ρ r,toI r hr,hf⟩
   ·rintro⟨r',hr',hf⟩;obtain⟨r,hr,rfl⟩:=ofI r' hr';exact⟨r,hr,hf⟩
  refine(h.calls A w (fun r=>ε (ρ r)) (fun r=>φ (ρ r)) vs (fun r hr=>hlo (ρ r) (toI r hr)) (fun r r' hr hr' hne=>hdj (ρ r) (ρ r') (toI r hr) (toI r' hr') (inj r r' (hio r hr) (hio r' hr') hne)) (fun r x hr=>?_) (hds.all hv)).mono ?_
  ·obtain⟨y,hy,hle⟩:=jS hHi r x hr;exact hle.1 _ _ _ _ _ (hp (ρ r) y hy)
  rintro e w' ⟨v,ε2,φ2,rfl,hε,hb1,hb2,hb3,hb4,hb5⟩;rw[hL]at hb1 hb2 hb3 hb5;have hreg:∀k,ak ⟨A,w.heap.size,w,0,ld Hi' φ⟩ (ai Ho) φ2 k->k<w'.heap.size->ak ⟨A,w.heap.size,w,0,ld Hi' φ⟩ (ai Ho') (fun r=>φ2 (σ r)) k/\w'.heap[k]?=w'.heap[k]?:=by
   intro k hk _;refine⟨⟨hk.1,fun r' hr'=>?_⟩,rfl⟩;obtain⟨r,hr,rfl⟩:=ofO r' hr';show¬φ2 (σ (ρ r)) k;rw[inv r hr];exact hk.2 r hr
  have hB:wG ⟨A,w.heap.size,w,0,ld Hi' φ⟩ Ho' d' (fun r=>ε2 (σ r)) w' (fun r=>φ2 (σ r)) v:=by
   refine⟨d'.mono (hd.1 _ _ _ _ hb1) (fun _ _=>rfl) hreg,fun r' x' hr'=>?_,fun r' hr' k hk=>?_,fun r1 r2 h1 h2 hne k hk=>?_,hb5⟩
   ·obtain⟨x,hx,hle⟩:=jS hHo r' x' hr';exact x'.mono (hle.1 _ _ _ _ _ (hb2 (σ r') x hx)) (fun _ _=>rfl) hreg (fun _ _=>rfl)
   ·obtain⟨r,hr,rfl⟩:=ofO r' hr';simp only[inv r hr]at hk;exact hb3 r hr k hk
   ·obtain⟨ra,hra,rfl⟩:=ofO r1 h1;obtain⟨rb,hrb,rfl⟩:=ofO r2 h2;simp only[inv ra hra,inv rb hrb]at hk|-;exact hb4 ra rb hra hrb (fun e=>hne (by rw[e])) k hk
  refine⟨v,fun r=>ε2 (σ r),fun r=>φ2 (σ r),rfl,fun r' hr'=>?_,hB⟩;obtain⟨r,hr,rfl⟩:=ofI r' hr';show ε2 (σ (ρ r))=_;rw[inv r (hio r hr),hε r hr]
section
variable {P:Program} {os:List Oper} {c:Ctx} {T T':List (Nat×D)} {H H':List (Nat×Hp)} {sps:List Spec}
variable {ops:Array Oper} {dst:Option Nat} {ty:TypeId} {pos:String} {aft:Array Edge} {Q:Exit->Act->World->Prop} {x y:Code}
def CT(P:Program)(s d:TypeId):Bool:=
 match P.underlying s,P.underlying d with
 |some (.slice e),some .string=>match P.underlying e with|some (.int .u8)=>true|_=>false
 |_,_=>false
def bytesOf(l:List Int):List UInt8:=l.map fun n=>UInt8.ofNat n.toNat
theorem nT:∀(ns:List Int) (s:ByteArray),ns.foldl (fun r n=>r.push (UInt8.ofNat n.toNat)) s=⟨(s.data.toList++bytesOf ns).toArray⟩
 |[],s=>by simp[bytesOf]
 |n::ns,s=>by
  rw[List.foldl_cons,nT ns];simp[bytesOf,ByteArray.push]
theorem th(k:IntKind):∀l:List Int,flat (aK.int k) l=l.map (D.int k)
 |[]=>rfl
 |n::l=>by
  have:=th k l;simp only[flat,List.flatMap_cons]at this|-;rw[this];rfl
theorem q9{k:IntKind}{ε:Env}{w:World}{S:cl}:∀{l:List Int} {vs:List Value},bX ε w S (l.map (D.int k)) vs->vs=l.map (Value.int k)
 |[],[],_=>rfl
 |n::l,v::vs,h=>by rw[List.map_cons,←q9 h.2,show v=_ from h.1]
 |[],_::_,h=>h.elim
 |_::_,[],h=>h.elim
theorem aj.CZ{s d:TypeId}{x:Operand}{l:List Int}(hx:ev T x=some (br (aK.int .u8) l))(ht:CT P s d=true)(hr:aj P ops c os (bf T dst (b_ (bytesOf l))) H sps T' H'):
  aj P ops c (⟨dst,.convert s d x,ty,pos,aft,none⟩::os) T H (ps [(x,br (aK.int .u8) l)] (b_ (bytesOf l))::sps) T' H':=
 .pure [(x,br (aK.int .u8) l)] rfl (by simpa using hx) (iO rfl) (fun ε w S a ha=>by
  obtain⟨A,cap,h1,_,hln,hA⟩:=ha (x,br (aK.int .u8) l) (by simp);dsimp only at h1;unfold CT at ht
  split at ht<;>try cases ht
  rename_i e hs hd
  split at ht<;>try cases ht
  rename_i he;have hc:∀a':Option Addr,(convert s d (.slice a' l.length cap)).run P w=(Conv.bytesToString (.slice a' l.length cap)).run P w:=fun a'=>run_convert_bytes_string w s d e a' l.length cap hs he hd;refine⟨.string ⟨(bytesOf l).toArray⟩,?_,rfl⟩;rcases hA with h0|⟨b,o,rfl,_,hl⟩
  ·have:l=[]:=List.eq_nil_of_length_eq_zero h0;subst this;have hz:(Conv.bytesToString (.slice A 0 cap)).run P w=.ok (.string ⟨#[]⟩) w:=by
    cases A with
    |none=>rfl
    |some a0=>
     have hq:=run_loadCells_list (P:=P) w a0 [] (fun j v hv=>by simp at hv);have:=run_bytesToString (P:=P) w a0 0 cap [] hq;rw[nT]at this;exact this
   have hc0:(convert s d (.slice A 0 cap)).run P w=_:=(hc A).trans hz;simp only[execOp,h1,Sem.run_bind,List.length_nil,hc0,Result.andThen_ok];rfl
  ·obtain⟨vs,h3,h4,h5⟩:=lB hl;rw[th]at h5;have hvs:=q9 h5;subst hvs;have hld:=run_loadCells_list (P:=P) w ⟨b,o,none⟩ (l.map (Value.int .u8)) (fun j v hv=>by rw[gA];exact h3 j v hv);rw[List.length_map]at hld;have:=run_bytesToString (P:=P) w ⟨b,o,none⟩ l.length cap l hld;rw[nT]at this;simp only[execOp,h1,hc,Sem.run_bind,this,Result.andThen_ok]
   rfl) hr
end
end Go.Am
