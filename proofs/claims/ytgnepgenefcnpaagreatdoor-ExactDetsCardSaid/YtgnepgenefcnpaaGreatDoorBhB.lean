/- Part 2 of 7 of what the laws of layer 1 share: contracts of functions of the program, each for every argument of its description; no condition beyond it. -/
import Derived.Test.YtgnepgenefcnpaaGreatDoorBhA
import Derived.Laws.BytesString
import Derived.Laws.Bits64b
set_option linter.unusedVariables false
set_option linter.unusedSimpArgs false
namespace Go.Am
open Go.RowKit
section
variable {P:Program} {os:List Oper} {c:Ctx} {T T':List (Nat×D)} {H H':List (Nat×Hp)} {sps:List Spec}
variable {ops:Array Oper} {dst:Option Nat} {ty:TypeId} {pos:String} {aft:Array Edge} {Q:Exit->Act->World->Prop} {x y:Code}
theorem an.KV{α:Type}{e:ak α}{t te:TypeId}{r:Nat}{parts:List (Nat×Operand)}{m bt n:Nat}{z:List D}(xs:List α)(q:List (Nat×Operand×D×List D))(hm:nF P t=some (te,m,bt,z))(hmn:m=e.n)(hs:Nat.ble (n*m) 16777216=true)(hn0:Nat.blt 0 n=true)(hq:jH (Ds m 0 n) (n*m) parts q)(he:∀x∈qs q,ev T x.1=some x.2)
  (hle:over (List.replicate n z).flatten q=flat e xs)(hln:xs.length=n)(hf:ah H r=none)
  (hr:an P ops c os ((r,.own r)::T) ((r,aY e te xs)::H) sps T' H'):
  an P ops c (⟨some r,.buildSlice t n parts.toArray,ty,pos,aft,none⟩::os) T H (rws (qs q) r (aY e te xs)::sps) T' H':=by
 subst hmn;subst hln;refine .cons (sp:=rws (qs q) r (aY e te xs)) ?_ (fg he) trivial ⟨hf,trivial⟩ hr;intro hd T0 H0 hi _ hnew a w ⟨ε,φ,hs'⟩ Q K hK;rw[if_pos (bm rfl _)];have hx:∀x∈qs q,ga T0 (eQ x.1 x.2):=dk hi;obtain⟨i,v,hu,hinf,hzv,hsz,_,ez,hv1,hvs,hm0⟩:=iB hm;obtain⟨hpl,hg⟩:=kf hq;have hn1:0<xs.length:=by simpa using hn0
 have hcs:=fB hvs hm0 xs.length;have hz0:cp ε w (al c H0 φ) (List.replicate xs.length z).flatten (madeCells v.cells (xs.length*e.n)).toList:=by rw[hcs,ez];exact gg (ju _ _ _ _) _
 have hzl:(List.replicate xs.length z).flatten.length=xs.length*e.n:=by
  have h1:v.cells.toList.length=e.n:=by rw[Array.length_toList,hvs]
  rw[iz,ez,List.length_map,h1]
 obtain⟨cs',hfl,hA,hO⟩:=my (a:=a) (place:=fun i=>some (i*e.n,e.n)) hpl (fun k u x hu' hx=>by
  have:=hg k u x hu' hx;have h2:=sL e.n 0 xs.length u.1 _ this.2.1;simp only[Prod.mk.injEq,Nat.zero_add]at h2;exact⟨this.1,by rw[h2.1,h2.2],this.2.2.1,by rw[hzl];exact this.2.2.2⟩) hz0 (by
   intro u hu';rw[hcs]at hu';simp only[List.mem_flatten,List.mem_replicate]at hu';obtain⟨l',⟨_,rfl⟩,hu'⟩:=hu';exact hv1 u hu') (fun x hxm=>(hs'.ev (hx (x.2.1,x.2.2.1) (List.mem_map.2 ⟨x,hxm,rfl⟩)) (ay (he (x.2.1,x.2.2.1) (List.mem_map.2 ⟨x,hxm,rfl⟩))).2).1)
 have hlim:¬(xs.length*e.n>2^24):=by have:=Nat.le_of_ble_eq_true hs;omega
 have hf':Instr.fill (fun i=>some (i*e.n,e.n)) (madeCells v.cells (xs.length*e.n)) (parts.map fun x=>(x.1,a.eval x.2))=some cs':=hfl;have h0:¬(xs.length*e.n=0):=by
  intro h;rcases Nat.mul_eq_zero.1 h with h|h<;>omega
 have hrun:(execOp a.eval ⟨some r,.buildSlice t xs.length parts.toArray,ty,pos,aft,none⟩).run P w=.ok (.value (.slice (some ⟨w.heap.size,0,none⟩) xs.length xs.length)) (w.alloc (.cells cs' te)):=by
  simp only[execOp,Instr.buildSlice,run_underlying hu,Sem.run_bind,Result.andThen_ok,sizeOf,typeInfo,run_program,hinf,Sem.run_pure,hsz];simp[hlim,h0,zeroValue,typeInfo,hinf,hzv,newRow];rw[show(Array.map (fun x=>v.cells[x%v.cells.size]!) (Array.range (xs.length*e.n)))=madeCells v.cells (xs.length*e.n)from rfl,hf'];simp
 simp only[Oper.wp,hrun,Oper.upon];rw[hle]at hA;have hlen:=aR hA;have hmx:xs.length<=maxLen:=by
  have h1:=Nat.le_of_ble_eq_true hs;have h2:xs.length*1<=xs.length*e.n:=Nat.mul_le_mul_left _ hm0;unfold maxLen;omega
 have hA':cp (dF ε r (.slice (some ⟨w.heap.size,0,none⟩) xs.length xs.length)) (w.alloc (.cells cs' te)) (Am.al c (bq H0 [(r,aY e te xs)]) (dF φ r (only w.heap.size))) (flat e xs) cs'.toList:=by
  refine b9 (fun k hk hlt=>⟨⟨hk.1,fun r' hr'=>?_⟩,Below.heap_alloc _ _ _ hlt⟩) hA (by rw[dK];intro r' hr';cases hr');rw[bJ]at hr';by_cases e':r'=r
  ·subst e';rw[au];intro hf';simp only[only]at hf';omega
  ·rw[aK _ _ e']at hr'|-;exact hk.2 r' hr'
 have hN:=hs'.lF (x:=aY e te xs) (b:=.slice (some ⟨w.heap.size,0,none⟩) xs.length xs.length) (F:=only w.heap.size) (w':=w.alloc (.cells cs' te)) (r:=r) hnew.1 ((Below.refl _ _).alloc (Nat.le_refl _) _)
  (fun k hk=>by simp only[only]at hk;subst hk;simp)
  (.inr ⟨w.heap.size,xs.length,xs.length,cs'.toList,[],rfl,rfl,by rw[iY,List.append_nil],hO,by rw[List.append_nil,hlen,bI],hmx,bI e xs,hA'⟩) (fun r' hr'=>by cases hr')
 exact hK _ _ ⟨_,_,hN.put (dst:=some r) (d:=.own r) (dq hd) ⟨(au _ _ _).symm,rfl⟩ (by simp[D.own,bJ,au])⟩
theorem rf{ε:Env}{w:World}{S:cV}{d:D}:∀{l:List D} {vs:List Value} {i:Nat} {v:Value},cp ε w S l vs->vs[i]?=some v->d.p ε w S v->cp ε w S (l.set i d) vs
 |[],[],_,_,_,h,_=>by simp at h
 |d0::l,v0::vs,0,v,h,hi,hd=>by simp at hi;subst hi;exact⟨hd,h.2⟩
 |d0::l,v0::vs,i+1,v,h,hi,hd=>⟨h.1,rf h.2 (by simpa using hi) hd⟩
 |[],_::_,_,_,h,_,_=>h.elim
 |_::_,[],_,_,h,_,_=>h.elim
theorem sr{l:List D}{d:D}{i r:Nat}(h:r∈bV (l.set i d)):r∈bV l\/r∈d.nm:=by
 obtain⟨d',hd',hr⟩:=bZ.1 h;rcases List.mem_or_eq_of_mem_set hd' with h|rfl
 ·exact .inl (bZ.2 ⟨d',h,hr⟩)
 ·exact .inr hr
theorem cP.tell{T0:Nat->Option D}{H0:Nat->Option Hp}{a:Act}{w:World}{ε:Env}{φ:Nat->cV}(hs:cP c T0 H0 a w ε φ){r0:Nat}{x y:Hp}(hr:H0 r0=some x)(hy:y.p ε w (Am.al c H0 φ) (ε r0) (φ r0))(hn:∀r'∈y.nm,H0 r'≠none):cP c T0 (bq H0 [(r0,y)]) a w ε φ:=
 hs.uE hr rfl rfl rfl rfl (fun _ _=>rfl) hy hn
theorem Ok.Kb{α:Type}(e:ak α)(r0 off r te:Nat){tb:TypeId}{l:List D}(l':List D)(hh:ah H r0=some (.box tb l))(hd:l[off]?=some .nil)(hf:ah H r=none)(hl:l.set off (.own r)=l')
  (h:Ok P c T ((r0,.box tb l')::(r,aY e te [])::H) x Q):Ok P c T H x Q:=by
 intro a w ⟨ε,φ,hs⟩;subst hl;have hN:=hs.lF (x:=aY e te []) (b:=.slice none 0 0) (F:=noBlocks) (r:=r) hf (Below.refl _ _) (fun k hk=>hk.elim) (.inl ⟨rfl,rfl,rfl⟩) (fun r' hr'=>by cases hr');have hne:r0≠r:=fun e=>by subst e;rw[hh]at hf;cases hf
 have hr0:bq (ah H) [(r,aY e te [])] r0=some (.box tb l):=by rw[bJ,aK _ _ hne];exact hh
 obtain⟨eF,cs,hb,h1,hc⟩:=hN.h r0 _ hr0;obtain⟨v,hv,hp⟩:=gK hc hd;have hS:=hN.tell (y:=.box tb (l.set off (.own r))) hr0 ⟨eF,cs,hb,h1,rf hc hv ⟨by rw[show v=_ from hp,au],by rw[show v=_ from hp];rfl⟩⟩ (fun r' hr'=>by
  rcases sr (show r'∈bV (l.set off (.own r))from hr')with h|h
  ·exact hN.hn r0 _ hr0 r' h
  ·have:r'=r:=by simpa [D.own]using h
   subst this;rw[bJ,au];simp)
 refine h a w (Sat.ext (T:=aW T) (H:=bq (bq (ah H) [(r,aY e te [])]) [(r0,.box tb (l.set off (.own r)))]) ⟨_,_,hS⟩ (fun _=>rfl) (fun r'=>?_));rw[bC,bC];rfl
theorem Ok.Ji{α:Type}{e:ak α}{te:TypeId}{xs:List α}(r0 off:Nat){r:Nat}{tb:TypeId}{l:List D}(l':List D)(hh:ah H r0=some (.box tb l))(hd:l[off]?=some (.own r))(hr:ah H r=some (aY e te xs))(hm:Nat.blt 0 e.n=true)(hl:l.set off (ai e xs)=l')
  (h:Ok P c T ((r0,.box tb l')::(r,.dead)::H) x Q):Ok P c T H x Q:=by
 intro a w ⟨ε,φ,hs⟩;subst hl;have hne:r0≠r:=fun e=>by subst e;rw[hh]at hr;injection hr with hr;exact absurd (congrArg Hp.nm hr) (by intro hq;have:=List.getElem?_eq_some_iff.1 hd;have hx:r0∈bV l:=bZ.2 ⟨.own r0,List.mem_of_getElem? hd,by simp[D.own]⟩;rw[show bV l=[]from hq]at hx;cases hx)
 have hm0:0<e.n:=by simpa using hm
 have hG:=vF hs hr;have hr0:ah ((r,Hp.dead)::H) r0=some (.box tb l):=by
  simp only[ah]
  cases hb:Nat.beq r0 r with
  |true=>exact absurd (Nat.eq_of_beq_eq_true hb) hne
  |false=>exact hh
 obtain⟨eF,cs,hb,h1,hc⟩:=hG.h r0 _ hr0;obtain⟨v,hv,hp⟩:=gK hc hd;have hev:v=ε r:=hp.1;have hrow:=hs.h r _ hr;have hslc:(ai e xs).p ε w (Am.al c (ah ((r,Hp.dead)::H)) (dF φ r noBlocks)) v:=by
  have hH:ah ((r,Hp.dead)::H)=dF (ah H) r (some .dead):=by rw[←bJ,bC];rfl
  have hliv:∀r',r'≠r->ah ((r,Hp.dead)::H) r'≠none->ah H r'≠none:=by
   intro r' e' hr';rw[hH,aK _ _ e']at hr';exact hr'
  rcases hrow with⟨e0,eb,_⟩|⟨g,n',cap,cs,rest,eb,eF',hg,h1',hcap,_,hln,hcs⟩
  ·have h0:=bI e xs;rw[e0]at h0;have:xs.length=0:=by rcases Nat.mul_eq_zero.1 h0.symm with h|h<;>omega
   exact⟨none,0,by rw[hev,eb,this],by omega,bI e xs,.inl this⟩
  ·have hn':n'=xs.length:=Nat.eq_of_mul_eq_mul_right hm0 (hln.symm.trans (bI e xs));subst hn';have hlo:=hs.lo r (by simp[hr]) g (by rw[eF'];rfl);have hSg:Am.al c (ah ((r,Hp.dead)::H)) (dF φ r noBlocks) g:=by
    refine⟨.inr hlo.1,fun r' hr'=>?_⟩;by_cases e':r'=r
    ·subst e';rw[au];exact fun h=>h
    ·rw[aK _ _ e'];exact hs.dj r r' (by simp[hr]) (hliv r' e' hr') (Ne.symm e') g (by rw[eF'];rfl)
   refine⟨some ⟨g,0,none⟩,cap,by rw[hev,eb],?_,bI e xs,.inr ⟨g,0,rfl,hSg,(cs++rest).toArray,te,(0,0),cs,hg,fun j u hj=>?_,h1',?_⟩⟩
   ·have hle:xs.length*e.n<=cap*e.n:=by rw[←hcap,List.length_append,aR hcs,bI];omega
    exact Nat.le_of_mul_le_mul_right hle hm0
   ·rw[Nat.zero_add];simp only[List.getElem?_toArray];rw[List.getElem?_append_left (List.getElem?_eq_some_iff.1 hj).1];exact hj
   ·refine b9 (fun k hk _=>⟨⟨hk.1,fun r' hr'=>?_⟩,rfl⟩) hcs (by rw[dK];intro r' hr';cases hr');by_cases e':r'=r
    ·subst e';rw[au];exact fun h=>h
    ·rw[aK _ _ e'];exact hk.2 r' (hliv r' e' hr')
 have hS:=hG.tell (y:=.box tb (l.set off (ai e xs))) hr0 ⟨eF,cs,hb,h1,rf hc hv hslc⟩ (fun r' hr'=>by
  rcases sr (show r'∈bV (l.set off (ai e xs))from hr')with h|h
  ·exact hG.hn r0 _ hr0 r' h
  ·cases h)
 refine h a w (Sat.ext (T:=aW T) (H:=bq (ah ((r,Hp.dead)::H)) [(r0,.box tb (l.set off (ai e xs)))]) ⟨_,_,hS⟩ (fun _=>rfl) (fun r'=>?_));rw[bC];rfl
theorem cP.tU{α:Type}{T0:Nat->Option D}{H0:Nat->Option Hp}{a:Act}{w:World}{ε:Env}{φ:Nat->cV}{e:ak α}{te:TypeId}{xs:List α}{r:Nat}(hs:cP c T0 H0 a w ε φ)(hh:H0 r=some (aY e te xs))(hm0:0<e.n):
  cP c T0 (dF H0 r (some .dead)) a w ε (dF φ r noBlocks)/\(ai e xs).p ε w (Am.al c (dF H0 r (some .dead)) (dF φ r noBlocks)) (ε r):=by
 have hl2:∀r',dF H0 r (some .dead) r'≠none↔H0 r'≠none:=by
  intro r';by_cases e':r'=r
  ·subst e';simp[au,hh]
  ·rw[aK _ _ e']
 have hreg:∀k,Am.al c H0 φ k->k<w.heap.size->Am.al c (dF H0 r (some .dead)) (dF φ r noBlocks) k/\w.heap[k]?=w.heap[k]?:=by
  intro k hk _;refine⟨⟨hk.1,fun r' hr'=>?_⟩,rfl⟩;by_cases e':r'=r
  ·subst e';rw[au];exact fun h=>h
  ·rw[aK _ _ e'];exact hk.2 r' ((hl2 r').1 hr')
 refine⟨?_,?_⟩
 ·constructor
  ·exact fun t d ht=>d.mono (hs.t t d ht) (fun _ _=>rfl) hreg
  ·exact fun t d ht r' hr'=>(hl2 r').2 (hs.tn t d ht r' hr')
  ·intro r' y hy;by_cases e':r'=r
   ·subst e';rw[au]at hy;injection hy with hy;subst hy;rw[au];rfl
   ·rw[aK _ _ e']at hy;rw[aK _ _ e'];exact y.mono (hs.h r' y hy) (fun _ _=>rfl) hreg (fun _ _=>rfl)
  ·intro r' y hy r2 h2;by_cases e':r'=r
   ·subst e';rw[au]at hy;injection hy with hy;subst hy;cases h2
   ·rw[aK _ _ e']at hy;exact(hl2 r2).2 (hs.hn r' y hy r2 h2)
  ·intro r' hr' k hk;by_cases e':r'=r
   ·subst e';rw[au]at hk;exact hk.elim
   ·rw[aK _ _ e']at hk;exact hs.lo r' ((hl2 r').1 hr') k hk
  ·intro ra rb ha hb hne k hk;by_cases ea:ra=r
   ·subst ea;rw[au]at hk;exact hk.elim
   ·by_cases eb:rb=r
    ·subst eb;rw[au];exact fun h=>h
    ·rw[aK _ _ ea]at hk;rw[aK _ _ eb];exact hs.dj ra rb ((hl2 ra).1 ha) ((hl2 rb).1 hb) hne k hk
  ·exact hs.su
  ·exact hs.bs
  ·exact hs.sz
  ·exact hs.df
 ·rcases hs.h r _ hh with⟨e0,eb,_⟩|⟨g,n',cap,cs,rest,eb,eF',hg,h1',hcap,_,hln,hcs⟩
  ·have h0:=bI e xs;rw[e0]at h0;have:xs.length=0:=by rcases Nat.mul_eq_zero.1 h0.symm with h|h<;>omega
   exact⟨none,0,by rw[eb,this],by omega,bI e xs,.inl this⟩
  ·have hn':n'=xs.length:=Nat.eq_of_mul_eq_mul_right hm0 (hln.symm.trans (bI e xs));subst hn';have hlo:=hs.lo r (by simp[hh]) g (by rw[eF'];rfl);have hSg:Am.al c (dF H0 r (some .dead)) (dF φ r noBlocks) g:=by
    refine⟨.inr hlo.1,fun r' hr'=>?_⟩;by_cases e':r'=r
    ·subst e';rw[au];exact fun h=>h
    ·rw[aK _ _ e'];exact hs.dj r r' (by simp[hh]) ((hl2 r').1 hr') (Ne.symm e') g (by rw[eF'];rfl)
   refine⟨some ⟨g,0,none⟩,cap,eb,?_,bI e xs,.inr ⟨g,0,rfl,hSg,(cs++rest).toArray,te,(0,0),cs,hg,fun j u hj=>?_,h1',?_⟩⟩
   ·have hle:xs.length*e.n<=cap*e.n:=by rw[←hcap,List.length_append,aR hcs,bI];omega
    exact Nat.le_of_mul_le_mul_right hle hm0
   ·rw[Nat.zero_add];simp only[List.getElem?_toArray];rw[List.getElem?_append_left (List.getElem?_eq_some_iff.1 hj).1];exact hj
   ·refine b9 (fun k hk _=>⟨⟨hk.1,fun r' hr'=>?_⟩,rfl⟩) hcs (by rw[dK];intro r' hr';cases hr');by_cases e':r'=r
    ·subst e';rw[au];exact fun h=>h
    ·rw[aK _ _ e'];exact hk.2 r' ((hl2 r').1 hr')
theorem an.gv{α:Type}{o:Oper}{sp:Spec}{r t:Nat}{e:ak α}{te:TypeId}{xs:List α}{T1:List (Nat×D)}{H1:List (Nat×Hp)}(h:an P ops c [o] T H [sp] T1 H1)(hd:o.dst=some t)(ho:sp.out=.own r)(hh:ah sp.dC r=some (aY e te xs))(hm:Nat.blt 0 e.n=true)
  (hr:an P ops c os ((t,ai e xs)::T) ((r,.dead)::sp.dC++H) sps T' H'):
  an P ops c (o::os) T H ({sp with out:=ai e xs,dC:=(r,.dead)::sp.dC}::sps) T' H':=by
 cases h with
 |cons hst hi hhi hn _=>
  refine .cons (sp:={sp with out:=ai e xs,dC:=(r,.dead)::sp.dC}) ?_ hi hhi hn (by rw[hd];exact hr);intro hdst T0 H0 hi0 hh0 hn0 a w hsat Q K hK;refine hst hdst T0 H0 hi0 hh0 hn0 a w hsat Q K (fun a' w' hs'=>hK a' w' ?_);obtain⟨ε,φ,hs'⟩:=hs';have hu:bq H0 sp.dC r=some (aY e te xs):=by simp only[bq,hh]
  obtain⟨hG,hp⟩:=hs'.tU hu (by simpa using hm);have eH:dF (bq H0 sp.dC) r (some .dead)=bq H0 ((r,.dead)::sp.dC):=by
   funext r'
   simp only[dF,bq,ah];by_cases e':r'=r
   ·subst e';simp
   ·have:Nat.beq r' r=false:=by
     cases hb:Nat.beq r' r with
     |false=>rfl
     |true=>exact absurd (Nat.eq_of_beq_eq_true hb) e'
    simp[e',this]
  rw[eH]at hG hp;have hv:a'.tmps.getD t undef=ε r:=by
   have:=hs'.t t (.own r) (by simp only[ia,hd,if_true,ho]);exact this.1
  refine⟨ε,_,{hG with t:=?_,tn:=?_}⟩
  ·intro t' d hd';simp only[ia,hd]at hd';by_cases e':t'=t
   ·rw[if_pos e']at hd';injection hd' with hd';subst hd';rw[e',hv];exact hp
   ·rw[if_neg e']at hd';exact hG.t t' d (by simp only[ia,hd];rw[if_neg e'];exact hd')
  ·intro t' d hd' r' hr';simp only[ia,hd]at hd';by_cases e':t'=t
   ·rw[if_pos e']at hd';injection hd' with hd';subst hd';cases hr'
   ·rw[if_neg e']at hd';exact hG.tn t' d (by simp only[ia,hd];rw[if_neg e'];exact hd') r' hr'
theorem aS{id:Nat}{Q:Exit->Act->World->Prop}{a:Act}{w:World}(h:Q .normal a w):Exit.inBlock id Q (.exit id) a w:=by simp only[Exit.inBlock,if_true];exact h
def JS(P:Program)(s:TypeId)(k:Nat):Option TypeId:=
 match P.underlying s with
 |some (.struct fs)=>(fs[k]?).map (·.type)
 |_=>none
theorem CD{s k t:Nat}(h:JS P s k=some t):∀fs f,P.underlying s=some (.struct fs)->fs[k]?=some f->f.type=t:=by
 intro fs f hu hf;simp only[JS,hu,hf,Option.map_some,Option.some.injEq]at h;exact h
theorem an.KE{s k o t:Nat}{x:Operand}{l:List D}{d:D}(hx:ev T x=some (.agg l))(hf:wW P s k=some o)(ht:JS P s k=some t)(hl:lay P t=some none)(hd:l[o]?=some d)
  (hr:an P ops c os (bw T dst d) H sps T' H'):
  an P ops c (⟨dst,.field s x k,ty,pos,aft,none⟩::os) T H (ps [(x,.agg l)] d::sps) T' H':=
 .KI hx hf (fun fs f hu hfk=>by rw[CD ht fs f hu hfk];exact hl) hd hr
def tA(ρ:Nat->Nat):List D->List D->Prop
 |[],[]=>True
 |d::l,d'::l'=>tP ρ d d'/\tA ρ l l'
 |_,_=>False
theorem tA.all{ρ:Nat->Nat}{ε:Env}{w:World}{S:cV}:∀{l l':List D} {vs:List Value},tA ρ l l'->cp ε w S l vs->cp (fun r=>ε (ρ r)) w S l' vs
 |[],[],[],_,_=>trivial
 |[],[],_::_,_,h=>h.elim
 |_::_,_::_,[],_,h=>h.elim
 |_::_,_::_,_::_,h,ha=>⟨h.1.1 _ _ _ _ ha.1,tA.all h.2 ha.2⟩
 |[],_::_,_,h,_=>h.elim
 |_::_,[],_,h,_=>h.elim
theorem tA.bV{ρ:Nat->Nat}:∀{l l':List D},tA ρ l l'->∀r∈bV l',ρ r∈Am.bV l
 |[],[],_,r,h=>by cases h
 |d::l,d'::l',h,r,hr=>by
  simp only[Am.bV,List.mem_append]at hr|-;exact hr.imp (h.1.2 r) (tA.bV h.2 r)
 |[],_::_,h,_,_=>h.elim
 |_::_,[],h,_,_=>h.elim
theorem w9.box{ρ:Nat->Nat}{ty:TypeId}{l l':List D}(h:tA ρ l l'):w9 ρ (.box ty l) (.box ty l'):=⟨fun _ _ _ _ _ ⟨e,cs,hb,h1,ha⟩=>⟨e,cs,hb,h1,h.all ha⟩,fun r hr=>h.bV r hr⟩
theorem tP.xz{ρ:Nat->Nat}{r:Nat}{b:Value}:tP ρ (.pinned (ρ r) b) (.pinned r b):=⟨fun _ _ _ _ h=>h,fun r' hr'=>by simp[D.pinned]at hr'|-;rw[hr']⟩
end
end Go.Am
namespace Go.Am
open Go.RowKit
theorem bf.zu{P:Program}{f:FuncId}{Hi Ho Hi' Ho':List (Nat×Hp)}{ds ds':List D}{d d':D}(h:bf P f Hi ds Ho d)(ρ σ:Nat->Nat)(hσ:(names Ho).all (fun r=>Nat.beq (σ (ρ r)) r)=true)
  (hHi:nK ρ Hi' Hi)(hni:names Hi'=(names Hi).map ρ)(hds:tA ρ ds' ds)(hHo:nK σ Ho Ho')(hno:names Ho'=(names Ho).map ρ)(hd:tP σ d d')
  (w1:dg Hi' (bV ds')=true)(w2:dg Hi' (ky Hi')=true)(w3:dg Ho' (ky Ho')=true)(w4:dg Ho' d'.nm=true)(w5:dg Ho' (names Hi')=true):bf P f Hi' ds' Ho' d' where
 ok:=h.ok
 HK:=w1
 IE:=w2
 HD:=w3
 F_:=w4
 uq:=w5
 calls:=by
  intro A w ε φ vs hlo hdj hp hv;have inv:∀r,ah Ho r≠none->σ (ρ r)=r:=fun r hr=>Nat.eq_of_beq_eq_true (List.all_eq_true.1 hσ r (cG.1 hr));have hio:∀r,ah Hi r≠none->ah Ho r≠none:=fun r hr=>dJ h.uq r (cG.1 hr);have toI:∀r,ah Hi r≠none->ah Hi' (ρ r)≠none:=fun r hr=>cG.2 (by rw[hni];exact List.mem_map.2 ⟨r,cG.1 hr,rfl⟩);have ofI:∀r',ah Hi' r'≠none->∃r,ah Hi r≠none/\ρ r=r':=fun r' hr'=>by
   have:=cG.1 hr';rw[hni]at this;obtain⟨r,hr,e⟩:=List.mem_map.1 this;exact⟨r,cG.2 hr,e⟩
  have ofO:∀r',ah Ho' r'≠none->∃r,ah Ho r≠none/\ρ r=r':=fun r' hr'=>by
   have:=cG.1 hr';rw[hno]at this;obtain⟨r,hr,e⟩:=List.mem_map.1 this;exact⟨r,cG.2 hr,e⟩
  have toO:∀r,ah Ho r≠none->ah Ho' (ρ r)≠none:=fun r hr=>cG.2 (by rw[hno];exact List.mem_map.2 ⟨r,cG.1 hr,rfl⟩);have inj:∀r r',ah Ho r≠none->ah Ho r'≠none->r≠r'->ρ r≠ρ r':=fun r r' hr hr' hne e=>hne (by rw[←inv r hr,←inv r' hr',e]);have hL:oz Hi (fun r=>φ (ρ r))=oz Hi' φ:=by
   funext k
   apply propext
   constructor
   ·rintro⟨r,hr,hf⟩;exact⟨ρ r,toI r hr,hf⟩
   ·rintro⟨r',hr',hf⟩;obtain⟨r,hr,rfl⟩:=ofI r' hr';exact⟨r,hr,hf⟩
  refine(h.calls A w (fun r=>ε (ρ r)) (fun r=>φ (ρ r)) vs (fun r hr=>hlo (ρ r) (toI r hr)) (fun r r' hr hr' hne=>hdj (ρ r) (ρ r') (toI r hr) (toI r' hr') (inj r r' (hio r hr) (hio r' hr') hne)) (fun r x hr=>?_) (hds.all hv)).mono ?_
  ·obtain⟨y,hy,hle⟩:=mN hHi r x hr;exact hle.1 _ _ _ _ _ (hp (ρ r) y hy)
  rintro e w' ⟨v,ε2,φ2,rfl,hε,hb1,hb2,hb3,hb4,hb5⟩;rw[hL]at hb1 hb2 hb3 hb5;have hreg:∀k,al ⟨A,w.heap.size,w,0,oz Hi' φ⟩ (ah Ho) φ2 k->k<w'.heap.size->al ⟨A,w.heap.size,w,0,oz Hi' φ⟩ (ah Ho') (fun r=>φ2 (σ r)) k/\w'.heap[k]?=w'.heap[k]?:=by
   intro k hk _;refine⟨⟨hk.1,fun r' hr'=>?_⟩,rfl⟩;obtain⟨r,hr,rfl⟩:=ofO r' hr';show¬φ2 (σ (ρ r)) k;rw[inv r hr];exact hk.2 r hr
  have hB:BY ⟨A,w.heap.size,w,0,oz Hi' φ⟩ Ho' d' (fun r=>ε2 (σ r)) w' (fun r=>φ2 (σ r)) v:=by
   refine⟨d'.mono (hd.1 _ _ _ _ hb1) (fun _ _=>rfl) hreg,fun r' x' hr'=>?_,fun r' hr' k hk=>?_,fun r1 r2 h1 h2 hne k hk=>?_,hb5⟩
   ·obtain⟨x,hx,hle⟩:=mN hHo r' x' hr';exact x'.mono (hle.1 _ _ _ _ _ (hb2 (σ r') x hx)) (fun _ _=>rfl) hreg (fun _ _=>rfl)
   ·obtain⟨r,hr,rfl⟩:=ofO r' hr';simp only[inv r hr]at hk;exact hb3 r hr k hk
   ·obtain⟨ra,hra,rfl⟩:=ofO r1 h1;obtain⟨rb,hrb,rfl⟩:=ofO r2 h2;simp only[inv ra hra,inv rb hrb]at hk|-;exact hb4 ra rb hra hrb (fun e=>hne (by rw[e])) k hk
  refine⟨v,fun r=>ε2 (σ r),fun r=>φ2 (σ r),rfl,fun r' hr'=>?_,hB⟩;obtain⟨r,hr,rfl⟩:=ofI r' hr';show ε2 (σ (ρ r))=_;rw[inv r (hio r hr),hε r hr]
section
variable {P:Program} {os:List Oper} {c:Ctx} {T T':List (Nat×D)} {H H':List (Nat×Hp)} {sps:List Spec}
variable {ops:Array Oper} {dst:Option Nat} {ty:TypeId} {pos:String} {aft:Array Edge} {Q:Exit->Act->World->Prop} {x y:Code}
def Kf(P:Program)(s d:TypeId):Bool:=
 match P.underlying s,P.underlying d with
 |some (.slice e),some .string=>match P.underlying e with|some (.int .u8)=>true|_=>false
 |_,_=>false
def bytesOf(l:List Int):List UInt8:=l.map fun n=>UInt8.ofNat n.toNat
theorem rJ:∀(ns:List Int) (s:ByteArray),ns.foldl (fun r n=>r.push (UInt8.ofNat n.toNat)) s=⟨(s.data.toList++bytesOf ns).toArray⟩
 |[],s=>by simp[bytesOf]
 |n::ns,s=>by
  rw[List.foldl_cons,rJ ns];simp[bytesOf,ByteArray.push]
theorem yh(k:IntKind):∀l:List Int,flat (ak.int k) l=l.map (D.int k)
 |[]=>rfl
 |n::l=>by
  have:=yh k l;simp only[flat,List.flatMap_cons]at this|-;rw[this];rfl
theorem vE{k:IntKind}{ε:Env}{w:World}{S:cV}:∀{l:List Int} {vs:List Value},cp ε w S (l.map (D.int k)) vs->vs=l.map (Value.int k)
 |[],[],_=>rfl
 |n::l,v::vs,h=>by rw[List.map_cons,←vE h.2,show v=_ from h.1]
 |[],_::_,h=>h.elim
 |_::_,[],h=>h.elim
theorem an.KT{s d:TypeId}{x:Operand}{l:List Int}(hx:ev T x=some (ai (ak.int .u8) l))(ht:Kf P s d=true)(hr:an P ops c os (bw T dst (cu (bytesOf l))) H sps T' H'):
  an P ops c (⟨dst,.convert s d x,ty,pos,aft,none⟩::os) T H (ps [(x,ai (ak.int .u8) l)] (cu (bytesOf l))::sps) T' H':=
 .pure [(x,ai (ak.int .u8) l)] rfl (by simpa using hx) (kB rfl) (fun ε w S a ha=>by
  obtain⟨A,cap,h1,_,hln,hA⟩:=ha (x,ai (ak.int .u8) l) (by simp);dsimp only at h1;unfold Kf at ht
  split at ht<;>try cases ht
  rename_i e hs hd
  split at ht<;>try cases ht
  rename_i he;have hc:∀a':Option Addr,(convert s d (.slice a' l.length cap)).run P w=(Conv.bytesToString (.slice a' l.length cap)).run P w:=fun a'=>run_convert_bytes_string w s d e a' l.length cap hs he hd;refine⟨.string ⟨(bytesOf l).toArray⟩,?_,rfl⟩;rcases hA with h0|⟨b,o,rfl,_,hl⟩
  ·have:l=[]:=List.eq_nil_of_length_eq_zero h0;subst this;have hz:(Conv.bytesToString (.slice A 0 cap)).run P w=.ok (.string ⟨#[]⟩) w:=by
    cases A with
    |none=>rfl
    |some a0=>
     have hq:=run_loadCells_list (P:=P) w a0 [] (fun j v hv=>by simp at hv);have:=run_bytesToString (P:=P) w a0 0 cap [] hq;rw[rJ]at this;exact this
   have hc0:(convert s d (.slice A 0 cap)).run P w=_:=(hc A).trans hz;simp only[execOp,h1,Sem.run_bind,List.length_nil,hc0,Result.andThen_ok];rfl
  ·obtain⟨vs,h3,h4,h5⟩:=o_ hl;rw[yh]at h5;have hvs:=vE h5;subst hvs;have hld:=run_loadCells_list (P:=P) w ⟨b,o,none⟩ (l.map (Value.int .u8)) (fun j v hv=>by rw[iM];exact h3 j v hv);rw[List.length_map]at hld;have:=run_bytesToString (P:=P) w ⟨b,o,none⟩ l.length cap l hld;rw[rJ]at this;simp only[execOp,h1,hc,Sem.run_bind,this,Result.andThen_ok]
   rfl) hr
end
end Go.Am
namespace Go.Am
open Go.RowKit
theorem wrap_u32{z:Int}{n:Nat}(h:z=n):IntKind.u32.wrap z=((n%4294967296:Nat):Int):=by rw[IntKind.wrap_u32];omega
theorem wrap_u64{z:Int}{n:Nat}(h:z=n)(hn:n<18446744073709551616):IntKind.u64.wrap z=(n:Int):=by rw[IntKind.wrap_u64];omega
theorem iD{z:Int}{n:Nat}(h:z=n)(hn:n<9223372036854775808):IntKind.i64.wrap z=(n:Int):=by rw[IntKind.wrap_i64];omega
theorem x7{k:IntKind}{n:Nat}(hk:32<=k.bits):xW .shr k (n:Int) 32=some ((n/4294967296:Nat):Int):=by
 have:min (32:Int).toNat k.bits=32:=by simp;omega
 unfold xW;rw[if_neg (by omega)];simp only[this]
 congr 1
 rw[Int.fdiv_eq_ediv_of_nonneg _ (by decide)];omega
theorem jV(n:Nat):IntKind.u32.wrap (n:Int)=((n%4294967296:Nat):Int):=wrap_u32 rfl
theorem cg{n:Nat}(hn:n<18446744073709551616):IntKind.u64.wrap (n:Int)=(n:Int):=wrap_u64 rfl hn
theorem gV{n:Nat}(hn:n<4294967296):IntKind.u32.wrap (n:Int)=(n:Int):=by rw[jV];omega
theorem vv{n m:Nat}(hn:n+m<9223372036854775808):IntKind.i64.wrap ((n:Int)+(m:Int))=((n+m:Nat):Int):=iD (by omega) hn
theorem eM{m:Nat}{ty:TypeId}{l l':List D}{hl:bV l=[]}{hl':bV l'=[]}(h:l=l'):Hp.row m ty l hl=Hp.row m ty l' hl':=by subst h;rfl
theorem Il.of_eq{d d':Hp}(h:d=d'):Il d d':=h▸.refl d
theorem dL{T:List (Nat×D)}:∀{l:List (Nat×D)},l.map (fun x=>aW T x.1)=l.map (fun x=>some x.2)->jm T l
 |[],_=>trivial
 |(t,d)::l,h=>by simp only[List.map_cons,List.cons.injEq]at h;exact⟨⟨d,h.1,.refl d⟩,dL h.2⟩
theorem jY{H:List (Nat×Hp)}:∀{l:List (Nat×Hp)},l.map (fun x=>ah H x.1)=l.map (fun x=>some x.2)->l3 H l
 |[],_=>trivial
 |(t,d)::l,h=>by simp only[List.map_cons,List.cons.injEq]at h;exact⟨⟨d,h.1,.refl d⟩,jY h.2⟩
theorem int_eq{k:IntKind}{a b:Int}(h:a=b):Le (.int k a) (.int k b):=.of_eq (by rw[h])
theorem td(n:Nat)(hn:n<18446744073709551616):ml PP 145 [.int .u64 n] (ao n):=by
 refine .of Go.Proofs.Tryz.func145 rfl (by kernel_rfl) rfl rfl rfl (fun A w0=>?_);refine .al (.aq rfl .nil) rfl ?_;have hl:dD [n%4294967296,n/4294967296]:=by intro d hd;simp at hd;omega
 have hv:val [n%4294967296,n/4294967296]=n:=by simp only[val];omega
 refine .al (.mv rfl<|.cv rfl mY (jV n)<|.mv rfl<|.sh rfl rfl (x7 (by decide))<|.cv rfl mY (gV (by omega))<|
  .bl (hl:=rfl) [(0,_,.int .u32 (n%4294967296:Nat),[.int .u32 (n%4294967296:Nat)]),(1,_,.int .u32 (n/4294967296:Nat),[.int .u32 (n/4294967296:Nat)])] ER rfl rfl ⟨rfl,rfl,.one rfl,rfl,rfl,rfl,.one rfl,rfl,trivial⟩ (by simp[qs,ev,aW,bw]) rfl rfl<|
  .call (m3 [n%4294967296,n/4294967296] hl (by simp)) ⟨rfl,trivial⟩<|.aq rfl .nil) rfl ?_
 refine .rP rfl (.tmp rfl) (.of_eq ?_) rfl;rw[hv]
theorem et(l:List Nat)(i:Nat):val (l.take (i+1))=val (l.take i)+4294967296^i*l.getD i 0:=by
 by_cases h:i<l.length
 ·rw[eV (List.getElem?_eq_getElem h)];simp[h]
 ·rw[List.take_of_length_le (by omega),List.take_of_length_le (by omega)];simp[List.getD,List.getElem?_eq_none (show l.length<=i by omega)]
theorem gD{l:List Nat}{i:Nat}(h:i<l.length)(d:Nat):val ((l.set i d).take (i+1))=val (l.take i)+4294967296^i*d:=by
 rw[et]
 congr 1
 ·rw[List.take_set_of_le (Nat.le_refl i)]
 ·simp[h]
theorem jK{l:List Nat}(h:dD l){d:Nat}(hd:d<4294967296)(i:Nat):dD (l.set i d):=fun x hx=>(List.mem_or_eq_of_mem_set hx).elim (h x) (fun e=>e▸hd)
theorem cw{l:List Nat}(h:dD l)(i:Nat):l.getD i 0<4294967296:=by
 by_cases hi:i<l.length
 ·simp[hi];exact h _ (List.getElem_mem hi)
 ·simp[List.getElem?_eq_none (show l.length<=i by omega)]
theorem jd(n:Nat):dD (List.replicate n 0):=fun d hd=>by rw[List.eq_of_mem_replicate hd];omega
theorem ng(n:Nat):List.replicate n (D.int .u32 0)=bY (List.replicate n 0):=by simp[bY]
theorem fy(l:List Nat)(i d:Nat):(bY l).set ((i:Int).toNat*1) (.int .u32 (d:Nat))=bY (l.set i d):=by rw[Int.toNat_natCast,Nat.mul_one,DT]
theorem Dz{p c d e:Nat}{v va vb:Nat}(h:v+p*c=va+vb):v+p*((c+d+e)%4294967296)+p*4294967296*((c+d+e)/4294967296)=va+p*d+(vb+p*e):=by
 have:p*((c+d+e)%4294967296)+p*4294967296*((c+d+e)/4294967296)=p*c+p*d+p*e:=by
  rw[Nat.mul_assoc,←Nat.mul_add,Nat.mod_add_div,Nat.mul_add,Nat.mul_add]
 omega
theorem Ht(a b:List Nat)(ha:dD a)(hb:dD b)(hla:a.length<=1099511627776)(hlb:b.length<=1099511627776){s:Nat}(hv0:val a+val b=s):ml PP 212 [dY a,dY b] (ao s):=by
 refine .of Go.Proofs.Tryz.func212 rfl (by kernel_rfl) rfl rfl rfl (fun A w0=>?_);refine .al (.aq rfl<|.nil) rfl ?_;refine .tI (ι:={p:List Nat×List Nat//dD p.1/\dD p.2/\p.1.length<=1099511627776/\p.2.length<=p.1.length/\val p.1+val p.2=s}) (fun p=>[(0,dY p.1.1),(1,dY p.1.2)]) (fun _=>[]) ?_ ?_
 ·by_cases h:a.length<b.length
  ·refine .al (.mv rfl<|.ln rfl mj<|.mv rfl<|.ln rfl mj<|.cm rfl rfl (b:=true) (by simp[dW,h])<|.nil) rfl ?_;refine .cT rfl (.region (.mv rfl<|.mv rfl<|.aq rfl<|.aq rfl<|.nil) rfl fun _ _ hs=>?_);exact hs.to ⟨(b,a),hb,ha,hlb,Nat.le_of_lt h,(Nat.add_comm _ _).trans hv0⟩ (dL rfl) trivial rfl rfl
  ·refine .al (.mv rfl<|.ln rfl mj<|.mv rfl<|.ln rfl mj<|.cm rfl rfl (b:=false) (by simp[dW];omega)<|.nil) rfl ?_;exact .cF rfl (.skip fun _ _ hs=>hs.to ⟨(a,b),ha,hb,hla,Nat.le_of_not_lt h,hv0⟩ (dL rfl) trivial rfl rfl)
 rintro⟨⟨a',b'⟩,ha',hb',hl,hle,hval⟩;simp only at ha' hb' hl hle hval;clear hv0 ha hb hla hlb;show Ok PP _ [(0,dY a'),(1,dY b')] [] _ _;refine .al (.mv rfl<|.ln rfl mj<|.ar rfl rfl (congrArg some (vv (n:=a'.length) (m:=1) (by omega)))<|.HH rfl rfl ER rfl (by omega) (by omega) rfl<|.aq rfl<|.nil) rfl ?_;refine .al (.aq rfl<|.nil) rfl ?_;refine .tI (ι:={p:List Nat×Nat//p.1.length=a'.length+1/\dD p.1/\p.2<=1/\val (p.1.take a'.length)+4294967296^a'.length*p.2=s})
  (fun p=>[(0,dY a'),(1,dY b'),(18,.own 18),(5,.own 18),(6,.int .u64 p.1.2)]) (fun p=>[(18,.row 1 230 (bY p.1.1) (aZ _))]) ?_ ?_
 ·refine .al (.mv rfl<|.ln rfl mj<|.mv rfl<|.nil) rfl ?_;refine .block (.loop (ι:={p:List Nat×Nat×Nat//p.1.length=a'.length+1/\dD p.1/\p.2.1<=1/\p.2.2<=a'.length/\val (p.1.take p.2.2)+4294967296^p.2.2*p.2.1=val (a'.take p.2.2)+val (b'.take p.2.2)})
   (fun p=>[(0,dY a'),(1,dY b'),(18,.own 18),(5,.own 18),(6,.int .u64 p.1.2.1),(20,.int .i64 a'.length),(21,.int .i64 p.1.2.2)]) (fun p=>[(18,.row 1 230 (bY p.1.1) (aZ _))])
   (fun p=>a'.length-p.1.2.2) ⟨(List.replicate (a'.length+1) 0,0,0),by simp,jd _,by simp,Nat.zero_le _,by simp[val]⟩
   (dL rfl) ⟨⟨_,rfl,.of_eq (eM (ng _))⟩,trivial⟩ rfl rfl ?_)
  rintro⟨⟨zs,c,i⟩,hzl,hzs,hc,hi,hv⟩;simp only at hzl hzs hc hi hv;show Ok PP _ [(0,dY a'),(1,dY b'),(18,.own 18),(5,.own 18),(6,.int .u64 c),(20,.int .i64 a'.length),(21,.int .i64 i)] [(18,.row 1 230 (bY zs) (aZ _))] _ _;by_cases hlt:i<a'.length
  ·refine .al (.cm rfl rfl (b:=true) (by simp[dW,hlt])<|.nil) rfl (.sq ?_);refine .cT rfl (.skip (Ok.on ?_));refine .tI (ι:={q:List Nat×Nat//q.1.length=a'.length+1/\dD q.1/\q.2<=1/\val (q.1.take (i+1))+4294967296^(i+1)*q.2=val (a'.take (i+1))+val (b'.take (i+1))})
    (fun p=>[(0,dY a'),(1,dY b'),(18,.own 18),(5,.own 18),(6,.int .u64 p.1.2),(20,.int .i64 a'.length),(21,.int .i64 i)]) (fun p=>[(18,.row 1 230 (bY p.1.1) (aZ _))]) ?_ ?_
   ·have hx:a'[i]?=some (a'.getD i 0):=by simp[hlt]
    have hdl:=cw ha' i;have hel:=cw hb' i;have hst:=et a' i;have hst':=et b' i;generalize a'.getD i 0=d at hx hdl hst;refine .block (.al (.mv rfl<|.aq rfl<|.nil) rfl ?_);refine .al (.mv rfl<|.mv rfl<|.mv rfl<|.qJ rfl rfl pS (by omega) (by omega) (bF hx)<|.i6 rfl rk<|.cv rfl ot (cg (by omega))<|
     .ar rfl rfl (congrArg some (wrap_u64 (n:=c+d) (by omega) (by omega)))<|.aq rfl<|.nil) rfl ?_
    refine .cut [(0,dY a'),(1,dY b'),(18,.own 18),(5,.own 18),(6,.int .u64 (c+d+b'.getD i 0:Nat)),(7,.int .i64 i),(20,.int .i64 a'.length),(21,.int .i64 i)] [(18,.row 1 230 (bY zs) (aZ _))] ?_ ?_
    ·by_cases hb:i<b'.length
     ·have hy:b'[i]?=some (b'.getD i 0):=by simp[hb]
      generalize b'.getD i 0=e at hy hel hst';refine .al (.mv rfl<|.mv rfl<|.ln rfl mj<|.cm rfl rfl (b:=true) (by simp[dW,hb])<|.nil) rfl ?_;refine .cT rfl (.region (.mv rfl<|.mv rfl<|.mv rfl<|.qJ rfl rfl pS (by omega) (by omega) (bF hy)<|.i6 rfl rk<|.cv rfl ot (cg (by omega))<|
       .ar rfl rfl (congrArg some (wrap_u64 (n:=c+d+e) (by omega) (by omega)))<|.aq rfl<|.nil) rfl fun _ _ hs=>?_)
      exact hs.sub (dL rfl) (jY rfl) rfl rfl
     ·have he:b'.getD i 0=0:=by simp[List.getElem?_eq_none (show b'.length<=i by omega)]
      refine .al (.mv rfl<|.mv rfl<|.ln rfl mj<|.cm rfl rfl (b:=false) (by simp[dW];omega)<|.nil) rfl ?_;refine .cF rfl (.skip fun _ _ hs=>?_);exact hs.sub ⟨⟨_,rfl,.refl _⟩,⟨_,rfl,.refl _⟩,⟨_,rfl,.refl _⟩,⟨_,rfl,.refl _⟩,⟨_,rfl,int_eq (by omega)⟩,⟨_,rfl,.refl _⟩,⟨_,rfl,.refl _⟩,⟨_,rfl,.refl _⟩,trivial⟩ (jY rfl) rfl rfl
    generalize b'.getD i 0=e at hel hst';refine .al (.mv rfl<|.mv rfl<|.mv rfl<|.cv rfl mY (jV _)<|.q6 (n:=a'.length+1) (m':=1) rfl rfl rfl pS (by rw[bS,hzl];omega) rfl rfl (by omega) (by omega)<|.AM rfl rfl rfl rk rfl rfl (by simp[bS,hzl];try omega)<|.nil) rfl ?_;refine .region (.mv rfl<|.sh rfl rfl (x7 (by decide))<|.aq rfl<|.nil) rfl fun _ _ hs=>?_;refine hs.to ⟨(zs.set i ((c+d+e)%4294967296),(c+d+e)/4294967296),by simpa using hzl,jK hzs (Nat.mod_lt _ (by omega)) i,?_,?_⟩
     (dL rfl) ⟨⟨_,rfl,.of_eq (eM (fy ..))⟩,trivial⟩ rfl rfl
    ·simp only;omega
    ·simp only;rw[gD (by omega),hst,hst',Nat.pow_succ];exact Dz hv
   ·rintro⟨⟨zs',c'⟩,h1,h2,h3,h4⟩;simp only at h1 h2 h3 h4;show Ok PP _ [(0,dY a'),(1,dY b'),(18,.own 18),(5,.own 18),(6,.int .u64 c'),(20,.int .i64 a'.length),(21,.int .i64 i)] [(18,.row 1 230 (bY zs') (aZ _))] _ _;refine .region (.ar rfl rfl (congrArg some (vv (n:=i) (m:=1) (by omega)))<|.mv rfl<|.nil) rfl fun _ _ hs=>?_;exact hs.round (m:=a'.length-i) ⟨(zs',c',i+1),h1,h2,h3,hlt,h4⟩ (by simp only;omega) (dL rfl) (jY rfl) rfl rfl
  ·have:i=a'.length:=by omega
   subst this;refine .al (.cm rfl rfl (b:=false) (by simp[dW])<|.nil) rfl (.sq ?_);refine .cF rfl (.exit fun _ _ hs=>?_);refine hs.to ⟨(zs,c),hzl,hzs,hc,?_⟩ (dL rfl) (jY rfl) rfl rfl;rw[←hval];simpa [List.take_of_length_le hle]using hv
 rintro⟨⟨zs,c⟩,hzl,hzs,hc,hv⟩;simp only at hzl hzs hc hv;show Ok PP _ [(0,dY a'),(1,dY b'),(18,.own 18),(5,.own 18),(6,.int .u64 c)] [(18,.row 1 230 (bY zs) (aZ _))] _ _;refine .al (.mv rfl<|.mv rfl<|.ln rfl mj<|.mv rfl<|.cv rfl mY (gV (by omega))<|.q6 (n:=a'.length+1) (m':=1) rfl rfl rfl pS (by rw[bS,hzl];omega) rfl rfl (by omega) (by omega)<|.AM rfl rfl rfl rk rfl rfl (by simp[bS,hzl];try omega)<|.nil) rfl ?_;refine .tU (n:=a'.length+1) (m':=1) 5 rfl rfl (by simp[bS,hzl]) rfl rfl ?_;have hset:(bY zs).set ((a'.length:Int).toNat*1) (.int .u32 c)=bY (zs.set a'.length c):=fy ..;have hlv:val (zs.set a'.length c)=s:=by
  have:=gD (l:=zs) (i:=a'.length) (by omega) c;rw[List.take_of_length_le (by simp;omega)]at this;rw[this,hv]
 rw[←hlv];refine .sub [(5,dY (zs.set a'.length c))] [] ⟨⟨_,rfl,.of_eq (nP (by simp[hzl]) hset)⟩,trivial⟩ trivial rfl rfl ?_;refine .al (.mv rfl<|.call (m3 _ (jK hzs (by omega) _) (by simp;omega)) ⟨rfl,trivial⟩<|.aq rfl<|.nil) rfl ?_;exact .rP rfl (.tmp rfl) (.refl _) rfl
end Go.Am
namespace Go.Am
open Go.RowKit
section
variable {P:Program} {os:List Oper} {c:Ctx} {T T':List (Nat×D)} {H H':List (Nat×Hp)} {sps:List Spec}
variable {ops:Array Oper} {dst:Option Nat} {ty:TypeId} {pos:String} {aft:Array Edge}
theorem an.Kw{xt:TypeId}{x:Operand}{k:IntKind}{n r:Int}(hx:ev T x=some (.int k n))(h:bits .xor k (if k.signed then-1 else k.max) n=r)(hr:an P ops c os (bw T dst (.int k r)) H sps T' H'):
  an P ops c (⟨dst,.unOp .xor xt x,ty,pos,aft,none⟩::os) T H (ps [(x,.int k n)] (.int k r)::sps) T' H':=
 .pure [(x,.int k n)] rfl (by simpa using hx) (kB rfl) (fun ε w S a ha=>by
  have h1:a.eval x=.int k n:=ha (x,.int k n) (by simp);subst h;exact⟨_,by simp only[execOp,h1,Op.unary,Sem.run_bind,Sem.run_pure];rfl,rfl⟩) hr
end
theorem kh(a b:Nat)(ha:a<4294967296)(hb:b<4294967296):bits .and .u32 (a:Int) (b:Int)=((a&&&b:Nat):Int)/\bits .or .u32 (a:Int) (b:Int)=((a|||b:Nat):Int)/\bits .xor .u32 (a:Int) (b:Int)=((a^^^b:Nat):Int):=by
 have h1:(BitVec.ofInt 32 (a:Int)).toNat=a:=by
  rw[BitVec.ofInt_natCast,BitVec.toNat_ofNat];exact Nat.mod_eq_of_lt (by omega)
 have h2:(BitVec.ofInt 32 (b:Int)).toNat=b:=by
  rw[BitVec.ofInt_natCast,BitVec.toNat_ofNat];exact Nat.mod_eq_of_lt (by omega)
 have x1:a&&&b<2^32:=Nat.and_lt_two_pow _ (by omega);have x2:a|||b<2^32:=Nat.or_lt_two_pow (by omega) (by omega);have x3:a^^^b<2^32:=Nat.xor_lt_two_pow (by omega) (by omega);refine⟨?_,?_,?_⟩
 ·show IntKind.u32.wrap ((BitVec.ofInt 32 (a:Int)&&&BitVec.ofInt 32 (b:Int)).toNat:Int)=_;rw[BitVec.toNat_and,h1,h2,gV (by omega)]
 ·show IntKind.u32.wrap ((BitVec.ofInt 32 (a:Int)|||BitVec.ofInt 32 (b:Int)).toNat:Int)=_;rw[BitVec.toNat_or,h1,h2,gV (by omega)]
 ·show IntKind.u32.wrap ((BitVec.ofInt 32 (a:Int)^^^BitVec.ofInt 32 (b:Int)).toNat:Int)=_;rw[BitVec.toNat_xor,h1,h2,gV (by omega)]
theorem II{n:Nat}(h:n<4294967296):n/2147483648=if n.testBit 31 then 1 else 0:=by
 rw[Nat.testBit_eq_decide_div_mod_eq];simp only[decide_eq_true_eq]
 split<;>omega
theorem Hw{n:Nat}(h:n<4294967296):n.testBit 31=decide (2147483648<=n):=by
 rw[Nat.testBit_eq_decide_div_mod_eq];by_cases h1:2147483648<=n
 ·simp only[h1,decide_true,decide_eq_true_eq];omega
 ·simp only[h1,decide_false,decide_eq_false_iff_not];omega
theorem IY:(4294967295:Nat).testBit 31=true:=by decide
theorem zf{x y b:Nat}(hx:x<4294967296)(hy:y<4294967296)(hb:b<=1):
  (((4294967295^^^x)&&&y)|||((4294967295^^^(x^^^y))&&&((x+(8589934592-y-b))%4294967296)))/2147483648=if x<y+b then 1 else 0:=by
 have hd:(x+(8589934592-y-b))%4294967296<4294967296:=Nat.mod_lt _ (by omega);generalize hdd:(x+(8589934592-y-b))%4294967296=d at hd;have h1:(4294967295^^^x)&&&y<2^32:=Nat.and_lt_two_pow _ (by omega);have h2:(4294967295^^^(x^^^y))&&&d<2^32:=Nat.and_lt_two_pow _ (by omega);rw[II (Nat.or_lt_two_pow h1 h2)];simp only[Nat.testBit_or,Nat.testBit_and,Nat.testBit_xor,IY,Hw hx,Hw hy,Hw hd];by_cases c1:2147483648<=x<;>by_cases c2:2147483648<=y<;>by_cases c3:2147483648<=d<;>simp[c1,c2,c3]<;>omega
theorem wM(x y b:Nat)(hx:x<4294967296)(hy:y<4294967296)(hb:b<=1):ml PP 247 [.int .u32 x,.int .u32 y,.int .u32 b]
  (.ig [.int .u32 ((x+(8589934592-y-b))%4294967296:Nat),.int .u32 (if x<y+b then 1 else 0:Nat)]):=by
 refine .of Go.Proofs.Tryz.func247 rfl (by kernel_rfl) rfl rfl rfl (fun A w0=>?_);have hd:(x+(8589934592-y-b))%4294967296<4294967296:=Nat.mod_lt _ (by omega);have hbor:=zf hx hy hb;generalize hdd:(x+(8589934592-y-b))%4294967296=d at hd hbor;have h1:(4294967295^^^x)<2^32:=Nat.xor_lt_two_pow (by omega) (by omega);have h2:x^^^y<2^32:=Nat.xor_lt_two_pow (by omega) (by omega);have h3:4294967295^^^(x^^^y)<2^32:=Nat.xor_lt_two_pow (by omega) h2;have h4:(4294967295^^^x)&&&y<2^32:=Nat.and_lt_two_pow _ (by omega);have h5:(4294967295^^^(x^^^y))&&&d<2^32:=Nat.and_lt_two_pow _ (by omega);have h6:IntKind.u32.wrap (IntKind.u32.wrap ((x:Int)-y)-b)=(d:Int):=by
  rw[IntKind.wrap_u32,IntKind.wrap_u32];omega
 refine .al (.aq rfl<|.aq rfl<|.nil) rfl ?_;refine .al (.mv rfl<|.mv rfl<|.ar rfl rfl rfl<|.mv rfl<|.ar rfl rfl (congrArg some h6)<|.aq rfl<|.nil) rfl ?_;refine .al (.mv rfl<|.Kw rfl (kh 4294967295 x (by omega) hx).2.2<|.mv rfl<|.ar rfl rfl (congrArg some (kh _ _ h1 hy).1)<|.mv rfl<|.mv rfl<|.ar rfl rfl (congrArg some (kh x y hx hy).2.2)<|
  .Kw rfl (kh 4294967295 _ (by omega) h2).2.2<|.mv rfl<|.ar rfl rfl (congrArg some (kh _ _ h3 hd).1)<|.ar rfl rfl (congrArg some (kh _ _ h4 h5).2.1)<|.sh rfl rfl rfl<|.aq rfl<|.nil) rfl ?_
 refine .F2 rfl (.tmp rfl) (.tmp rfl) (.of_eq ?_) rfl;rw[←hbor];show D.ig [_,.int .u32 (Int.fdiv _ _)]=_;rw[Int.fdiv_eq_ediv_of_nonneg _ (by decide)]
 rfl
theorem Gx(x y c:Nat)(hx:x<4294967296)(hy:y<4294967296)(hc:c<=1):ml PP 251 [.int .u32 x,.int .u32 y,.int .u32 c]
  (.ig [.int .u32 ((x+y+c)%4294967296:Nat),.int .u32 ((x+y+c)/4294967296:Nat)]):=by
 refine .of Go.Proofs.Tryz.func251 rfl (by kernel_rfl) rfl rfl rfl (fun A w0=>?_);refine .al (.aq rfl<|.aq rfl<|.nil) rfl ?_;refine .al (.mv rfl<|.cv rfl ot (cg (by omega))<|.mv rfl<|.cv rfl ot (cg (by omega))<|.ar rfl rfl (congrArg some (wrap_u64 (n:=x+y) (by omega) (by omega)))<|
  .mv rfl<|.cv rfl ot (cg (by omega))<|.ar rfl rfl (congrArg some (wrap_u64 (n:=x+y+c) (by omega) (by omega)))<|.aq rfl<|.nil) rfl ?_
 refine .al (.mv rfl<|.cv rfl mY (jV _)<|.aq rfl<|.nil) rfl ?_;refine .al (.mv rfl<|.sh rfl rfl (x7 (by decide))<|.cv rfl mY (gV (by omega))<|.aq rfl<|.nil) rfl ?_;exact .F2 rfl (.tmp rfl) (.tmp rfl) (.refl _) rfl
def bN(x:Nat):Nat:=if x=0 then 0 else Nat.log2 x+1
def rO:ByteArray:=⟨((List.range 256).map fun n=>UInt8.ofNat (bN n)).toArray⟩
theorem ox{x:Nat}(h:x≠0):bN x=Nat.log2 x+1:=by simp[bN,h]
theorem m5(x:Nat):x<2^bN x:=by
 by_cases h:x=0
 ·subst h;decide
 ·rw[ox h];exact Nat.lt_log2_self
theorem xh{x:Nat}(h:x≠0):2^(bN x-1)<=x:=by
 rw[ox h];exact Nat.log2_self_le h
theorem E4{x n:Nat}(h1:2^n<=x)(h2:x<2^(n+1)):bN x=n+1:=by
 have h0:x≠0:=by have:=Nat.two_pow_pos n;omega
 rw[ox h0,(Nat.log2_eq_iff h0).2 ⟨h1,h2⟩]
theorem qE{x:Nat}(k:Nat)(h:2^k<=x):bN (x/2^k)+k=bN x:=by
 have hp:=Nat.two_pow_pos k;have hx:x≠0:=by omega
 have hq:x/2^k≠0:=by have:=Nat.div_pos h hp;omega
 have h1:=xh hq;have h2:=m5 (x/2^k);rw[ox hq]at h1 h2|-
 symm
 rw[show Nat.log2 (x/2^k)+1+k=(Nat.log2 (x/2^k)+k)+1 by omega];apply E4
 ·rw[Nat.pow_add];exact(Nat.le_div_iff_mul_le hp).1 h1
 ·rw[show Nat.log2 (x/2^k)+k+1=(Nat.log2 (x/2^k)+1)+k by omega,Nat.pow_add];exact(Nat.div_lt_iff_lt_mul hp).1 h2
theorem zV{n:Nat}(h:n<256):rO[n]?=some (UInt8.ofNat (bN n)):=by
 have hs:rO.size=256:=by simp[rO,ByteArray.size]
 rw[getElem?_pos rO n (by rw[hs];exact h)];simp[rO,ByteArray.getElem_eq_getElem_data]
end Go.Am
namespace Go.Am
open Go.RowKit
theorem gb(l:List Nat)(i:Nat):val (l.drop i)=l.getD i 0+4294967296*val (l.drop (i+1)):=by
 by_cases h:i<l.length
 ·rw[List.drop_eq_getElem_cons h,val];simp[h]
 ·rw[List.drop_of_length_le (by omega),List.drop_of_length_le (by omega)];simp[val,List.getElem?_eq_none (show l.length<=i by omega)]
theorem fo(l:List Nat)(i:Nat)(h:i<=l.length):val l=val (l.take i)+4294967296^i*val (l.drop i):=by
 conv=>lhs;rw[←List.take_append_drop i l]
 rw[lG,List.length_take,Nat.min_eq_left h]
theorem fx{l:List Nat}(h:dD l)(i:Nat):val (l.take i)<4294967296^i:=by
 have h1:=pq (mA h i);have h2:(l.take i).length<=i:=by simp;omega
 exact Nat.lt_of_lt_of_le h1 (Nat.pow_le_pow_right (by omega) h2)
theorem mi{x:Nat}:x<4294967296^(aL x).length:=by
 have:=pq (dp x);rwa [eE]at this
theorem dn{x:Nat}(h:x≠0):0<(aL x).length:=by rw[lD h];simp
theorem sH{x:Nat}(h:x≠0):4294967296^((aL x).length-1)<=x:=by
 induction x using Nat.strongRecOn with
 |_ x ih=>
  rw[lD h];simp only[List.length_cons,Nat.add_sub_cancel];by_cases h0:x/4294967296=0
  ·rw[h0,dA];simp;omega
  ·have:=ih _ (Nat.div_lt_self (by omega) (by omega)) h0;have hl:=dn h0;obtain⟨n,hn⟩:∃n,(aL (x/4294967296)).length=n+1:=⟨_,(Nat.succ_pred (by omega)).symm⟩;rw[hn]at this|-;simp only[Nat.add_sub_cancel]at this;rw[Nat.pow_succ];omega
theorem kc{x y:Nat}(h:x<=y):(aL x).length<=(aL y).length:=by
 by_cases h0:x=0
 ·subst h0;rw[dA];simp
 ·have h1:=sH h0;have h2:=mi (x:=y);have h3:4294967296^((aL x).length-1)<4294967296^(aL y).length:=by omega
  have h4:=(Nat.pow_lt_pow_iff_right (by omega)).1 h3;have:=dn h0;omega
theorem we{x y:Nat}(h:(aL x).length<(aL y).length):x<y:=by
 apply Nat.lt_of_not_le;intro h';have:=kc h';omega
theorem fw{x n:Nat}(h:x<4294967296^n):(aL x).length<=n:=by
 by_cases h0:x=0
 ·subst h0;rw[dA];simp
 ·have h1:=sH h0;have h3:4294967296^((aL x).length-1)<4294967296^n:=by omega
  have h4:=(Nat.pow_lt_pow_iff_right (by omega)).1 h3;have:=dn h0;omega
def fI(x y:Nat):Int:=if x<y then-1 else if y<x then 1 else 0
theorem tl{a b:List Nat}{i:Nat}(ha:dD a)(hi:i<=a.length)(hj:i<=b.length)(hlt:val (a.drop i)<val (b.drop i)):val a<val b:=by
 rw[fo a i hi,fo b i hj];have h1:=fx ha i;have h2:4294967296^i*(val (a.drop i)+1)<=4294967296^i*val (b.drop i):=Nat.mul_le_mul (Nat.le_refl _) hlt;rw[Nat.mul_add,Nat.mul_one]at h2;omega
theorem JO{a b:Int}(h:a=b):dW .eql a b=some true:=by simp[dW,h]
theorem IN{a b:Int}(h:a≠b):dW .eql a b=some false:=by simp[dW,h]
theorem zX{a b:Int}(h:a<b):dW .lss a b=some true:=by simp[dW,h]
theorem zZ{a b:Int}(h:b<=a):dW .lss a b=some false:=by simp[dW];omega
theorem HR{a b:Int}(h:b<a):dW .gtr a b=some true:=by simp[dW,h]
theorem Is{a b:Int}(h:a<=b):dW .gtr a b=some false:=by simp[dW];omega
theorem Ie{a b:Int}(h:b<=a):dW .geq a b=some true:=by simp[dW,h]
theorem Fp{a b:Int}(h:a<b):dW .geq a b=some false:=by simp[dW];omega
theorem Dr{n d:Nat}(hd:d≠0)(hn:n<18446744073709551616):pB .quo .u64 (n:Int) (d:Int)=some ((n/d:Nat):Int):=by
 unfold pB;simp only[Int.natCast_eq_zero,hd,if_false];rw[show(n:Int).tdiv (d:Int)=((n/d:Nat):Int)from rfl,cg (Nat.lt_of_le_of_lt (Nat.div_le_self _ _) hn)]
theorem wR{k:IntKind}{n d:Nat}(hd:d≠0):pB .rem k (n:Int) (d:Int)=some ((n%d:Nat):Int):=by
 unfold pB;simp only[Int.natCast_eq_zero,hd,if_false]
 rfl
theorem wN{n d:Nat}(hd:d≠0)(hn:n<9223372036854775808):pB .quo .i64 (n:Int) (d:Int)=some ((n/d:Nat):Int):=by
 unfold pB;simp only[Int.natCast_eq_zero,hd,if_false];rw[show(n:Int).tdiv (d:Int)=((n/d:Nat):Int)from rfl,iD rfl (Nat.lt_of_le_of_lt (Nat.div_le_self _ _) hn)]
theorem A1{n:Nat}(hn:n<4294967296):xW .shl .u64 (n:Int) 32=some ((n*4294967296:Nat):Int):=by
 unfold xW;rw[if_neg (by omega)];simp only[show min (32:Int).toNat IntKind.u64.bits=32 by decide];rw[show(n:Int)*2^32=((n*4294967296:Nat):Int)by rw[Int.natCast_mul];rfl,cg (by omega)]
theorem wI{n d:Nat}(hn:n<4294967296)(hd:d<4294967296):pB .or .u64 ((n*4294967296:Nat):Int) (d:Int)=some ((n*4294967296+d:Nat):Int):=by
 show some (bits .or .u64 _ _)=_;rw[bits_or_u64_nat _ _ (by omega) (by omega)];have:=Nat.two_pow_add_eq_or_of_lt (i:=32) (b:=d) (by omega) n;rw[show n*4294967296=2^32*n by omega,←this]
theorem sR{n d:Nat}(h:n*d<18446744073709551616):pB .mul .u64 (n:Int) (d:Int)=some ((n*d:Nat):Int):=by
 show some (IntKind.u64.wrap _)=_;rw[←Int.natCast_mul,cg h]
theorem sG{n d:Nat}(h:n+d<18446744073709551616):pB .add .u64 (n:Int) (d:Int)=some ((n+d:Nat):Int):=congrArg some (wrap_u64 (by omega) h)
theorem eB{n d:Nat}(h:n+d<9223372036854775808):pB .add .i64 (n:Int) (d:Int)=some ((n+d:Nat):Int):=congrArg some (iD (by omega) h)
theorem qc{n d:Nat}(h:d<=n)(h':n<9223372036854775808):pB .sub .i64 (n:Int) (d:Int)=some ((n-d:Nat):Int):=congrArg some (iD (by omega) (by omega))
theorem kV{n:Nat}(h':n<9223372036854775808):pB .sub .i64 (n:Int) 1=some ((n:Int)-1):=congrArg some (wrap_i64 (by omega) (by omega))
theorem gf{n:Nat}(h':n+1<9223372036854775808):pB .add .i64 (n:Int) 1=some ((n+1:Nat):Int):=eB (d:=1) h'
theorem Le.nil{m:Nat}:Le .nil (.jR 0 m [] rfl):=⟨fun _ _ _ _ h=>⟨none,0,h,Nat.le_refl _,by simp,.inl rfl⟩,fun _ h=>h⟩
theorem bj:Le .nil (ao 0):=by
 have:ao 0=.jR 0 1 [] rfl:=dg_eq' (by rw[dA]);rw[this];exact .nil
where dg_eq' {xs:List Nat} (h:xs=[]):dY xs=.jR 0 1 [] rfl:=by subst h;rfl
end Go.Am
namespace Go.Am
open Go.RowKit
theorem tg{n k:Nat}(hk:k<=32):xW .shr .u32 (n:Int) (k:Int)=some ((n/2^k:Nat):Int):=by
 unfold xW;rw[if_neg (by omega)];have:min (k:Int).toNat IntKind.u32.bits=k:=by rw[Int.toNat_natCast,show IntKind.u32.bits=32 by decide];omega
 simp only[this];rw[Int.fdiv_eq_ediv_of_nonneg _ (by exact_mod_cast Nat.zero_le _)]
 congr 1
theorem eL{x n:Nat}(h:x<2^n):bN x<=n:=by
 by_cases h0:x=0
 ·subst h0;exact Nat.zero_le _
 ·have h1:=xh h0;have:=(Nat.pow_lt_pow_iff_right (a:=2) (by omega)).1 (Nat.lt_of_le_of_lt h1 h);rw[ox h0]at this|-;omega
theorem Bi(x:Nat)(hx:x<4294967296):ml PP 231 [.int .u32 x] (.int .i64 (bN x:Nat)):=by
 refine .of Go.Proofs.Tryz.func231 rfl (by kernel_rfl) rfl rfl rfl (fun A w0=>?_);refine .al (.aq rfl<|.nil) rfl ?_;refine .tI (ι:={p:Nat×Nat//p.1<65536/\p.2<=16/\bN p.1+p.2=bN x}) (fun p=>[(0,.int .u32 (p.1.1:Nat)),(2,.int .i64 (p.1.2:Nat))]) (fun _=>[]) ?_ ?_
 ·by_cases h:65536<=x
  ·refine .al (.mv rfl<|.cm rfl rfl (b:=true) (by simp[dW];try omega)<|.nil) rfl ?_;refine .cT rfl (.al (.mv rfl<|.sh rfl rfl (tg (k:=16) (by omega))<|.aq rfl<|.nil) rfl ?_);refine .region (.aq rfl<|.nil) rfl fun _ _ hs=>?_;exact hs.to ⟨(x/65536,16),by omega,Nat.le_refl _,qE 16 h⟩ (dL rfl) trivial rfl rfl
  ·refine .al (.mv rfl<|.cm rfl rfl (b:=false) (by simp[dW];try omega)<|.nil) rfl ?_;exact .cF rfl (.skip fun _ _ hs=>hs.to ⟨(x,0),Nat.lt_of_not_le h,by omega,rfl⟩ (dL rfl) trivial rfl rfl)
 rintro⟨⟨y,n⟩,hy,hn,he⟩;simp only at hy hn he;show Ok PP _ [(0,.int .u32 (y:Nat)),(2,.int .i64 (n:Nat))] [] _ _;rw[←he];clear he hx x;refine .tI (ι:={p:Nat×Nat//p.1<256/\p.2<=24/\bN p.1+p.2=bN y+n}) (fun p=>[(0,.int .u32 (p.1.1:Nat)),(2,.int .i64 (p.1.2:Nat))]) (fun _=>[]) ?_ ?_
 ·by_cases h:256<=y
  ·refine .al (.mv rfl<|.cm rfl rfl (b:=true) (by simp[dW];try omega)<|.nil) rfl ?_;refine .cT rfl (.al (.mv rfl<|.sh rfl rfl (tg (k:=8) (by omega))<|.aq rfl<|.nil) rfl ?_);refine .region (.mv rfl<|.ar rfl rfl (eB (n:=n) (d:=8) (by omega))<|.aq rfl<|.nil) rfl fun _ _ hs=>?_;refine hs.to ⟨(y/256,n+8),by simp only;omega,by simp only;omega,?_⟩ (dL rfl) trivial rfl rfl;have:bN (y/256)+8=bN y:=qE (x:=y) 8 h;simp only at this|-;omega
  ·refine .al (.mv rfl<|.cm rfl rfl (b:=false) (by simp[dW];try omega)<|.nil) rfl ?_;exact .cF rfl (.skip fun _ _ hs=>hs.to ⟨(y,n),Nat.lt_of_not_le h,by simp only;omega,rfl⟩ (dL rfl) trivial rfl rfl)
 rintro⟨⟨z,k⟩,hz,hk,he⟩;simp only at hz hk he;show Ok PP _ [(0,.int .u32 (z:Nat)),(2,.int .i64 (k:Nat))] [] _ _;rw[←he];have hb:bN z<=8:=eL (by omega);have hw:IntKind.i64.wrap ((UInt8.ofNat (bN z)).toNat:Int)=((bN z:Nat):Int):=by
  rw[show(UInt8.ofNat (bN z)).toNat=bN z by rw[UInt8.toNat_ofNat'];omega];exact iD rfl (by omega)
 refine .al (.mv rfl<|.mv rfl<|.cv rfl sy (r:=(z:Int)) (by rw[IntKind.wrap_u8];omega)<|.JG (s:=rO) (by kernel_rfl) rfl de (by omega) (zV (by omega))<|.cv rfl xm hw<|
  .ar rfl rfl (eB (by omega))<|.aq rfl<|.nil) rfl ?_
 refine .rP rfl (.tmp rfl) (int_eq ?_) rfl;omega
theorem rI(x:Nat)(hx:x<4294967296):ml PP 226 [.int .u32 x] (.int .i64 ((32-bN x:Nat):Int)):=by
 refine .of Go.Proofs.Tryz.func226 rfl (by kernel_rfl) rfl rfl rfl (fun A w0=>?_);refine .al (.aq rfl<|.nil) rfl ?_;refine .al (.mv rfl<|.call (Bi x hx) ⟨rfl,trivial⟩<|.ar rfl rfl (qc (n:=32) (eL (n:=32) (by omega)) (by omega))<|.aq rfl<|.nil) rfl ?_;exact .rP rfl (.tmp rfl) (.refl _) rfl
theorem xj{x y:Nat}(h:x<y):fI x y=-1:=by simp[fI,h]
theorem AH{x y:Nat}(h:y<x):fI x y=1:=by simp[fI,h];omega
theorem Gs(x:Nat):fI x x=0:=by simp[fI]
theorem Dd(x y:Nat)(hx:(aL x).length<=1099511627776)(hy:(aL y).length<=1099511627776):ml PP 224 [ao x,ao y] (.int .i64 (fI x y)):=by
 show ml PP _ [dY (aL x),dY (aL y)] _;refine .of Go.Proofs.Tryz.func224 rfl (by kernel_rfl) rfl rfl rfl (fun A w0=>?_);refine .al (.aq rfl<|.nil) rfl ?_;refine .sq ?_;by_cases hl:(aL x).length=(aL y).length
 ·refine .al (.mv rfl<|.ln rfl aw<|.mv rfl<|.ln rfl aw<|.cm rfl rfl (b:=false) (by simp[dW,hl])<|.nil) rfl ?_;refine .cF rfl (.skip (Ok.on (.sq ?_)));refine .al (.mv rfl<|.ln rfl aw<|.ar rfl rfl (kV (by omega))<|.aq rfl<|.nil) rfl ?_;refine .block (.loop (ι:={j:Nat//j<=(aL x).length/\val ((aL x).drop j)=val ((aL y).drop j)}) (fun j=>[(0,dY (aL x)),(1,dY (aL y)),(5,.int .i64 ((j.1:Nat)-1))]) (fun _=>[]) (fun j=>j.1)
   ⟨(aL x).length,Nat.le_refl _,by rw[List.drop_length,hl,List.drop_length]⟩ (dL rfl) trivial rfl rfl ?_)
  rintro⟨j,hj,hv⟩;show Ok PP _ [(0,dY (aL x)),(1,dY (aL y)),(5,.int .i64 ((j:Nat)-1))] [] _ _;refine .sq ?_
  cases j with
  |zero=>
   refine .al (.mv rfl<|.cm rfl rfl (b:=false) (by simp[dW])<|.nil) rfl ?_;refine .cF rfl (.exit (Ok.on ?_));refine .al (.aq rfl<|.nil) rfl ?_;simp only[List.drop_zero,eE]at hv;subst hv;exact .rP rfl (.tmp rfl) (int_eq (Gs x).symm) rfl
  |succ i=>
   have hxi:(aL x)[i]?=some ((aL x).getD i 0):=by simp[show i<(aL x).length by omega]
   have hyi:(aL y)[i]?=some ((aL y).getD i 0):=by simp[show i<(aL y).length by omega]
   have hdx:=gb (aL x) i;have hdy:=gb (aL y) i;generalize (aL x).getD i 0=d at hxi hdx;generalize (aL y).getD i 0=e at hyi hdy;refine .al (.mv rfl<|.cm rfl rfl (b:=true) (by simp[dW];try omega)<|.nil) rfl ?_;refine .cT rfl (.skip (Ok.on (.sq (.block ?_))));have hi:((i+1:Nat):Int)-1=i:=by omega
   rw[hi];by_cases hde:d=e
   ·refine .cZ cf (.mv rfl<|.mv rfl<|.qJ rfl rfl aB (by omega) (by omega) (bF hxi)<|.i6 rfl a_<|.mv rfl<|.mv rfl<|.qJ rfl rfl aB (by omega) (by omega) (bF hyi)<|.i6 rfl a_<|
     .cm rfl rfl (b:=false) (by simp[dW,hde])<|.nil) rfl (by kernel_rfl) ?_
    refine .cF rfl (.skip (Ok.on ?_));refine .region (.mv rfl<|.ar rfl rfl (kV (by omega))<|.aq rfl<|.nil) rfl fun _ _ hs=>?_;exact hs.round (m:=i+1) ⟨i,by omega,by rw[hdx,hdy,hv,hde]⟩ (by simp) (dL rfl) trivial rfl rfl
   ·refine .cZ cf (.mv rfl<|.mv rfl<|.qJ rfl rfl aB (by omega) (by omega) (bF hxi)<|.i6 rfl a_<|.mv rfl<|.mv rfl<|.qJ rfl rfl aB (by omega) (by omega) (bF hyi)<|.i6 rfl a_<|
     .cm rfl rfl (b:=true) (by simp[dW];try omega)<|.nil) rfl (by kernel_rfl) ?_
    refine .cT rfl (.sq ?_);by_cases hlt:d<e
    ·refine .cZ cf (.mv rfl<|.mv rfl<|.qJ rfl rfl aB (by omega) (by omega) (bF hxi)<|.i6 rfl a_<|.mv rfl<|.mv rfl<|.qJ rfl rfl aB (by omega) (by omega) (bF hyi)<|.i6 rfl a_<|
      .cm rfl rfl (b:=true) (by simp[dW];try omega)<|.nil) rfl (by kernel_rfl) ?_
     refine .cT rfl (.al (.aq rfl<|.nil) rfl ?_);have:x<y:=by
      have:=tl (a:=aL x) (b:=aL y) (i:=i) (dp x) (by omega) (by omega) (by omega);simpa [eE]using this
     exact .rF (fun _ _ h=>h) rfl (.tmp rfl) (int_eq (xj this).symm) rfl
    ·refine .cZ cf (.mv rfl<|.mv rfl<|.qJ rfl rfl aB (by omega) (by omega) (bF hxi)<|.i6 rfl a_<|.mv rfl<|.mv rfl<|.qJ rfl rfl aB (by omega) (by omega) (bF hyi)<|.i6 rfl a_<|
      .cm rfl rfl (b:=false) (by simp[dW];try omega)<|.nil) rfl (by kernel_rfl) ?_
     refine .cF rfl (.skip (Ok.on ?_));refine .al (.aq rfl<|.nil) rfl ?_;have:y<x:=by
      have:=tl (a:=aL y) (b:=aL x) (i:=i) (dp y) (by omega) (by omega) (by omega);simpa [eE]using this
     exact .rF (fun _ _ h=>h) rfl (.tmp rfl) (int_eq (AH this).symm) rfl
 ·refine .al (.mv rfl<|.ln rfl aw<|.mv rfl<|.ln rfl aw<|.cm rfl rfl (b:=true) (by simp[dW];try omega)<|.nil) rfl ?_;refine .cT rfl (.sq ?_);by_cases hlt:(aL x).length<(aL y).length
  ·refine .al (.mv rfl<|.ln rfl aw<|.mv rfl<|.ln rfl aw<|.cm rfl rfl (b:=true) (by simp[dW];try omega)<|.nil) rfl ?_;refine .cT rfl (.al (.aq rfl<|.nil) rfl ?_);have hxy:x<y:=we hlt;exact .rF (fun _ _ h=>h) rfl (.tmp rfl) (int_eq (xj hxy).symm) rfl
  ·refine .al (.mv rfl<|.ln rfl aw<|.mv rfl<|.ln rfl aw<|.cm rfl rfl (b:=false) (by simp[dW];try omega)<|.nil) rfl ?_;refine .cF rfl (.skip (Ok.on ?_));refine .al (.aq rfl<|.nil) rfl ?_;have hxy:y<x:=we (by omega);exact .rF (fun _ _ h=>h) rfl (.tmp rfl) (int_eq (AH hxy).symm) rfl
end Go.Am
namespace Go.Am
open Go.RowKit
theorem C9{p d e o w w' v va vb:Nat}(h:v+vb=va+p*w)(ho:o+e+w=d+4294967296*w'):v+p*o+(vb+p*e)=va+p*d+p*4294967296*w':=by
 have:p*(o+e+w)=p*(d+4294967296*w'):=by rw[ho]
 rw[Nat.mul_add,Nat.mul_add,Nat.mul_add,←Nat.mul_assoc]at this;omega
theorem I6(x y:Nat)(hyx:y<=x)(hx:(aL x).length<=1099511627776):ml PP 215 [ao x,ao y] (ao (x-y)):=by
 show ml PP _ [dY (aL x),dY (aL y)] _;have hly:=kc hyx;have hvx:=eE x;have hvy:=eE y;have hlx:=dp x;have hlwy:=dp y;generalize aL x=a at*;generalize aL y=b at*;refine .of Go.Proofs.Tryz.func215 rfl (by kernel_rfl) rfl rfl rfl (fun A w0=>?_);refine .al (.aq rfl<|.nil) rfl ?_;refine .al (.mv rfl<|.ln rfl aw<|.HH rfl rfl eC rfl (by omega) (by omega) rfl<|.aq rfl<|.nil) rfl ?_;refine .al (.aq rfl<|.nil) rfl (.sq ?_);refine .al (.mv rfl<|.ln rfl aw<|.mv rfl<|.nil) rfl ?_;refine .block (.loop (ι:={p:List Nat×Nat×Nat//p.1.length=a.length/\dD p.1/\p.2.1<=1/\p.2.2<=a.length/\val (p.1.take p.2.2)+val (b.take p.2.2)=val (a.take p.2.2)+4294967296^p.2.2*p.2.1})
  (fun p=>[(0,dY a),(1,dY b),(11,.own 11),(5,.own 11),(6,.int .u32 p.1.2.1),(13,.int .i64 a.length),(14,.int .i64 p.1.2.2)]) (fun p=>[(11,.row 1 230 (bY p.1.1) (aZ _))])
  (fun p=>a.length-p.1.2.2) ⟨(List.replicate a.length 0,0,0),by simp,jd _,by simp,Nat.zero_le _,by simp[val]⟩
  (dL rfl) ⟨⟨_,rfl,.of_eq (eM (ng _))⟩,trivial⟩ rfl rfl ?_)
 rintro⟨⟨zs,c,i⟩,hzl,hzs,hc,hi,hv⟩;simp only at hzl hzs hc hi hv;show Ok PP _ [(0,dY a),(1,dY b),(11,.own 11),(5,.own 11),(6,.int .u32 c),(13,.int .i64 a.length),(14,.int .i64 i)] [(11,.row 1 230 (bY zs) (aZ _))] _ _;by_cases hlt:i<a.length
 ·refine .al (.cm rfl rfl (b:=true) (by simp[dW,hlt])<|.nil) rfl (.sq ?_);refine .cT rfl (.skip (Ok.on (.sq (.block ?_))));have hxi:a[i]?=some (a.getD i 0):=by simp[hlt]
  have hdl:=cw hlx i;have hel:=cw hlwy i;have hst:=et a i;have hst':=et b i;generalize a.getD i 0=d at hxi hdl hst;refine .al (.mv rfl<|.aq rfl<|.nil) rfl ?_;refine .al (.aq rfl<|.nil) rfl ?_;refine .cut [(0,dY a),(1,dY b),(11,.own 11),(5,.own 11),(6,.int .u32 c),(7,.int .i64 i),(8,.int .u32 (b.getD i 0:Nat)),(13,.int .i64 a.length),(14,.int .i64 i)] [(11,.row 1 230 (bY zs) (aZ _))] ?_ ?_
  ·by_cases hb:i<b.length
   ·have hy:b[i]?=some (b.getD i 0):=by simp[hb]
    generalize b.getD i 0=e at hy;refine .al (.mv rfl<|.mv rfl<|.ln rfl aw<|.cm rfl rfl (b:=true) (by simp[dW,hb])<|.nil) rfl ?_;refine .cT rfl (.region (.mv rfl<|.mv rfl<|.qJ rfl rfl aB (by omega) (by omega) (bF hy)<|.i6 rfl a_<|.aq rfl<|.nil) rfl fun _ _ hs=>?_);exact hs.sub (dL rfl) (jY rfl) rfl rfl
   ·have he:b.getD i 0=0:=by simp[List.getElem?_eq_none (show b.length<=i by omega)]
    rw[he];refine .al (.mv rfl<|.mv rfl<|.ln rfl aw<|.cm rfl rfl (b:=false) (by simp[dW];omega)<|.nil) rfl ?_;exact .cF rfl (.skip fun _ _ hs=>hs.sub (dL rfl) (jY rfl) rfl rfl)
  generalize b.getD i 0=e at hel hst';refine .region (.mv rfl<|.mv rfl<|.mv rfl<|.mv rfl<|.qJ rfl rfl aB (by omega) (by omega) (bF hxi)<|.i6 rfl a_<|.mv rfl<|.mv rfl<|.call (wM d e c hdl hel hc) ⟨rfl,rfl,rfl,trivial⟩<|.mv rfl<|.ext rfl rfl<|.ext rfl rfl<|
   .q6 (n:=a.length) (m':=1) rfl rfl rfl aB (by rw[bS,hzl];omega) rfl rfl (by omega) (by omega)<|.AM rfl rfl rfl a_ rfl rfl (by simp[bS,hzl];try omega)<|.aq rfl<|.nil) rfl fun _ _ hs=>?_
  refine Ok.on ?_ _ _ hs;refine .region (.ar rfl rfl (gf (by omega))<|.mv rfl<|.nil) rfl fun _ _ hs=>?_;refine hs.round (m:=a.length-i) ⟨(zs.set i ((d+(8589934592-e-c))%4294967296),if d<e+c then 1 else 0,i+1),by simpa using hzl,jK hzs (Nat.mod_lt _ (by omega)) i,?_,hlt,?_⟩ (by simp only;omega)
   (dL rfl) ⟨⟨_,rfl,.of_eq (eM (fy ..))⟩,trivial⟩ rfl rfl
  ·simp only;split<;>omega
  ·simp only;rw[gD (by omega),hst,hst',Nat.pow_succ];refine C9 hv ?_
   split<;>omega
 ·have:i=a.length:=by omega
  subst this;refine .al (.cm rfl rfl (b:=false) (by simp[dW])<|.nil) rfl (.sq ?_);refine .cF rfl (.exit (Ok.on ?_));rw[List.take_length,List.take_of_length_le (by omega),List.take_of_length_le hly]at hv;have hz:=pq hzs;have hc0:c=0:=by
   rcases(show c=0\/c=1 by omega)with h|h
   ·exact h
   ·subst h;rw[hzl]at hz;omega
  subst hc0;have hlv:val zs=x-y:=by omega
  refine .tU (n:=a.length) (m':=1) 5 rfl rfl (by simp[bS,hzl]) rfl rfl ?_;refine .sub [(5,dY zs)] [] ⟨⟨_,rfl,.of_eq (nP hzl.symm rfl)⟩,trivial⟩ trivial rfl rfl ?_;refine .al (.mv rfl<|.call (m3 _ hzs (by omega)) ⟨rfl,trivial⟩<|.aq rfl<|.nil) rfl ?_;exact .rP rfl (.tmp rfl) (.of_eq (by rw[hlv])) rfl
theorem At(x d:Nat)(hd0:d≠0)(hd:d<4294967296)(hx:(aL x).length<=1099511627776):ml PP 225 [ao x,.int .u32 d] (.ig [ao (x/d),ao (x%d)]):=by
 show ml PP _ [dY (aL x),.int .u32 d] _;have hvx:=eE x;have hlx:=dp x;generalize aL x=a at*;refine .of Go.Proofs.Tryz.func225 rfl (by kernel_rfl) rfl rfl rfl (fun A w0=>?_);refine .al (.aq rfl<|.aq rfl<|.nil) rfl ?_;refine .al (.mv rfl<|.ln rfl aw<|.HH rfl rfl eC rfl (by omega) (by omega) rfl<|.aq rfl<|.nil) rfl ?_;refine .al (.aq rfl<|.nil) rfl (.sq ?_);refine .al (.mv rfl<|.ln rfl aw<|.ar rfl rfl (kV (by omega))<|.aq rfl<|.nil) rfl ?_;refine .block (.loop (ι:={p:List Nat×Nat×Nat//p.1.length=a.length/\dD p.1/\p.2.1<d/\p.2.2<=a.length/\val (a.drop p.2.2)=val (p.1.drop p.2.2)*d+p.2.1})
  (fun p=>[(0,dY a),(1,.int .u32 d),(11,.own 11),(6,.own 11),(7,.int .u64 p.1.2.1),(8,.int .i64 ((p.1.2.2:Nat)-1))]) (fun p=>[(11,.row 1 230 (bY p.1.1) (aZ _))])
  (fun p=>p.1.2.2) ⟨(List.replicate a.length 0,0,a.length),by simp,jd _,by simp only;omega,Nat.le_refl _,by simp[val]⟩
  (dL rfl) ⟨⟨_,rfl,.of_eq (eM (ng _))⟩,trivial⟩ rfl rfl ?_)
 rintro⟨⟨zs,c,j⟩,hzl,hzs,hc,hj,hv⟩;simp only at hzl hzs hc hj hv;show Ok PP _ [(0,dY a),(1,.int .u32 d),(11,.own 11),(6,.own 11),(7,.int .u64 c),(8,.int .i64 ((j:Nat)-1))] [(11,.row 1 230 (bY zs) (aZ _))] _ _;refine .sq ?_
 cases j with
 |zero=>
  refine .al (.mv rfl<|.cm rfl rfl (b:=false) (by simp[dW])<|.nil) rfl ?_;refine .cF rfl (.exit (Ok.on ?_));simp only[List.drop_zero]at hv;have hq:val zs=x/d:=by
   rw[←hvx,hv,Nat.mul_comm,Nat.mul_add_div (by omega),Nat.div_eq_of_lt hc];omega
  have hr:c=x%d:=by
   rw[←hvx,hv,Nat.mul_comm,Nat.mul_add_mod,Nat.mod_eq_of_lt hc]
  refine .tU (n:=a.length) (m':=1) 6 rfl rfl (by simp[bS,hzl]) rfl rfl ?_;refine .sub [(6,dY zs),(7,.int .u64 c)] [] ⟨⟨_,rfl,.of_eq (nP hzl.symm rfl)⟩,⟨_,rfl,.refl _⟩,trivial⟩ trivial rfl rfl ?_;refine .al (.mv rfl<|.call (m3 _ hzs (by omega)) ⟨rfl,trivial⟩<|.mv rfl<|.call (td c (by omega)) ⟨rfl,trivial⟩<|.aq rfl<|.aq rfl<|.nil) rfl ?_;exact .F2 rfl (.tmp rfl) (.tmp rfl) (.of_eq (by rw[hq,hr])) rfl
 |succ i=>
  have hxi:a[i]?=some (a.getD i 0):=by simp[show i<a.length by omega]
  have hel:=cw hlx i;have hdr:=gb a i;have hdz:=gb (zs.set i ((c*4294967296+a.getD i 0)/d)) i;generalize a.getD i 0=e at hxi hel hdr hdz;refine .al (.mv rfl<|.cm rfl rfl (b:=true) (by simp[dW];try omega)<|.nil) rfl ?_;refine .cT rfl (.skip (Ok.on (.sq (.block ?_))));rw[show((i+1:Nat):Int)-1=i by omega];have hs0:c*4294967296+e<d*4294967296:=by omega
  have hq1:(c*4294967296+e)/d<4294967296:=by rw[Nat.div_lt_iff_lt_mul (by omega)];omega
  refine .al (.mv rfl<|.sh rfl rfl (A1 (n:=c) (by omega))<|.mv rfl<|.mv rfl<|.qJ rfl rfl aB (by omega) (by omega) (bF hxi)<|.i6 rfl a_<|.cv rfl bG (cg (by omega))<|.ar rfl rfl (wI (by omega) hel)<|.aq rfl<|.nil) rfl ?_;refine .al (.mv rfl<|.mv rfl<|.mv rfl<|.mv rfl<|.cv rfl bG (cg (by omega))<|.ar rfl rfl (Dr hd0 (by omega))<|.cv rfl eZ (gV hq1)<|
   .q6 (n:=a.length) (m':=1) rfl rfl rfl aB (by rw[bS,hzl];omega) rfl rfl (by omega) (by omega)<|.AM rfl rfl rfl a_ rfl rfl (by simp[bS,hzl];try omega)<|.nil) rfl ?_
  refine .region (.mv rfl<|.mv rfl<|.cv rfl bG (cg (by omega))<|.ar rfl rfl (wR hd0)<|.aq rfl<|.nil) rfl fun _ _ hs=>?_;refine Ok.on ?_ _ _ hs;refine .region (.mv rfl<|.ar rfl rfl (kV (by omega))<|.aq rfl<|.nil) rfl fun _ _ hs=>?_;refine hs.round (m:=i+1) ⟨(zs.set i ((c*4294967296+e)/d),(c*4294967296+e)%d,i),by simpa using hzl,jK hzs hq1 i,Nat.mod_lt _ (by omega),by simp only;omega,?_⟩ (by simp)
   (dL rfl) ⟨⟨_,rfl,.of_eq (eM (fy ..))⟩,trivial⟩ rfl rfl
  simp only;have hg:(zs.set i ((c*4294967296+e)/d)).getD i 0=(c*4294967296+e)/d:=by simp[show i<zs.length by omega]
  have hds:(zs.set i ((c*4294967296+e)/d)).drop (i+1)=zs.drop (i+1):=List.drop_set_of_lt (Nat.lt_succ_self i);rw[hg,hds]at hdz;rw[hdr,hdz,hv];have hdm:=Nat.div_add_mod (c*4294967296+e) d;generalize (c*4294967296+e)/d=q at*;generalize (c*4294967296+e)%d=r at*;generalize val (zs.drop (i+1))=Z at*;rw[Nat.add_mul,Nat.mul_assoc,Nat.mul_add,Nat.mul_comm q d];omega
end Go.Am
namespace Go.Am
open Go.RowKit
theorem EI{p q c x y o vz vb:Nat}{v:Nat}(h:v+p*q*c=vz+p*x*vb):
  v+p*q*((c+(x*y+o))%4294967296)+p*q*4294967296*((c+(x*y+o))/4294967296)=vz+p*q*o+p*x*(vb+q*y):=by
 have:p*q*((c+(x*y+o))%4294967296)+p*q*4294967296*((c+(x*y+o))/4294967296)=p*q*c+(p*q*(x*y)+p*q*o):=by
  rw[Nat.mul_assoc (p*q),←Nat.mul_add,Nat.mod_add_div,Nat.mul_add,Nat.mul_add]
 have e:p*q*(x*y)=p*x*(q*y):=by
  rw[Nat.mul_assoc,Nat.mul_assoc,Nat.mul_left_comm q x y]
 rw[Nat.mul_add];omega
theorem Cm{x y c o:Nat}(hx:x<4294967296)(hy:y<4294967296)(hc:c<4294967296)(ho:o<4294967296):x*y+o<18446744073709551616/\c+(x*y+o)<18446744073709551616:=by
 have:x*y<=4294967295*4294967295:=Nat.mul_le_mul (by omega) (by omega);omega
theorem G6(x y:Nat)(hx:(aL x).length<=1099511627776)(hy:(aL y).length<=1099511627776):ml PP 150 [ao x,ao y] (ao (x*y)):=by
 show ml PP _ [dY (aL x),dY (aL y)] _;have hvx:=eE x;have hvy:=eE y;have hlx:=dp x;have hly:=dp y;generalize aL x=a at*;generalize aL y=b at*;refine .of Go.Proofs.Tryz.func150 rfl (by kernel_rfl) rfl rfl rfl (fun A w0=>?_);refine .al (.aq rfl<|.nil) rfl ?_;refine .al (.mv rfl<|.ln rfl aw<|.mv rfl<|.ln rfl aw<|.ar rfl rfl (eB (by omega))<|.HH rfl rfl eC rfl (by omega) (by omega) rfl<|.aq rfl<|.nil) rfl (.sq ?_);refine .al (.mv rfl<|.ln rfl aw<|.mv rfl<|.nil) rfl ?_;refine .block (.loop (ι:={p:List Nat×Nat//p.1.length=a.length+b.length/\dD p.1/\p.2<=a.length/\val (p.1.take (p.2+b.length))=val (a.take p.2)*val b})
  (fun p=>[(0,dY a),(1,dY b),(16,.own 16),(5,.own 16),(17,dY a),(18,.int .i64 a.length),(19,.int .i64 p.1.2)]) (fun p=>[(16,.row 1 230 (bY p.1.1) (aZ _))])
  (fun p=>a.length-p.1.2) ⟨(List.replicate (a.length+b.length) 0,0),by simp,jd _,Nat.zero_le _,by
   simp only[Nat.zero_add,List.take_zero,val,Nat.zero_mul,List.take_replicate];exact oE _⟩
  (dL rfl) ⟨⟨_,rfl,.of_eq (eM (ng _))⟩,trivial⟩ rfl rfl ?_)
 rintro⟨⟨zs,i⟩,hzl,hzs,hi,hv⟩;simp only at hzl hzs hi hv;show Ok PP _ [(0,dY a),(1,dY b),(16,.own 16),(5,.own 16),(17,dY a),(18,.int .i64 a.length),(19,.int .i64 i)] [(16,.row 1 230 (bY zs) (aZ _))] _ _;by_cases hlt:i<a.length
 ·refine .al (.cm rfl rfl (b:=true) (by simp[dW,hlt])<|.nil) rfl (.sq ?_);refine .cT rfl (.skip (Ok.on (.sq (.block ?_))));have hxi:a[i]?=some (a.getD i 0):=by simp[hlt]
  have hdl:=cw hlx i;have hst:=et a i;generalize a.getD i 0=d at hxi hdl hst;refine .al (.mv rfl<|.qJ rfl rfl aB (by omega) (by omega) (bF hxi)<|.i6 rfl a_<|.aq rfl<|.aq rfl<|.nil) rfl ?_;refine .al (.aq rfl<|.nil) rfl (.sq ?_);refine .al (.mv rfl<|.ln rfl aw<|.mv rfl<|.nil) rfl ?_;refine .block (.loop (ι:={p:List Nat×Nat×Nat//p.1.length=a.length+b.length/\dD p.1/\p.2.1<4294967296/\p.2.2<=b.length/\(∀j,i+p.2.2<=j->p.1.getD j 0=zs.getD j 0)/\
    val (p.1.take (i+p.2.2))+4294967296^i*4294967296^p.2.2*p.2.1=val (zs.take (i+p.2.2))+4294967296^i*d*val (b.take p.2.2)})
   (fun p=>[(0,dY a),(1,dY b),(16,.own 16),(5,.own 16),(17,dY a),(18,.int .i64 a.length),(19,.int .i64 i),(6,.int .i64 i),(7,.int .u32 d),(8,.int .u64 p.1.2.1),(24,dY b),(25,.int .i64 b.length),(26,.int .i64 p.1.2.2)]) (fun p=>[(16,.row 1 230 (bY p.1.1) (aZ _))])
   (fun p=>b.length-p.1.2.2) ⟨(zs,0,0),hzl,hzs,by simp,Nat.zero_le _,fun _ _=>rfl,by simp[val]⟩
   (dL rfl) (jY rfl) rfl rfl ?_)
  rintro⟨⟨us,c,k⟩,hul,hus,hc,hk,hsame,hu⟩;simp only at hul hus hc hk hsame hu;show Ok PP _ [(0,dY a),(1,dY b),(16,.own 16),(5,.own 16),(17,dY a),(18,.int .i64 a.length),(19,.int .i64 i),(6,.int .i64 i),(7,.int .u32 d),(8,.int .u64 c),(24,dY b),(25,.int .i64 b.length),(26,.int .i64 k)] [(16,.row 1 230 (bY us) (aZ _))] _ _;by_cases hkl:k<b.length
  ·refine .al (.cm rfl rfl (b:=true) (by simp[dW,hkl])<|.nil) rfl (.sq ?_);refine .cT rfl (.skip (Ok.on (.sq (.block ?_))));have hyk:b[k]?=some (b.getD k 0):=by simp[hkl]
   have hel:=cw hly k;have hst':=et b k;have hst2:=et zs (i+k);have hok:us[i+k]?=some (zs.getD (i+k) 0):=by
    rw[←hsame (i+k) (Nat.le_refl _)];simp[show i+k<us.length by omega]
   have hol:=cw hzs (i+k);generalize b.getD k 0=e at hyk hel hst';generalize zs.getD (i+k) 0=o at hok hol hst2;obtain⟨hm1,hm2⟩:=Cm hdl hel hc hol;refine .al (.mv rfl<|.qJ rfl rfl aB (by omega) (by omega) (bF hyk)<|.i6 rfl a_<|.aq rfl<|.aq rfl<|.nil) rfl ?_;refine .al (.mv rfl<|.mv rfl<|.cv rfl bG (cg (by omega))<|.mv rfl<|.cv rfl bG (cg (by omega))<|.ar rfl rfl (sR (by omega))<|.mv rfl<|.mv rfl<|.mv rfl<|.ar rfl rfl (eB (by omega))<|
    .q6 (n:=a.length+b.length) (m':=1) rfl rfl rfl aB (by rw[bS,hul];omega) rfl rfl (by omega) (by omega)<|.zI rfl rfl a_ (d:=.int .u32 o) (by rw[Int.toNat_natCast,Nat.mul_one];exact bF hok)<|.cv rfl bG (cg (by omega))<|
    .ar rfl rfl (sG hm1)<|.ar rfl rfl (sG hm2)<|.aq rfl<|.nil) rfl ?_
   refine .al (.mv rfl<|.mv rfl<|.mv rfl<|.ar rfl rfl (eB (by omega))<|.mv rfl<|.cv rfl eZ (jV _)<|.q6 (n:=a.length+b.length) (m':=1) rfl rfl rfl aB (by rw[bS,hul];omega) rfl rfl (by omega) (by omega)<|
    .AM rfl rfl rfl a_ rfl rfl (by simp[bS,hul];try omega)<|.nil) rfl ?_
   refine .region (.mv rfl<|.sh rfl rfl (x7 (by decide))<|.aq rfl<|.nil) rfl fun _ _ hs=>?_;refine Ok.on ?_ _ _ hs;refine .region (.ar rfl rfl (gf (by omega))<|.mv rfl<|.nil) rfl fun _ _ hs=>?_;refine hs.round (m:=b.length-k) ⟨(us.set (i+k) ((c+(d*e+o))%4294967296),(c+(d*e+o))/4294967296,k+1),by simpa using hul,jK hus (Nat.mod_lt _ (by omega)) _,by simp only;omega,hkl,?_,?_⟩ (by simp only;omega)
    (dL rfl) ⟨⟨_,rfl,.of_eq (eM (fy ..))⟩,trivial⟩ rfl rfl
   ·intro j hj;simp only at hj|-;rw[←hsame j (by omega),List.getD_eq_getElem?_getD,List.getD_eq_getElem?_getD,List.getElem?_set_ne (by omega)]
   ·simp only;rw[←Nat.add_assoc,gD (by omega),hst2,hst',Nat.pow_succ,Nat.pow_add,←Nat.mul_assoc (4294967296^i)];exact EI hu
  ·have hkb:k=b.length:=by omega
   subst hkb;refine .al (.cm rfl rfl (b:=false) (by simp[dW])<|.nil) rfl (.sq ?_);refine .cF rfl (.exit (Ok.on ?_));refine .region (.mv rfl<|.mv rfl<|.mv rfl<|.ln rfl aw<|.ar rfl rfl (eB (by omega))<|.mv rfl<|.cv rfl eZ (gV hc)<|.q6 (n:=a.length+b.length) (m':=1) rfl rfl rfl aB (by rw[bS,hul];omega) rfl rfl (by omega) (by omega)<|
    .AM rfl rfl rfl a_ rfl rfl (by simp[bS,hul];try omega)<|.nil) rfl fun _ _ hs=>?_
   refine Ok.on ?_ _ _ hs;refine .region (.ar rfl rfl (gf (by omega))<|.mv rfl<|.nil) rfl fun _ _ hs=>?_;refine hs.round (m:=a.length-i) ⟨(us.set (i+b.length) c,i+1),by simpa using hul,jK hus hc _,hlt,?_⟩ (by simp only;omega)
    (dL rfl) ⟨⟨_,rfl,.of_eq (eM (fy ..))⟩,trivial⟩ rfl rfl
   simp only;rw[show i+1+b.length=i+b.length+1 by omega,gD (by omega),Nat.pow_add,hu,hv,hst,List.take_length,Nat.add_mul]
 ·have:i=a.length:=by omega
  subst this;refine .al (.cm rfl rfl (b:=false) (by simp[dW])<|.nil) rfl (.sq ?_);refine .cF rfl (.exit (Ok.on ?_));rw[List.take_length,List.take_of_length_le (by omega),hvx,hvy]at hv;refine .tU (n:=a.length+b.length) (m':=1) 5 rfl rfl (by simp[bS,hzl]) rfl rfl ?_;refine .sub [(5,dY zs)] [] ⟨⟨_,rfl,.of_eq (nP hzl.symm rfl)⟩,trivial⟩ trivial rfl rfl ?_;refine .al (.mv rfl<|.call (m3 _ hzs (by omega)) ⟨rfl,trivial⟩<|.aq rfl<|.nil) rfl ?_;exact .rP rfl (.tmp rfl) (.of_eq (by rw[hv])) rfl
end Go.Am
namespace Go.Am
open Go.RowKit
theorem Gk{n k:Nat}(hk:k<=64)(h:n*2^k<18446744073709551616):xW .shl .u64 (n:Int) (k:Int)=some ((n*2^k:Nat):Int):=by
 unfold xW;rw[if_neg (by omega)];have:min (k:Int).toNat IntKind.u64.bits=k:=by rw[Int.toNat_natCast,show IntKind.u64.bits=64 by decide];omega
 simp only[this];rw[show(n:Int)*2^k=((n*2^k:Nat):Int)by rw[Int.natCast_mul,Int.natCast_pow];rfl,cg h]
theorem DR{n d k:Nat}(hn:n<2^k)(h:n+d*2^k<18446744073709551616):pB .or .u64 (n:Int) ((d*2^k:Nat):Int)=some ((n+d*2^k:Nat):Int):=by
 show some (bits .or .u64 _ _)=_;rw[bits_or_u64_nat _ _ (by omega) (by omega)];have:=Nat.two_pow_add_eq_or_of_lt hn d;rw[Nat.or_comm,Nat.mul_comm d,←this,Nat.add_comm]
theorem Gm(x:Nat)(hx:(aL x).length<=2):ml PP 185 [ao x] (.int .u64 x):=by
 show ml PP _ [dY (aL x)] _;have hvx:=eE x;have hlx:=dp x;generalize aL x=a at*;refine .of Go.Proofs.Tryz.func185 rfl (by kernel_rfl) rfl rfl rfl (fun A w0=>?_);refine .al (.aq rfl<|.nil) rfl ?_;refine .al (.aq rfl<|.nil) rfl (.sq ?_);refine .al (.mv rfl<|.ln rfl aw<|.mv rfl<|.nil) rfl ?_;refine .block (.loop (ι:={i:Nat//i<=a.length}) (fun i=>[(3,.int .u64 (val (a.take i.1):Nat)),(6,dY a),(7,.int .i64 a.length),(8,.int .i64 i.1)]) (fun _=>[]) (fun i=>a.length-i.1)
  ⟨0,Nat.zero_le _⟩ (dL rfl) trivial rfl rfl ?_)
 rintro⟨i,hi⟩;show Ok PP _ [(3,.int .u64 (val (a.take i):Nat)),(6,dY a),(7,.int .i64 a.length),(8,.int .i64 i)] [] _ _;by_cases hlt:i<a.length
 ·refine .al (.cm rfl rfl (b:=true) (by simp[dW,hlt])<|.nil) rfl (.sq ?_);refine .cT rfl (.skip (Ok.on (.sq (.block ?_))));have hxi:a[i]?=some (a.getD i 0):=by simp[hlt]
  have hel:=cw hlx i;have hst:=et a i;have htl:=fx hlx i;generalize a.getD i 0=e at hxi hel hst;have hi1:i=0\/i=1:=by omega
  have hp:(4294967296:Nat)^i=2^(32*i):=by rw[Nat.pow_mul]
  rw[hp]at htl hst;have hb2:val (a.take i)+e*2^(32*i)<18446744073709551616:=by
   rcases hi1 with h|h<;>subst h<;>simp at htl|-<;>omega
  refine .al (.mv rfl<|.qJ rfl rfl aB (by omega) (by omega) (bF hxi)<|.i6 rfl a_<|.aq rfl<|.aq rfl<|.nil) rfl ?_;refine .region (.mv rfl<|.mv rfl<|.cv rfl bG (cg (by omega))<|.mv rfl<|.ar rfl rfl (r:=((32*i:Nat):Int)) (congrArg some (iD (by omega) (by omega)))<|.sh rfl rfl (Gk (n:=e) (k:=32*i) (by omega) (by omega))<|
   .ar rfl rfl (DR htl hb2)<|.aq rfl<|.nil) rfl fun _ _ hs=>?_
  refine Ok.on ?_ _ _ hs;refine .region (.ar rfl rfl (gf (by omega))<|.mv rfl<|.nil) rfl fun _ _ hs=>?_;exact hs.round (m:=a.length-i) ⟨i+1,hlt⟩ (by simp only;omega) ⟨⟨_,rfl,int_eq (by rw[hst,Nat.mul_comm])⟩,⟨_,rfl,.refl _⟩,⟨_,rfl,.refl _⟩,⟨_,rfl,.refl _⟩,trivial⟩ trivial rfl rfl
 ·have:i=a.length:=by omega
  subst this;refine .al (.cm rfl rfl (b:=false) (by simp[dW])<|.nil) rfl (.sq ?_);refine .cF rfl (.exit (Ok.on ?_));refine .al (.mv rfl<|.aq rfl<|.nil) rfl ?_;exact .rP rfl (.tmp rfl) (int_eq (by rw[List.take_length,hvx])) rfl
theorem wc{x n d:Nat}(h:(aL x).length=n+1)(hd:(aL x)[n]?=some d):32*n+bN d=bN x:=by
 have hv:=eV hd;rw[←h,List.take_length,eE]at hv;have hx0:x≠0:=by intro e;subst e;rw[dA]at h;simp at h
 have hle:=sH hx0;rw[h,Nat.add_sub_cancel]at hle;have hp:(4294967296:Nat)^n=2^(32*n):=by rw[Nat.pow_mul]
 have hlt:=fx (dp x) n;have hq:x/4294967296^n=d:=by
  rw[hv,Nat.add_mul_div_left _ _ (Nat.pow_pos (by omega)),Nat.div_eq_of_lt hlt,Nat.zero_add]
 rw[hp]at hle hq;have:=qE _ hle;rw[hq]at this;omega
theorem Iy(x:Nat)(hx:(aL x).length<=1099511627776):ml PP 186 [ao x] (.int .i64 (bN x:Nat)):=by
 show ml PP _ [dY (aL x)] _;refine .of Go.Proofs.Tryz.func186 rfl (by kernel_rfl) rfl rfl rfl (fun A w0=>?_);refine .al (.aq rfl<|.nil) rfl (.sq ?_);by_cases h0:x=0
 ·subst h0;refine .al (.mv rfl<|.ln rfl aw<|.cm rfl rfl (b:=true) (by simp[dW,dA])<|.nil) rfl ?_;refine .cT rfl (.al (.aq rfl<|.nil) rfl ?_);exact .rF (fun _ _ h=>h) rfl (.tmp rfl) (int_eq (by rfl)) rfl
 ·have hl:=dn h0;obtain⟨n,hn⟩:∃n,(aL x).length=n+1:=⟨_,(Nat.succ_pred (by omega)).symm⟩;have hxi:(aL x)[n]?=some ((aL x).getD n 0):=by simp[hn]
  have hel:=cw (dp x) n;have hbl:∀d,(aL x)[n]?=some d->32*n+bN d=bN x:=fun d hd=>wc hn hd;generalize (aL x).getD n 0=e at hxi hel;have he:=hbl e hxi;refine .al (.mv rfl<|.ln rfl aw<|.cm rfl rfl (IN (by omega))<|.nil) rfl ?_;refine .cF rfl (.skip (Ok.on ?_));have hb:=eL (x:=e) (n:=32) (by omega);have hd1:IntKind.i64.wrap (((aL x).length:Int)-1)=(n:Int):=iD (by omega) (by omega);have hd2:IntKind.i64.wrap (32*(n:Int))=((32*n:Nat):Int):=iD (by omega) (by omega);refine .al (.mv rfl<|.ln rfl aw<|.ar rfl rfl (congrArg some hd1)<|.ar rfl rfl (congrArg some hd2)<|.mv rfl<|.mv rfl<|.ln rfl aw<|.ar rfl rfl (congrArg some hd1)<|
   .qJ rfl rfl aB (by omega) (by omega) (bF hxi)<|.i6 rfl a_<|.call (Bi e hel) ⟨rfl,trivial⟩<|.ar rfl rfl (eB (by omega))<|.aq rfl<|.nil) rfl ?_
  exact .rP rfl (.tmp rfl) (int_eq (by rw[he])) rfl
theorem xU(a:List Nat)(ha:a.length<=1099511627776):BE PP 252 [dY a] 1 230 (bY a):=by
 refine .of (hl:=aZ a) Go.Proofs.Tryz.func252 rfl (by kernel_rfl) rfl rfl (fun A w0=>?_);refine .al (.aq rfl<|.nil) rfl (.sq ?_);refine .al (.mv rfl<|.Jz aw rfl rfl<|.nil) rfl ?_;refine .cQ rfl (fun h=>?_) (.skip (Ok.on ?_))
 ·have ha0:a=[]:=List.eq_nil_of_length_eq_zero h;subst ha0;refine .al (.aq rfl<|.nil) rfl ?_;refine .xi 2 2 1 230 rfl rfl ?_;exact .Cr (fun _ _ h=>h) rfl rfl rfl
 ·refine .al (.Jt eC rfl<|.mv rfl<|.JI (n1:=0) rfl rfl rfl eC rfl (by omega) (by omega) rfl<|.aq rfl<|.nil) rfl ?_;exact .Cr (fun _ _ h=>h) rfl rfl rfl
end Go.Am
namespace Go.Am
open Go.RowKit
theorem lg{k:Nat}(hk:k<=32):4294967296=2^k*2^(32-k):=by rw[←Nat.pow_add,show k+(32-k)=32 by omega]
theorem AZ{n k:Nat}(hk:k<=32):xW .shl .u32 (n:Int) (k:Int)=some ((n*2^k%4294967296:Nat):Int):=by
 unfold xW;rw[if_neg (by omega)];have:min (k:Int).toNat IntKind.u32.bits=k:=by rw[Int.toNat_natCast,show IntKind.u32.bits=32 by decide];omega
 simp only[this];rw[show(n:Int)*2^k=((n*2^k:Nat):Int)by rw[Int.natCast_mul,Int.natCast_pow];rfl,jV]
theorem AX{e k:Nat}(hk:k<=32):e*2^(32-k)%4294967296=(e%2^k)*2^(32-k):=by
 conv=>lhs;rhs;rw[lg hk]
 rw[Nat.mul_mod_mul_right]
theorem Ib{n d k:Nat}(hn:n<2^k)(h:n+d*2^k<4294967296):pB .or .u32 (n:Int) ((d*2^k:Nat):Int)=some ((n+d*2^k:Nat):Int):=by
 show some (bits .or .u32 _ _)=_;rw[(kh _ _ (by omega) (by omega)).2.1];have:=Nat.two_pow_add_eq_or_of_lt hn d;rw[Nat.or_comm,Nat.mul_comm d,←this,Nat.add_comm]
theorem Gy{n d k:Nat}(hn:n<2^k)(h:n+d*2^k<4294967296):pB .or .u32 ((d*2^k:Nat):Int) (n:Int)=some ((n+d*2^k:Nat):Int):=by
 show some (bits .or .u32 _ _)=_;rw[(kh _ _ (by omega) (by omega)).2.1];have:=Nat.two_pow_add_eq_or_of_lt hn d;rw[Nat.mul_comm d,←this,Nat.add_comm]
theorem wg{d e k:Nat}(hk:k<=32)(hd:d<4294967296):d/2^k<2^(32-k)/\d/2^k+(e%2^k)*2^(32-k)<4294967296:=by
 have hp:=Nat.two_pow_pos k;have hs:=lg hk;have h1:d/2^k<2^(32-k):=by
  rw[Nat.div_lt_iff_lt_mul hp,Nat.mul_comm,←hs];exact hd
 have h2:=Nat.mod_lt e hp;refine⟨h1,?_⟩;have:(e%2^k+1)*2^(32-k)<=2^k*2^(32-k):=Nat.mul_le_mul_right _ h2;rw[←hs,Nat.add_mul,Nat.one_mul]at this;omega
theorem DG{d R k:Nat}(hk:k<=32):(d+4294967296*R)/2^k=d/2^k+(R%2^k)*2^(32-k)+4294967296*(R/2^k):=by
 have hp:=Nat.two_pow_pos k;have hs:=lg hk;have h1:(d+4294967296*R)/2^k=d/2^k+2^(32-k)*R:=by
  conv=>lhs;rw[hs]
  rw[Nat.mul_assoc,Nat.add_mul_div_left _ _ hp]
 have h2:=Nat.div_add_mod R (2^k);rw[h1]
 conv=>lhs;rw[←h2]
 rw[Nat.mul_add,←Nat.mul_assoc,Nat.mul_comm (2^(32-k)) (2^k),←hs,Nat.mul_comm (2^(32-k))];omega
theorem GL{e R k:Nat}(hk:k<=32):(e+4294967296*R)%2^k=e%2^k:=by
 rw[lg hk,Nat.mul_assoc,Nat.add_mul_mod_self_left]
theorem D6{x i:Nat}(h:i<=(aL x).length):val ((aL x).drop i)=x/4294967296^i:=by
 have hs:=fo (aL x) i h;rw[eE]at hs;have hlt:=fx (dp x) i
 conv=>rhs;rw[hs]
 rw[Nat.add_mul_div_left _ _ (Nat.pow_pos (by omega)),Nat.div_eq_of_lt hlt,Nat.zero_add]
theorem FX(l:List Nat)(i:Nat)(h:bV (((bY l).drop ((i:Int).toNat*1)).take ((l.length-(i:Int).toNat)*1))=[]):D.jR (l.length-(i:Int).toNat) 1 (((bY l).drop ((i:Int).toNat*1)).take ((l.length-(i:Int).toNat)*1)) h=dY (l.drop i):=by
 refine nP ?_ ?_
 ·rw[Int.toNat_natCast,List.length_drop]
 ·rw[Int.toNat_natCast,Nat.mul_one,Nat.mul_one,BF];exact List.take_of_length_le (by rw[bS,List.length_drop];exact Nat.le_refl _)
theorem Hc(x k:Nat)(hx:(aL x).length<=1099511627776)(hk:k<9223372036854775808):ml PP 229 [ao x,.int .i64 k] (ao (x/2^k)):=by
 show ml PP _ [dY (aL x),.int .i64 k] _;refine .of Go.Proofs.Tryz.func229 rfl (by kernel_rfl) rfl rfl rfl (fun A w0=>?_);have hkq:(2:Nat)^k=4294967296^(k/32)*2^(k%32):=by
  rw[show(4294967296:Nat)=2^32 by rfl,←Nat.pow_mul,←Nat.pow_add,Nat.div_add_mod]
 refine .al (.aq rfl<|.nil) rfl (.sq ?_);by_cases hge:(aL x).length<=k/32
 ·refine .al (.mv rfl<|.ar rfl rfl (wN (n:=k) (d:=32) (by omega) hk)<|.mv rfl<|.ln rfl aw<|.cm rfl rfl (Ie (by omega))<|.nil) rfl ?_;refine .cT rfl (.al (.aq rfl<|.nil) rfl ?_);have hz:x/2^k=0:=by
   apply Nat.div_eq_of_lt;have h1:=mi (x:=x);have h2:4294967296^(aL x).length<=4294967296^(k/32):=Nat.pow_le_pow_right (by omega) hge;have h3:4294967296^(k/32)*1<=4294967296^(k/32)*2^(k%32):=Nat.mul_le_mul_left _ (Nat.two_pow_pos _);rw[hkq];omega
  rw[hz];exact .rF (fun _ _ h=>h) rfl (.tmp rfl) bj rfl
 ·refine .al (.mv rfl<|.ar rfl rfl (wN (n:=k) (d:=32) (by omega) hk)<|.mv rfl<|.ln rfl aw<|.cm rfl rfl (Fp (by omega))<|.nil) rfl ?_;refine .cF rfl (.skip (Ok.on ?_));have hval:=D6 (x:=x) (i:=k/32) (by omega);have hres:x/2^k=(x/4294967296^(k/32))/2^(k%32):=by rw[hkq,Nat.div_div_eq_div_mul]
  rw[hres,←hval];have hla:dD ((aL x).drop (k/32)):=j1 (dp x) _;have hll:((aL x).drop (k/32)).length=(aL x).length-k/32:=by simp
  have hslc:=FX (aL x) (k/32);generalize (aL x).drop (k/32)=a at*;have hr:k%32<32:=Nat.mod_lt _ (by omega);refine .al (.mv rfl<|.mv rfl<|.ar rfl rfl (wN (n:=k) (d:=32) (by omega) hk)<|.Ko rfl rfl aB (by omega) (by omega)<|.Dt (hl:=aZ a) (xU a (by omega)) ⟨congrArg some (hslc _),trivial⟩ rfl<|.aq rfl<|.nil) rfl ?_;refine .tI (ι:={zs:List Nat//zs.length=a.length/\dD zs/\val zs=val a/2^(k%32)}) (fun zs=>[(5,.own 17)]) (fun zs=>[(17,.row 1 230 (bY zs.1) (aZ _))]) ?_ ?_
  ·refine .al (.mv rfl<|.ar rfl rfl (wR (n:=k) (d:=32) (by omega))<|.aq rfl<|.nil) rfl ?_;generalize k%32=r at*;refine .sub [(5,.own 17),(6,.int .i64 r)] [(17,.row 1 230 (bY a) (aZ a))] (dL rfl) (jY rfl) rfl rfl ?_;by_cases hr0:r=0
   ·subst hr0;refine .al (.mv rfl<|.cm rfl rfl (Is (by omega))<|.nil) rfl ?_;exact .cF rfl (.skip fun _ _ hs=>hs.to ⟨a,rfl,hla,by simp⟩ (dL rfl) (jY rfl) rfl rfl)
   refine .al (.mv rfl<|.cm rfl rfl (HR (by omega))<|.nil) rfl ?_;refine .cT rfl ?_;refine .al (.mv rfl<|.IC (n:=a.length) (m':=1) rfl rfl aw (by simp[bS]) rfl rfl<|.mv rfl<|.nil) rfl ?_;refine .block (.loop (ι:={p:List Nat×Nat//p.1.length=a.length/\dD p.1/\p.2<=a.length/\(∀j,p.2<=j->p.1.getD j 0=a.getD j 0)/\val (p.1.take p.2)+4294967296^p.2*(val (a.drop p.2)/2^r)=val a/2^r})
    (fun p=>[(5,.own 17),(6,.int .i64 r),(23,.int .i64 a.length),(24,.int .i64 p.1.2)]) (fun p=>[(17,.row 1 230 (bY p.1.1) (aZ _))]) (fun p=>a.length-p.1.2)
    ⟨(a,0),rfl,hla,Nat.zero_le _,fun _ _=>rfl,by simp[val]⟩ (dL rfl) (jY rfl) rfl rfl ?_)
   rintro⟨⟨zs,i⟩,hzl,hzs,hi,hsame,hv⟩;simp only at hzl hzs hi hsame hv;show Ok PP _ [(5,.own 17),(6,.int .i64 r),(23,.int .i64 a.length),(24,.int .i64 i)] [(17,.row 1 230 (bY zs) (aZ _))] _ _;by_cases hlt:i<a.length
   ·refine .al (.cm rfl rfl (zX (by omega))<|.nil) rfl (.sq ?_);refine .cT rfl (.skip (Ok.on ?_));have hzi:zs[i]?=some (a.getD i 0):=by rw[←hsame i (Nat.le_refl _)];simp[show i<zs.length by omega]
    have hdl:=cw hla i;have hdr:=gb a i;have hdr2:=gb a (i+1);have hel:=cw hla (i+1);generalize a.getD i 0=d at hzi hdl hdr;have hpd:d/2^r<4294967296:=Nat.lt_of_le_of_lt (Nat.div_le_self _ _) hdl;refine .cut [(5,.own 17),(6,.int .i64 r),(23,.int .i64 a.length),(24,.int .i64 i)] [(17,.row 1 230 (bY (zs.set i (d/2^r+(a.getD (i+1) 0%2^r)*2^(32-r)))) (aZ _))] ?_ ?_
    ·refine .block ?_;refine .al (.mv rfl<|.aq rfl<|.nil) rfl ?_;refine .al (.mv rfl<|.mv rfl<|.q6 (n:=a.length) (m':=1) rfl rfl rfl aB (by rw[bS,hzl];omega) rfl rfl (by omega) (by omega)<|.zI rfl rfl a_ (d:=.int .u32 d) (by rw[Int.toNat_natCast,Nat.mul_one];exact bF hzi)<|.mv rfl<|.sh rfl rfl (tg (k:=r) (by omega))<|
      .q6 (n:=a.length) (m':=1) rfl rfl rfl aB (by rw[bS,hzl];omega) rfl rfl (by omega) (by omega)<|.AM rfl rfl rfl a_ rfl rfl (by simp[bS,hzl];try omega)<|.nil) rfl ?_
     refine .sub [(5,.own 17),(6,.int .i64 r),(7,.int .i64 i),(23,.int .i64 a.length),(24,.int .i64 i)] [(17,.row 1 230 (bY (zs.set i (d/2^r))) (aZ _))] (dL rfl) ⟨⟨_,rfl,.of_eq (eM (fy ..))⟩,trivial⟩ rfl rfl ?_;have hsd:=wg (e:=a.getD (i+1) 0) (show r<=32 by omega) hdl;by_cases hn:i+1<a.length
     ·have hze:(zs.set i (d/2^r))[i+1]?=some (a.getD (i+1) 0):=by
       rw[List.getElem?_set_ne (by omega),←hsame (i+1) (by omega)];simp[show i+1<zs.length by omega]
      have hzd:(zs.set i (d/2^r))[i]?=some (d/2^r):=by simp[show i<zs.length by omega]
      have hl2:(bY (zs.set i (d/2^r))).length=a.length*1:=by rw[bS,List.length_set,hzl];omega
      generalize a.getD (i+1) 0=e at hze hel hsd;refine .al (.mv rfl<|.ar rfl rfl (gf (by omega))<|.mv rfl<|.IC (n:=a.length) (m':=1) rfl rfl aw hl2 rfl rfl<|.cm rfl rfl (zX (by omega))<|.nil) rfl ?_;refine .cT rfl ?_;refine .c_ cf (.mv rfl<|.mv rfl<|.q6 (n:=a.length) (m':=1) rfl rfl rfl aB hl2 rfl rfl (by omega) (by omega)<|.zI rfl rfl a_ (d:=.int .u32 (d/2^r:Nat)) (by rw[Int.toNat_natCast,Nat.mul_one];exact bF hzd)<|
       .mv rfl<|.mv rfl<|.ar rfl rfl (gf (by omega))<|.q6 (n:=a.length) (m':=1) rfl rfl rfl aB hl2 rfl rfl (by omega) (by omega)<|.zI rfl rfl a_ (d:=.int .u32 (e:Nat)) (by rw[Int.toNat_natCast,Nat.mul_one];exact bF hze)<|
       .mv rfl<|.ar rfl rfl (r:=((32-r:Nat):Int)) (congrArg some (iD (by omega) (by omega)))<|.sh rfl rfl (AZ (n:=e) (k:=32-r) (by omega))<|.ar rfl rfl (r:=((d/2^r+(e%2^r)*2^(32-r):Nat):Int)) (by rw[AX (by omega)];exact Ib hsd.1 hsd.2)<|
       .q6 (n:=a.length) (m':=1) rfl rfl rfl aB hl2 rfl rfl (by omega) (by omega)<|.AM rfl rfl rfl a_ rfl rfl (by rw[hl2];omega)<|.nil) rfl (by kernel_rfl) fun _ _ hs=>?_
      exact hs.sub (dL rfl) ⟨⟨_,rfl,.of_eq (eM (by rw[fy,List.set_set]))⟩,trivial⟩ rfl rfl
     ·have he0:a.getD (i+1) 0=0:=by simp[List.getElem?_eq_none (show a.length<=i+1 by omega)]
      rw[he0,Nat.zero_mod,Nat.zero_mul,Nat.add_zero];have hl2:(bY (zs.set i (d/2^r))).length=a.length*1:=by rw[bS,List.length_set,hzl];omega
      refine .al (.mv rfl<|.ar rfl rfl (gf (by omega))<|.mv rfl<|.IC (n:=a.length) (m':=1) rfl rfl aw hl2 rfl rfl<|.cm rfl rfl (zZ (by omega))<|.nil) rfl ?_;exact .cF rfl (.skip fun _ _ hs=>hs.sub (dL rfl) (jY rfl) rfl rfl)
    ·have hsd:=wg (e:=a.getD (i+1) 0) (show r<=32 by omega) hdl;have hml:=GL (e:=a.getD (i+1) 0) (R:=val (a.drop (i+1+1))) (show r<=32 by omega);rw[←hdr2]at hml;refine .region (.ar rfl rfl (gf (by omega))<|.mv rfl<|.nil) rfl fun _ _ hs=>?_;refine hs.round (m:=a.length-i) ⟨(zs.set i (d/2^r+(a.getD (i+1) 0%2^r)*2^(32-r)),i+1),by simpa using hzl,jK hzs hsd.2 i,hlt,?_,?_⟩ (by simp only;omega) (dL rfl) (jY rfl) rfl rfl
     ·intro j hj;simp only at hj|-;rw[←hsame j (by omega)];simp[List.getElem?_set_ne (show i≠j by omega)]
     ·simp only;rw[gD (by omega),←hv,hdr,DG (by omega),hml,Nat.pow_succ];generalize d/2^r+a.getD (i+1) 0%2^r*2^(32-r)=X;rw[Nat.mul_add,Nat.mul_assoc,Nat.add_assoc]
   ·have:i=a.length:=by omega
    subst this;refine .al (.cm rfl rfl (zZ (by omega))<|.nil) rfl (.sq ?_);refine .cF rfl (.exit fun _ _ hs=>?_);refine hs.to ⟨zs,hzl,hzs,?_⟩ (dL rfl) (jY rfl) rfl rfl;rw[List.take_of_length_le (by omega),List.drop_length]at hv;simpa [val]using hv
  ·rintro⟨zs,hzl,hzs,hv⟩;show Ok PP _ [(5,.own 17)] [(17,.row 1 230 (bY zs) (aZ _))] _ _;refine .tU (n:=a.length) (m':=1) 5 rfl rfl (by simp[bS,hzl]) rfl rfl ?_;refine .sub [(5,dY zs)] [] ⟨⟨_,rfl,.of_eq (nP hzl.symm rfl)⟩,trivial⟩ trivial rfl rfl ?_;refine .al (.mv rfl<|.call (m3 _ hzs (by omega)) ⟨rfl,trivial⟩<|.aq rfl<|.nil) rfl ?_;exact .rP rfl (.tmp rfl) (.of_eq (by rw[hv])) rfl
end Go.Am
namespace Go.Am
open Go.RowKit
theorem F3{d r:Nat}(hr:r<=32):d*2^r%4294967296=(d%2^(32-r))*2^r:=by
 have:=AX (e:=d) (k:=32-r) (by omega)
 rwa [show 32-(32-r)=r by omega]at this
theorem Bs{d c r:Nat}(hr:r<=32)(hd:d<4294967296)(hc:c<2^r):c+(d%2^(32-r))*2^r<4294967296/\d/2^(32-r)<2^r/\(d%2^(32-r))*2^r+4294967296*(d/2^(32-r))=2^r*d:=by
 have hs:=lg hr;have hp:=Nat.two_pow_pos (32-r);have hm:=Nat.mod_lt d hp;have h1:(d%2^(32-r)+1)*2^r<=2^(32-r)*2^r:=Nat.mul_le_mul_right _ hm;rw[Nat.mul_comm (2^(32-r)),←hs,Nat.add_mul,Nat.one_mul]at h1;refine⟨by omega,?_,?_⟩
 ·rw[Nat.div_lt_iff_lt_mul hp,←hs];exact hd
 ·have h2:=Nat.div_add_mod d (2^(32-r))
  conv=>rhs;rw[←h2]
  rw[Nat.mul_add,←Nat.mul_assoc,←hs,Nat.mul_comm (2^r) (d%2^(32-r)),Nat.add_comm]
theorem CJ{p v c n d e t o:Nat}(h:v+p*c=t*o)(hd:d+4294967296*e=t*n):v+p*(c+d)+p*4294967296*e=t*(o+p*n):=by
 have h2:p*(d+4294967296*e)=p*(t*n):=by rw[hd]
 rw[Nat.mul_add,←Nat.mul_assoc]at h2;rw[Nat.mul_add,Nat.mul_add,Nat.mul_left_comm t p n];omega
theorem C5{P R W t c v o:Nat}(hR:P=R*W)(hp:t<=W)(ho:o<R)(h:v+P*c=t*o):v=t*o:=by
 subst hR;rcases Nat.eq_zero_or_pos c with h0|h0
 ·subst h0;simpa using h
 ·have h1:t*o<=W*o:=Nat.mul_le_mul_right _ hp;have h2:R*W*1<=R*W*c:=Nat.mul_le_mul_left _ h0;have h3:W*o<=W*R:=Nat.mul_le_mul_left _ (Nat.le_of_lt ho);rcases Nat.eq_zero_or_pos W with h4|h4
  ·subst h4;have:t=0:=by omega
   subst this;simp at h|-;omega
  ·have h5:W*o<W*R:=Nat.mul_lt_mul_of_pos_left ho h4;rw[Nat.mul_comm R W]at h h2;omega
theorem HY{r:Nat}(hr:r<=32):(2:Nat)^r<=4294967296:=by
 have:=lg hr;rw[this];exact Nat.le_mul_of_pos_right _ (Nat.two_pow_pos _)
theorem Fl{n r c v o:Nat}(hr:r<=32)(ho:o<4294967296^n)(h:v+4294967296^(n+1)*c=2^r*o):v=2^r*o:=
 C5 (Nat.pow_succ ..) (HY hr) ho h
def laid(q:Nat)(a:List Nat):List Nat:=List.replicate q 0++a++[0]
theorem CU(q:Nat)(a:List Nat):(laid q a).length=q+a.length+1:=by simp[laid];omega
theorem xE(q:Nat)(a:List Nat):val (laid q a)=4294967296^q*val a:=by
 rw[laid,lG,lG,oE];simp[val]
theorem Cc(q:Nat){a:List Nat}(h:dD a):dD (laid q a):=kx (kx (jd q) h) (fun d hd=>by simp at hd;omega)
theorem Bx(q:Nat)(a:List Nat):(List.replicate (q+a.length+1) (D.int .u32 0)).take ((q:Int).toNat*1)++bY a++(List.replicate (q+a.length+1) (D.int .u32 0)).drop ((q:Int).toNat*1+a.length)=bY (laid q a):=by
 rw[Int.toNat_natCast,Nat.mul_one,List.take_replicate,List.drop_replicate,Nat.min_eq_left (by omega),show q+a.length+1-(q+a.length)=1 by omega];simp[laid,bY]
theorem CH(x k:Nat)(hx:(aL x).length<=1099511627776)(hk:k<35184372088832):ml PP 166 [ao x,.int .i64 k] (ao (x*2^k)):=by
 show ml PP _ [dY (aL x),.int .i64 k] _;refine .of Go.Proofs.Tryz.func166 rfl (by kernel_rfl) rfl rfl rfl (fun A w0=>?_);have hkq:(2:Nat)^k=4294967296^(k/32)*2^(k%32):=by
  rw[show(4294967296:Nat)=2^32 by rfl,←Nat.pow_mul,←Nat.pow_add,Nat.div_add_mod]
 have hq:k/32<1099511627776:=by omega
 have hr:k%32<32:=Nat.mod_lt _ (by omega);have hqi:pB .quo .i64 (k:Int) 32=some ((k/32:Nat):Int):=wN (d:=32) (by omega) (by omega);have hri:pB .rem .i64 (k:Int) 32=some ((k%32:Nat):Int):=wR (d:=32) (by omega);have hvx:=eE x;have hla:=dp x;generalize aL x=a at*;have hres:x*2^k=2^(k%32)*val (laid (k/32) a):=by
  rw[xE,hvx,hkq,Nat.mul_comm x,Nat.mul_assoc,Nat.mul_left_comm]
 rw[hres];generalize k/32=q at*;generalize k%32=r at*;have hlo:=Cc q hla;have hln:=CU q a;have hcopy:=Bx q a;have hsmall:val (laid q a)<4294967296^(q+a.length):=by
  rw[xE,Nat.pow_add];exact Nat.mul_lt_mul_of_pos_left (pq hla) (Nat.pow_pos (by omega))
 have hstart:val ((laid q a).take q)=0:=by
  rw[laid,List.append_assoc,List.take_append_of_le_length (by simp),List.take_of_length_le (by simp)];exact oE q
 generalize laid q a=o at*;refine .al (.aq rfl<|.nil) rfl ?_;refine .al (.mv rfl<|.ar rfl rfl hqi<|.mv rfl<|.ln rfl aw<|.ar rfl rfl (eB (by omega))<|.ar rfl rfl (gf (by omega))<|.HH rfl rfl eC rfl (by omega) (by omega) rfl<|.aq rfl<|.nil) rfl ?_;refine .al (.mv rfl<|.mv rfl<|.ar rfl rfl hqi<|.KJ (n:=q+a.length+1) (m':=1) rfl rfl rfl aB (by simp) rfl rfl (by omega) (by omega)<|.mv rfl<|.KC rfl rfl rfl eC (by simp;try omega) (by simp;try omega)<|.nil) rfl ?_;refine .sub [(1,.int .i64 k),(5,.own 15)] [(15,.row 1 230 (bY o) (aZ o))] (dL rfl) ⟨⟨_,rfl,.of_eq (eM hcopy)⟩,trivial⟩ rfl rfl ?_;refine .tI (ι:={zs:List Nat//zs.length=q+a.length+1/\dD zs/\val zs=2^r*val o}) (fun zs=>[(5,.own 15)]) (fun zs=>[(15,.row 1 230 (bY zs.1) (aZ _))]) ?_ ?_
 ·refine .al (.mv rfl<|.ar rfl rfl hri<|.aq rfl<|.nil) rfl ?_;by_cases hr0:r=0
  ·subst hr0;refine .al (.mv rfl<|.cm rfl rfl (Is (by omega))<|.nil) rfl ?_;exact .cF rfl (.skip fun _ _ hs=>hs.to ⟨o,hln,hlo,by simp⟩ (dL rfl) (jY rfl) rfl rfl)
  refine .al (.mv rfl<|.cm rfl rfl (HR (by omega))<|.nil) rfl ?_;refine .cT rfl ?_;refine .al (.aq rfl<|.nil) rfl ?_;refine .al (.mv rfl<|.ar rfl rfl hqi<|.aq rfl<|.nil) rfl ?_;refine .block (.loop (ι:={p:List Nat×Nat×Nat//p.1.length=q+a.length+1/\dD p.1/\p.2.1<2^r/\p.2.2<=q+a.length+1/\(∀j,p.2.2<=j->p.1.getD j 0=o.getD j 0)/\val (p.1.take p.2.2)+4294967296^p.2.2*p.2.1=2^r*val (o.take p.2.2)})
   (fun p=>[(5,.own 15),(6,.int .i64 r),(7,.int .u32 p.1.2.1),(8,.int .i64 p.1.2.2)]) (fun p=>[(15,.row 1 230 (bY p.1.1) (aZ _))]) (fun p=>q+a.length+1-p.1.2.2)
   ⟨(o,0,q),hln,hlo,Nat.two_pow_pos r,by simp only;omega,fun _ _=>rfl,by simp[hstart]⟩ (dL rfl) (jY rfl) rfl rfl ?_)
  rintro⟨⟨zs,c,i⟩,hzl,hzs,hc,hi,hsame,hv⟩;simp only at hzl hzs hc hi hsame hv;show Ok PP _ [(5,.own 15),(6,.int .i64 r),(7,.int .u32 c),(8,.int .i64 i)] [(15,.row 1 230 (bY zs) (aZ _))] _ _;have hl2:(bY zs).length=(q+a.length+1)*1:=by rw[bS,hzl];omega
  refine .sq ?_;by_cases hlt:i<q+a.length+1
  ·refine .al (.mv rfl<|.mv rfl<|.IC (n:=q+a.length+1) (m':=1) rfl rfl aw hl2 rfl rfl<|.cm rfl rfl (zX (by omega))<|.nil) rfl ?_;refine .cT rfl (.skip (Ok.on (.sq (.block ?_))));have hzi:zs[i]?=some (o.getD i 0):=by rw[←hsame i (Nat.le_refl _)];simp[show i<zs.length by omega]
   have hdl:=cw hlo i;have hst:=et o i;generalize o.getD i 0=d at hzi hdl hst;obtain⟨h1,h2,h3⟩:=Bs (r:=r) (by omega) hdl hc;refine .c_ cf (.mv rfl<|.mv rfl<|.mv rfl<|.mv rfl<|.q6 (n:=q+a.length+1) (m':=1) rfl rfl rfl aB hl2 rfl rfl (by omega) (by omega)<|.zI rfl rfl a_ (d:=.int .u32 d) (by rw[Int.toNat_natCast,Nat.mul_one];exact bF hzi)<|.mv rfl<|
    .ar rfl rfl (qc (n:=32) (d:=r) (by omega) (by omega))<|.sh rfl rfl (tg (n:=d) (k:=32-r) (by omega))<|.mv rfl<|.mv rfl<|.q6 (n:=q+a.length+1) (m':=1) rfl rfl rfl aB hl2 rfl rfl (by omega) (by omega)<|.zI rfl rfl a_ (d:=.int .u32 d) (by rw[Int.toNat_natCast,Nat.mul_one];exact bF hzi)<|
    .mv rfl<|.sh rfl rfl (AZ (n:=d) (k:=r) (by omega))<|.mv rfl<|.ar rfl rfl (r:=((c+(d%2^(32-r))*2^r:Nat):Int)) (by rw[F3 (by omega)];exact Gy hc h1)<|.aq rfl<|.q6 (n:=q+a.length+1) (m':=1) rfl rfl rfl aB hl2 rfl rfl (by omega) (by omega)<|
    .AM rfl rfl rfl a_ rfl rfl (by rw[hl2];omega)<|.nil) rfl (by kernel_rfl) fun _ _ hs=>?_
   refine Ok.on ?_ _ _ hs;refine .region (.mv rfl<|.ar rfl rfl (gf (by omega))<|.aq rfl<|.nil) rfl fun _ _ hs=>?_;refine hs.round (m:=q+a.length+1-i) ⟨(zs.set i (c+(d%2^(32-r))*2^r),d/2^(32-r),i+1),by simpa using hzl,jK hzs h1 i,h2,hlt,?_,?_⟩ (by simp only;omega) (dL rfl) ⟨⟨_,rfl,.of_eq (eM (fy ..))⟩,trivial⟩ rfl rfl
   ·intro j hj;simp only at hj|-;rw[←hsame j (by omega)];simp[List.getElem?_set_ne (show i≠j by omega)]
   ·simp only;rw[gD (by omega),hst,Nat.pow_succ];exact CJ hv h3
  ·have:i=q+a.length+1:=by omega
   subst this;refine .al (.mv rfl<|.mv rfl<|.IC (n:=q+a.length+1) (m':=1) rfl rfl aw hl2 rfl rfl<|.cm rfl rfl (zZ (by omega))<|.nil) rfl ?_;refine .cF rfl (.exit fun _ _ hs=>?_);rw[List.take_of_length_le (by omega),List.take_of_length_le (by omega)]at hv;exact hs.to ⟨zs,hzl,hzs,Fl (by omega) hsmall hv⟩ (dL rfl) (jY rfl) rfl rfl
 ·rintro⟨zs,hzl,hzs,hv⟩;show Ok PP _ [(5,.own 15)] [(15,.row 1 230 (bY zs) (aZ _))] _ _;refine .tU (n:=q+a.length+1) (m':=1) 5 rfl rfl (by simp[bS,hzl]) rfl rfl ?_;refine .sub [(5,dY zs)] [] ⟨⟨_,rfl,.of_eq (nP hzl.symm rfl)⟩,trivial⟩ trivial rfl rfl ?_;refine .al (.mv rfl<|.call (m3 _ hzs (by omega)) ⟨rfl,trivial⟩<|.aq rfl<|.nil) rfl ?_;exact .rP rfl (.tmp rfl) (.of_eq (by rw[hv])) rfl
end Go.Am
namespace Go.Am
def jA(t:Nat):List Nat->Nat->Nat->List Nat->List Nat
 |[],c,b,u::us=>(u+(8589934592-c%4294967296-b))%4294967296::us
 |y::v,c,b,u::us=>(u+(8589934592-(c+t*y)%4294967296-b))%4294967296::jA t v ((c+t*y)/4294967296) (if u<(c+t*y)%4294967296+b then 1 else 0) us
 |_,_,_,[]=>[]
def jf(t:Nat):List Nat->Nat->Nat->List Nat->Nat
 |[],c,b,u::_=>if u<c%4294967296+b then 1 else 0
 |y::v,c,b,u::us=>jf t v ((c+t*y)/4294967296) (if u<(c+t*y)%4294967296+b then 1 else 0) us
 |_,_,_,[]=>0
def kH:List Nat->Nat->List Nat->List Nat
 |[],c,u::us=>(u+c)%4294967296::us
 |y::v,c,u::us=>(u+y+c)%4294967296::kH v ((u+y+c)/4294967296) us
 |_,_,[]=>[]
theorem rj(t:Nat):∀(v:List Nat) (c b:Nat) (us:List Nat),(jA t v c b us).length=us.length
 |[],_,_,[]=>rfl
 |[],_,_,_::_=>rfl
 |_::_,_,_,[]=>rfl
 |_::v,_,_,_::us=>by simp[jA,rj t v]
theorem pz(t:Nat):∀{v:List Nat} {c b:Nat} {us:List Nat},dD us->dD (jA t v c b us)
 |[],_,_,[],h=>h
 |[],_,_,u::us,h=>fun d hd=>by
  rcases List.mem_cons.1 hd with rfl|hd
  ·exact Nat.mod_lt _ (by omega)
  ·exact h d (by simp[hd])
 |_::_,_,_,[],h=>h
 |_::v,_,_,u::us,h=>fun d hd=>by
  rcases List.mem_cons.1 hd with rfl|hd
  ·exact Nat.mod_lt _ (by omega)
  ·exact pz t (v:=v) (fun x hx=>h x (by simp[hx])) d hd
theorem xI(t:Nat):∀(v:List Nat) (c b:Nat) (us:List Nat),jf t v c b us<=1
 |[],_,_,[]=>by simp[jf]
 |[],_,_,_::_=>by simp only[jf];split<;>omega
 |_::_,_,_,[]=>by simp[jf]
 |_::v,_,_,_::us=>xI t v _ _ us
theorem vR(t:Nat)(ht:t<4294967296):∀(v:List Nat) (c b:Nat) (us:List Nat),dD v->dD us->c<4294967296->b<=1->v.length<us.length->
  val ((jA t v c b us).take (v.length+1))+(t*val v+c+b)=val (us.take (v.length+1))+4294967296^(v.length+1)*jf t v c b us
 |[],c,b,u::us,_,hu,hc,hb,_=>by
  have h1:=hu u (by simp);simp only[jA,jf,List.length_nil,Nat.zero_add,List.take_succ_cons,List.take_zero,val,Nat.mul_zero,Nat.add_zero,Nat.pow_one];rw[Nat.mod_eq_of_lt hc]
  split<;>omega
 |y::v,c,b,u::us,hv,hu,hc,hb,hl=>by
  have h1:=hu u (by simp);have h2:=hv y (by simp);have hty:t*y<=4294967295*4294967295:=Nat.mul_le_mul (by omega) (by omega);have hc':(c+t*y)/4294967296<4294967296:=by omega
  have hb':(if u<(c+t*y)%4294967296+b then 1 else 0)<=1:=by split<;>omega
  have ih:=vR t ht v ((c+t*y)/4294967296) (if u<(c+t*y)%4294967296+b then 1 else 0) us (fun x hx=>hv x (by simp[hx])) (fun x hx=>hu x (by simp[hx])) hc' hb' (by simpa using hl);simp only[jA,jf,List.length_cons,List.take_succ_cons,val];generalize jf t v _ _ us=B at*;generalize val ((jA t v _ _ us).take (v.length+1))=X at*;generalize val (us.take (v.length+1))=U at*;have hp:(4294967296:Nat)^(v.length+1+1)*B=4294967296*(4294967296^(v.length+1)*B):=by rw[Nat.pow_succ (n:=4294967296) (m:=v.length+1),Nat.mul_comm (4294967296^(v.length+1)),Nat.mul_assoc]
  rw[hp];generalize (4294967296:Nat)^(v.length+1)*B=Z at*;have htv:t*(y+4294967296*val v)=t*y+4294967296*(t*val v):=by rw[Nat.mul_add,Nat.mul_left_comm]
  rw[htv];generalize t*val v=W at*;generalize t*y=S at*
  split at ih<;>omega
theorem ru:∀(v:List Nat) (c:Nat) (us:List Nat),(kH v c us).length=us.length
 |[],_,[]=>rfl
 |[],_,_::_=>rfl
 |_::_,_,[]=>rfl
 |_::v,_,_::us=>by simp[kH,ru v]
theorem pw:∀{v:List Nat} {c:Nat} {us:List Nat},dD us->dD (kH v c us)
 |[],_,[],h=>h
 |[],_,u::us,h=>fun d hd=>by
  rcases List.mem_cons.1 hd with rfl|hd
  ·exact Nat.mod_lt _ (by omega)
  ·exact h d (by simp[hd])
 |_::_,_,[],h=>h
 |_::v,_,u::us,h=>fun d hd=>by
  rcases List.mem_cons.1 hd with rfl|hd
  ·exact Nat.mod_lt _ (by omega)
  ·exact pw (v:=v) (fun x hx=>h x (by simp[hx])) d hd
theorem vI:∀(v:List Nat) (c:Nat) (us:List Nat),dD v->dD us->c<=1->v.length<us.length->
  ∃k,k<=1/\val ((kH v c us).take (v.length+1))+4294967296^(v.length+1)*k=val (us.take (v.length+1))+val v+c
 |[],c,u::us,_,hu,hc,_=>by
  have h1:=hu u (by simp);refine⟨(u+c)/4294967296,by omega,?_⟩;simp only[kH,List.length_nil,Nat.zero_add,List.take_succ_cons,List.take_zero,val,Nat.mul_zero,Nat.add_zero,Nat.pow_one];omega
 |y::v,c,u::us,hv,hu,hc,hl=>by
  have h1:=hu u (by simp);have h2:=hv y (by simp);obtain⟨k,hk,ih⟩:=vI v ((u+y+c)/4294967296) us (fun x hx=>hv x (by simp[hx])) (fun x hx=>hu x (by simp[hx])) (by omega) (by simpa using hl);refine⟨k,hk,?_⟩;simp only[kH,List.length_cons,List.take_succ_cons,val];have hp:(4294967296:Nat)^(v.length+1+1)*k=4294967296*(4294967296^(v.length+1)*k):=by rw[Nat.pow_succ (n:=4294967296) (m:=v.length+1),Nat.mul_comm (4294967296^(v.length+1)),Nat.mul_assoc]
  rw[hp];generalize (4294967296:Nat)^(v.length+1)*k=Z at*;generalize val ((kH v _ us).take (v.length+1))=X at*;generalize val (us.take (v.length+1))=U at*;omega
theorem pj(t:Nat):∀(v:List Nat) (c b:Nat) (us:List Nat),(jA t v c b us).drop (v.length+1)=us.drop (v.length+1)
 |[],_,_,[]=>rfl
 |[],_,_,_::_=>rfl
 |_::_,_,_,[]=>rfl
 |_::v,_,_,_::us=>by simpa [jA]using pj t v _ _ us
theorem tJ:∀(v:List Nat) (c:Nat) (us:List Nat),(kH v c us).drop (v.length+1)=us.drop (v.length+1)
 |[],_,[]=>rfl
 |[],_,_::_=>rfl
 |_::_,_,[]=>rfl
 |_::v,_,_::us=>by simpa [kH]using tJ v _ us
end Go.Am
namespace Go.Am
open Go.RowKit
theorem sF{p:List Nat}{u d:Nat}{q:List Nat}{i:Nat}(h:p.length=i):(p++u::q).set i d=p++d::q:=by
 subst h;simp
theorem Au{p:List Nat}{u:Nat}{q:List Nat}{i:Nat}(h:p.length=i):(p++u::q)[i]?=some u:=by
 subst h;simp
def taken(us v:List Nat)(t at':Nat):List Nat:=us.take at'++jA t v 0 0 (us.drop at')
def given(us v:List Nat)(at':Nat):List Nat:=us.take at'++kH v 0 (us.drop at')
theorem HB(us v:List Nat)(t at':Nat)(hus:dD us)(hv:dD v)(ht:t<4294967296)(hl:at'+v.length<us.length)(hmax:us.length<=2199023255552):
  ES PP 227 [dY v,.int .u64 t,.int .i64 at'] 1 230 (bY us) (.bool (jf t v 0 0 (us.drop at') !=0)) (bY (taken us v t at')):=by
 refine .of (hl:=aZ us) (hl':=aZ _) Go.Proofs.Tryz.func227 rfl (by kernel_rfl) rfl rfl rfl (fun A w0 b F hF=>?_);refine .al (.aq rfl<|.nil) rfl ?_;refine .al (.aq rfl<|.aq rfl<|.nil) rfl (.sq ?_);refine .al (.mv rfl<|.ln rfl aw<|.mv rfl<|.nil) rfl ?_;refine .block (.loop (ι:={p:List Nat×Nat×Nat×Nat//p.1.length=at'+p.2.2.2/\p.2.2.2<=v.length/\p.2.1<4294967296/\p.2.2.1<=1/\taken us v t at'=p.1++jA t (v.drop p.2.2.2) p.2.1 p.2.2.1 (us.drop (at'+p.2.2.2))/\
   jf t v 0 0 (us.drop at')=jf t (v.drop p.2.2.2) p.2.1 p.2.2.1 (us.drop (at'+p.2.2.2))})
  (fun p=>[(0,xz 0 b),(1,dY v),(2,.int .u64 t),(3,.int .i64 at'),(9,.int .u64 p.1.2.1),(10,.int .u32 p.1.2.2.1),(13,dY v),(14,.int .i64 v.length),(15,.int .i64 p.1.2.2.2)])
  (fun p=>[(0,.row 1 230 (bY (p.1.1++us.drop (at'+p.1.2.2.2))) (aZ _))]) (fun p=>v.length-p.1.2.2.2)
  ⟨(us.take at',0,0,0),by simp;omega,Nat.zero_le _,by simp,by simp,rfl,rfl⟩ (dL rfl) ⟨⟨_,rfl,.of_eq (eM (by simp))⟩,trivial⟩ rfl rfl ?_)
 rintro⟨⟨ps,c,bo,i⟩,hpl,hi,hc,hbo,htk,htb⟩;simp only at hpl hi hc hbo htk htb;show Ok PP _ [(0,xz 0 b),(1,dY v),(2,.int .u64 t),(3,.int .i64 at'),(9,.int .u64 c),(10,.int .u32 bo),(13,dY v),(14,.int .i64 v.length),(15,.int .i64 i)] [(0,.row 1 230 (bY (ps++us.drop (at'+i))) (aZ _))] _ _;have hdu:us.drop (at'+i)=us.getD (at'+i) 0::us.drop (at'+i+1):=by
  rw[List.drop_eq_getElem_cons (show at'+i<us.length by omega)];simp[show at'+i<us.length by omega]
 have hul:=cw hus (at'+i);generalize us.getD (at'+i) 0=u at hdu hul;refine .sub [(0,xz 0 b),(1,dY v),(2,.int .u64 t),(3,.int .i64 at'),(9,.int .u64 c),(10,.int .u32 bo),(13,dY v),(14,.int .i64 v.length),(15,.int .i64 i)] [(0,.row 1 230 (bY (ps++u::us.drop (at'+i+1))) (aZ _))] (dL rfl) ⟨⟨_,rfl,.of_eq (eM (by rw[hdu]))⟩,trivial⟩ rfl rfl ?_;rw[hdu]at htk htb;have hrl:(bY (ps++u::us.drop (at'+i+1))).length=us.length*1:=by
  rw[bS,List.length_append,List.length_cons,List.length_drop,hpl];omega
 have hgu:(bY (ps++u::us.drop (at'+i+1)))[((at'+i:Nat):Int).toNat*1]?=some (.int .u32 u):=by
  rw[Int.toNat_natCast,Nat.mul_one];exact bF (Au hpl)
 by_cases hlt:i<v.length
 ·refine .al (.cm rfl rfl (zX (by omega))<|.nil) rfl (.sq ?_);refine .cT rfl (.skip (Ok.on (.sq (.block ?_))));have hvi:v[i]?=some (v.getD i 0):=by simp[hlt]
  have hyl:=cw hv i;have hdv:v.drop i=v.getD i 0::v.drop (i+1):=by
   rw[List.drop_eq_getElem_cons hlt];simp[hlt]
  generalize v.getD i 0=y at hvi hyl hdv;rw[hdv]at htk htb;simp only[jA,jf]at htk htb;have hty:t*y<=4294967295*4294967295:=Nat.mul_le_mul (by omega) (by omega);have hs:c+t*y<18446744073709551616:=by omega
  have hm:(c+t*y)%4294967296<4294967296:=Nat.mod_lt _ (by omega);refine .al (.mv rfl<|.qJ rfl rfl aB (by omega) (by omega) (bF hvi)<|.i6 rfl a_<|.aq rfl<|.aq rfl<|.nil) rfl ?_;refine .al (.mv rfl<|.mv rfl<|.mv rfl<|.cv rfl bG (cg (by omega))<|.ar rfl rfl (sR (by omega))<|.ar rfl rfl (sG hs)<|.aq rfl<|.nil) rfl ?_;refine .al (.HF rfl nj<|.mv rfl<|.mv rfl<|.ar rfl rfl (eB (by omega))<|.HF rfl nj<|.mv rfl<|.mv rfl<|.ar rfl rfl (eB (by omega))<|.q6 (n:=us.length) (m':=1) rfl rfl rfl aB hrl rfl rfl (by omega) (by omega)<|.zI rfl rfl a_ hgu<|
   .mv rfl<|.cv rfl eZ (jV _)<|.mv rfl<|.call (wM u ((c+t*y)%4294967296) bo hul hm hbo) ⟨rfl,rfl,rfl,trivial⟩<|.mv rfl<|.ext rfl rfl<|.ext rfl rfl<|.q6 (n:=us.length) (m':=1) rfl rfl rfl aB hrl rfl rfl (by omega) (by omega)<|
   .AM rfl rfl rfl a_ rfl rfl (by rw[hrl];omega)<|.aq rfl<|.nil) rfl ?_
  refine .region (.mv rfl<|.sh rfl rfl (x7 (by decide))<|.aq rfl<|.nil) rfl fun _ _ hs=>?_;refine Ok.on ?_ _ _ hs;refine .region (.ar rfl rfl (gf (by omega))<|.mv rfl<|.nil) rfl fun _ _ hs=>?_;refine hs.round (m:=v.length-i) ⟨(ps++[(u+(8589934592-(c+t*y)%4294967296-bo))%4294967296],(c+t*y)/4294967296,if u<(c+t*y)%4294967296+bo then 1 else 0,i+1),by simp[hpl];omega,hlt,by simp only;omega,by simp only;split<;>omega,?_,?_⟩ (by simp only;omega)
   (dL rfl) ⟨⟨_,rfl,.of_eq (eM (by rw[fy,sF hpl];simp only[List.append_assoc,List.singleton_append,Nat.add_assoc]))⟩,trivial⟩ rfl rfl
  ·simp only;rw[htk,List.append_assoc,List.singleton_append,Nat.add_assoc]
  ·simp only;rw[htb,Nat.add_assoc]
 ·have:i=v.length:=by omega
  subst this;refine .al (.cm rfl rfl (zZ (by omega))<|.nil) rfl (.sq ?_);refine .cF rfl (.exit (Ok.on ?_));rw[List.drop_length]at htk htb;simp only[jA,jf]at htk htb;have hm:c%4294967296=c:=Nat.mod_eq_of_lt hc;rw[hm]at htk htb;refine .al (.HF rfl nj<|.mv rfl<|.mv rfl<|.ln rfl aw<|.ar rfl rfl (eB (by omega))<|.HF rfl nj<|.mv rfl<|.mv rfl<|.ln rfl aw<|.ar rfl rfl (eB (by omega))<|.q6 (n:=us.length) (m':=1) rfl rfl rfl aB hrl rfl rfl (by omega) (by omega)<|.zI rfl rfl a_ hgu<|
   .mv rfl<|.cv rfl eZ (gV hc)<|.mv rfl<|.call (wM u c bo hul hc hbo) ⟨rfl,rfl,rfl,trivial⟩<|.mv rfl<|.ext rfl rfl<|.ext rfl rfl<|.q6 (n:=us.length) (m':=1) rfl rfl rfl aB hrl rfl rfl (by omega) (by omega)<|
   .AM rfl rfl rfl a_ rfl rfl (by rw[hrl];omega)<|.aq rfl<|.nil) rfl ?_
  refine .al (.mv rfl<|.cm rfl rfl (b:=jf t v 0 0 (us.drop at') !=0) (by rw[htb];split<;>rfl)<|.aq rfl<|.nil) rfl ?_;refine .sub [(0,xz 0 b),(8,.bool (jf t v 0 0 (us.drop at') !=0))] [(0,.row 1 230 (bY (taken us v t at')) (aZ _))] (dL rfl) ⟨⟨_,rfl,.of_eq (eM (by rw[fy,sF hpl,htk]))⟩,trivial⟩ rfl rfl ?_;exact .I3 (t:=0) (r:=0) hF (fun _ _ h=>h) rfl (.tmp rfl) (.refl _) rfl rfl rfl
theorem Sat.I8{P:Program}{c:Ctx}{T:List (Nat×D)}{H:List (Nat×Hp)}{fn:Func}{t r m:Nat}{e:TypeId}{l:List D}{hl:bV l=[]}{b:Value}{a:Act}{w:World}(hL:∀k,c.L k->b≠.slice none 0 0/\k=j6 b)(hx:fn.results=#[])
  (ht:aW T t=some (xz r b))(hh:ah H r=some (.row m e l hl))(hs:Sat c (aW T) (ah H) a w):bodyPost P fn (Hs c .any m e l hl b) .normal a w:=by
 obtain⟨ε,φ,hs⟩:=hs;obtain⟨hrow,hS⟩:=xD hL ht hh hs;refine⟨hs.df,.tuple #[],?_,.tuple #[],φ r,rfl,trivial,(Hp.row m e l hl).mono hrow (fun r h=>by cases h) (fun k hk _=>⟨hS k hk,rfl⟩) (fun _ _=>rfl),hs.su⟩;rw[f_,hx];simp
theorem HQ(us v:List Nat)(at':Nat)(hus:dD us)(hv:dD v)(hl:at'+v.length<us.length)(hmax:us.length<=2199023255552):
  ES PP 228 [dY v,.int .i64 at'] 1 230 (bY us) .any (bY (given us v at')):=by
 refine .of (hl:=aZ us) (hl':=aZ _) Go.Proofs.Tryz.func228 rfl (by kernel_rfl) rfl rfl rfl (fun A w0 b F hF=>?_);refine .al (.aq rfl<|.nil) rfl (.sq ?_);refine .al (.mv rfl<|.ln rfl aw<|.mv rfl<|.nil) rfl ?_;refine .block (.loop (ι:={p:List Nat×Nat×Nat//p.1.length=at'+p.2.2/\p.2.2<=v.length/\p.2.1<=1/\given us v at'=p.1++kH (v.drop p.2.2) p.2.1 (us.drop (at'+p.2.2))})
  (fun p=>[(0,xz 0 b),(1,dY v),(2,.int .i64 at'),(6,.int .u32 p.1.2.1),(9,dY v),(10,.int .i64 v.length),(11,.int .i64 p.1.2.2)])
  (fun p=>[(0,.row 1 230 (bY (p.1.1++us.drop (at'+p.1.2.2))) (aZ _))]) (fun p=>v.length-p.1.2.2)
  ⟨(us.take at',0,0),by simp;omega,Nat.zero_le _,by simp,rfl⟩ (dL rfl) ⟨⟨_,rfl,.of_eq (eM (by simp))⟩,trivial⟩ rfl rfl ?_)
 rintro⟨⟨ps,c,i⟩,hpl,hi,hc,htk⟩;simp only at hpl hi hc htk;show Ok PP _ [(0,xz 0 b),(1,dY v),(2,.int .i64 at'),(6,.int .u32 c),(9,dY v),(10,.int .i64 v.length),(11,.int .i64 i)] [(0,.row 1 230 (bY (ps++us.drop (at'+i))) (aZ _))] _ _;have hdu:us.drop (at'+i)=us.getD (at'+i) 0::us.drop (at'+i+1):=by
  rw[List.drop_eq_getElem_cons (show at'+i<us.length by omega)];simp[show at'+i<us.length by omega]
 have hul:=cw hus (at'+i);generalize us.getD (at'+i) 0=u at hdu hul;refine .sub [(0,xz 0 b),(1,dY v),(2,.int .i64 at'),(6,.int .u32 c),(9,dY v),(10,.int .i64 v.length),(11,.int .i64 i)] [(0,.row 1 230 (bY (ps++u::us.drop (at'+i+1))) (aZ _))] (dL rfl) ⟨⟨_,rfl,.of_eq (eM (by rw[hdu]))⟩,trivial⟩ rfl rfl ?_;rw[hdu]at htk;have hrl:(bY (ps++u::us.drop (at'+i+1))).length=us.length*1:=by
  rw[bS,List.length_append,List.length_cons,List.length_drop,hpl];omega
 have hgu:(bY (ps++u::us.drop (at'+i+1)))[((at'+i:Nat):Int).toNat*1]?=some (.int .u32 u):=by
  rw[Int.toNat_natCast,Nat.mul_one];exact bF (Au hpl)
 by_cases hlt:i<v.length
 ·refine .al (.cm rfl rfl (zX (by omega))<|.nil) rfl (.sq ?_);refine .cT rfl (.skip (Ok.on (.sq (.block ?_))));have hvi:v[i]?=some (v.getD i 0):=by simp[hlt]
  have hyl:=cw hv i;have hdv:v.drop i=v.getD i 0::v.drop (i+1):=by
   rw[List.drop_eq_getElem_cons hlt];simp[hlt]
  generalize v.getD i 0=y at hvi hyl hdv;rw[hdv]at htk;simp only[kH]at htk;refine .al (.mv rfl<|.qJ rfl rfl aB (by omega) (by omega) (bF hvi)<|.i6 rfl a_<|.aq rfl<|.aq rfl<|.nil) rfl ?_;refine .region (.HF rfl nj<|.mv rfl<|.mv rfl<|.ar rfl rfl (eB (by omega))<|.HF rfl nj<|.mv rfl<|.mv rfl<|.ar rfl rfl (eB (by omega))<|.q6 (n:=us.length) (m':=1) rfl rfl rfl aB hrl rfl rfl (by omega) (by omega)<|.zI rfl rfl a_ hgu<|
   .mv rfl<|.mv rfl<|.call (Gx u y c hul hyl hc) ⟨rfl,rfl,rfl,trivial⟩<|.mv rfl<|.ext rfl rfl<|.ext rfl rfl<|.q6 (n:=us.length) (m':=1) rfl rfl rfl aB hrl rfl rfl (by omega) (by omega)<|
   .AM rfl rfl rfl a_ rfl rfl (by rw[hrl];omega)<|.aq rfl<|.nil) rfl fun _ _ hs=>?_
  refine Ok.on ?_ _ _ hs;refine .region (.ar rfl rfl (gf (by omega))<|.mv rfl<|.nil) rfl fun _ _ hs=>?_;refine hs.round (m:=v.length-i) ⟨(ps++[(u+y+c)%4294967296],(u+y+c)/4294967296,i+1),by simp[hpl];omega,hlt,by simp only;omega,?_⟩ (by simp only;omega)
   (dL rfl) ⟨⟨_,rfl,.of_eq (eM (by rw[fy,sF hpl];simp only[List.append_assoc,List.singleton_append,Nat.add_assoc]))⟩,trivial⟩ rfl rfl
  simp only;rw[htk,List.append_assoc,List.singleton_append,Nat.add_assoc at']
 ·have:i=v.length:=by omega
  subst this;refine .al (.cm rfl rfl (zZ (by omega))<|.nil) rfl (.sq ?_);refine .cF rfl (.exit (Ok.on ?_));rw[List.drop_length]at htk;simp only[kH]at htk;have hw:IntKind.u32.wrap ((u:Int)+(c:Int))=(((u+c)%4294967296:Nat):Int):=wrap_u32 (by omega);refine .region (.HF rfl nj<|.mv rfl<|.mv rfl<|.ln rfl aw<|.ar rfl rfl (eB (by omega))<|.q6 (n:=us.length) (m':=1) rfl rfl rfl aB hrl rfl rfl (by omega) (by omega)<|.zI rfl rfl a_ hgu<|
   .mv rfl<|.ar rfl rfl (congrArg some hw)<|.q6 (n:=us.length) (m':=1) rfl rfl rfl aB hrl rfl rfl (by omega) (by omega)<|
   .AM rfl rfl rfl a_ rfl rfl (by rw[hrl];omega)<|.nil) rfl fun _ _ hs=>?_
  refine(hs.sub (T':=[(0,xz 0 b)]) (H':=[(0,.row 1 230 (bY (given us v at')) (aZ _))]) (dL rfl) ⟨⟨_,rfl,.of_eq (eM (by rw[fy,sF hpl,htk]))⟩,trivial⟩ rfl rfl).I8 (t:=0) (r:=0) hF rfl rfl rfl
end Go.Am
namespace Go.Am
theorem Dh{U V v1 R two q:Nat}(hV:v1*R<=V)(hU:U<(two+1)*R)(hq:q*V<=U):q*v1<=two:=by
 have h1:q*(v1*R)<=q*V:=Nat.mul_le_mul_left _ hV;rw[←Nat.mul_assoc]at h1;have h2:q*v1*R<(two+1)*R:=by omega
 have:=Nat.lt_of_mul_lt_mul_right h2;omega
theorem Di{U V B v1 v2 u2 P two g rest q:Nat}(hV:(v1*B+v2)*P<=V)(hU:U<(two*B+u2+1)*P)(hg:g*v1+rest=two)(ht:rest*B+u2<g*v2)(hq:q*V<=U):q<g:=by
 apply Nat.lt_of_not_le;intro hle;have h1:g*((v1*B+v2)*P)<=q*V:=Nat.mul_le_mul hle hV;have h2:g*(v1*B+v2)*P<(two*B+u2+1)*P:=by rw[Nat.mul_assoc];omega
 have h3:=Nat.lt_of_mul_lt_mul_right h2;have h4:g*(v1*B+v2)=g*v1*B+g*v2:=by rw[Nat.mul_add,Nat.mul_assoc]
 have h5:two*B=g*v1*B+rest*B:=by rw[←hg,Nat.add_mul]
 omega
theorem CL{U V B v1 v2 u2 P two g rest:Nat}(hV1:B*P<=V)(hV:V<(v1*B+v2+1)*P)(hU:(two*B+u2)*P<=U)(hg:g*v1+rest=two)(ht:g*v2<=rest*B+u2)(hgB:g<=B):g*V<=U+V:=by
 have h4:g*(v1*B+v2)=g*v1*B+g*v2:=by rw[Nat.mul_add,Nat.mul_assoc]
 have h5:two*B=g*v1*B+rest*B:=by rw[←hg,Nat.add_mul]
 have h6:g*(v1*B+v2)<=two*B+u2:=by omega
 have h7:g*(v1*B+v2)*P<=(two*B+u2)*P:=Nat.mul_le_mul_right _ h6;have h8:g*V<=g*((v1*B+v2+1)*P):=Nat.mul_le_mul_left _ (Nat.le_of_lt hV);have h9:g*((v1*B+v2+1)*P)=g*(v1*B+v2)*P+g*P:=by rw[←Nat.mul_assoc,Nat.mul_add g,Nat.mul_one,Nat.add_mul]
 have h10:g*P<=B*P:=Nat.mul_le_mul_right _ hgB;omega
theorem Ix{U V g q X Y M bo k:Nat}(hq:q=U/V)(hV:0<V)(h1:q<=g)(h2:g*V<=U+V)(_hUM:U<M)(hbo:bo<=1)(hX:X<M)(hT:X+g*V=U+M*bo)(hk:k<=1)(hY:Y<M)(_hVM:V<M)(hG:Y+M*k=X+V):
  (bo=0/\g=q/\X=U%V)\/(bo=1/\g=q+1/\Y=U%V):=by
 have hdm:=Nat.div_add_mod U V;have hm:=Nat.mod_lt U hV;rw[←hq]at hdm;have hc:V*q=q*V:=Nat.mul_comm _ _;have hg:g=q\/g=q+1:=by
  rcases Nat.lt_or_ge (q+1) g with h|h
  ·exfalso
   have h3:(q+2)*V<=g*V:=Nat.mul_le_mul_right _ h;rw[Nat.add_mul]at h3;omega
  ·omega
 have hb:bo=0\/bo=1:=by omega
 have hkk:k=0\/k=1:=by omega
 rcases hg with rfl|rfl
 ·left
  rcases hb with rfl|rfl
  ·refine⟨rfl,rfl,?_⟩;omega
  ·exfalso;omega
 ·right
  rw[Nat.add_mul,Nat.one_mul]at hT;rcases hb with rfl|rfl
  ·exfalso;omega
  ·refine⟨rfl,rfl,?_⟩;rcases hkk with rfl|rfl<;>omega
end Go.Am
namespace Go.Am
open Go.RowKit
theorem G0(x y:Nat)(hx:(aL x).length<=1099511627776)(hy:(aL y).length<=1099511627776):ml PP 212 [ao x,ao y] (ao (x+y)):=
 Ht (aL x) (aL y) (dp x) (dp y) hx hy (by rw[eE,eE])
def kN(l:List UInt8):Nat:=l.foldl (fun a b=>a*10+(b.toNat-48)) 0
theorem oO(l:List UInt8)(b:UInt8):kN (l++[b])=kN l*10+(b.toNat-48):=by simp[kN]
def vf(l:List UInt8):Prop:=∀b∈l,48<=b.toNat/\b.toNat<=57
theorem Bn{l:List UInt8}(h:vf l):kN l<4294967296^l.length:=by
 have key:∀(n:Nat) (l:List UInt8),l.length=n->vf l->kN l<4294967296^n:=by
  intro n
  induction n with
  |zero=>intro l hl _;rw[List.length_eq_zero_iff.1 hl];simp[kN]
  |succ n ih=>
   intro l hl hd;have hne:l≠[]:=by intro e;subst e;simp at hl
   rw[←List.dropLast_concat_getLast hne,oO];have h1:=ih l.dropLast (by simp[hl]) (fun b hb=>hd b (List.dropLast_subset _ hb));have h2:=hd (l.getLast hne) (List.getLast_mem hne);have hp:(4294967296:Nat)^(n+1)=4294967296^n*4294967296:=Nat.pow_succ ..;rw[hp];generalize (4294967296:Nat)^n=P at*;omega
 exact key _ l rfl h
theorem Bz(s:ByteArray)(hs:s.size<=1000000)(hd:vf s.data.toList):ml PP 148 [.str s] (ao (kN s.data.toList)):=by
 refine .of Go.Proofs.Tryz.func148 rfl (by kernel_rfl) rfl rfl rfl (fun A w0=>?_);have hsl:s.data.toList.length=s.size:=Array.length_toList;refine .al (.aq rfl<|.nil) rfl ?_;refine .al (.aq rfl<|.nil) rfl (.sq ?_);refine .al (.mv rfl<|.Ks rfl de<|.mv rfl<|.nil) rfl ?_;refine .block (.loop (ι:={i:Nat//i<=s.size}) (fun i=>[(0,.str s),(3,ao (kN (s.data.toList.take i.1))),(6,.int .i64 s.size),(7,.int .i64 i.1)]) (fun _=>[]) (fun i=>s.size-i.1)
  ⟨0,Nat.zero_le _⟩ ⟨⟨_,rfl,.refl _⟩,⟨_,rfl,bj⟩,⟨_,rfl,.refl _⟩,⟨_,rfl,.refl _⟩,trivial⟩ trivial rfl rfl ?_)
 rintro⟨i,hi⟩;show Ok PP _ [(0,.str s),(3,ao (kN (s.data.toList.take i))),(6,.int .i64 s.size),(7,.int .i64 i)] [] _ _;by_cases hlt:i<s.size
 ·refine .al (.cm rfl rfl (zX (by omega))<|.nil) rfl (.sq ?_);refine .cT rfl (.skip (Ok.on (.sq (.block ?_))));have hb:s[i]?=some s[i]:=getElem?_pos s i hlt;have hbl:s.data.toList[i]?=some s[i]:=by
   rw[Array.getElem?_toList,ByteArray.getElem_eq_getElem_data];exact Array.getElem?_eq_getElem _
  have hdb:=hd s[i] (List.mem_of_getElem? hbl);have htk:s.data.toList.take (i+1)=s.data.toList.take i++[s[i]]:=by
   rw[List.take_add_one,hbl];rfl
  have hlen:(s.data.toList.take i).length=i:=by rw[List.length_take,hsl];omega
  have hdt:vf (s.data.toList.take i):=fun b hb=>hd b (List.mem_of_mem_take hb);have hvl:=Bn hdt;rw[hlen]at hvl;have hl1:=fw hvl;have hvl2:=Bn (l:=s.data.toList.take (i+1)) (fun b hb=>hd b (List.mem_of_mem_take hb));have hlen2:(s.data.toList.take (i+1)).length=i+1:=by rw[htk,List.length_append,hlen];rfl
  rw[hlen2,htk,oO]at hvl2;generalize s[i]=b at*;generalize hv0:kN (s.data.toList.take i)=v at*;have hl2:(aL (v*10)).length<=i+1:=fw (Nat.lt_of_le_of_lt (Nat.le_add_right _ _) hvl2);have hl3:(aL (b.toNat-48)).length<=1:=fw (by omega);have hl4:(aL 10).length<=1:=fw (by omega);have hw:IntKind.u8.wrap ((b.toNat:Int)-48)=((b.toNat-48:Nat):Int):=by rw[IntKind.wrap_u8];omega
  refine .al (.mv rfl<|.aq rfl<|.nil) rfl ?_;refine .c_ cf (.mv rfl<|.call (td 10 (by omega)) ⟨rfl,trivial⟩<|.call (G6 v 10 (by omega) (by omega)) ⟨rfl,rfl,trivial⟩<|.mv rfl<|.mv rfl<|.JG rfl rfl de (by omega) hb<|.ar rfl rfl (congrArg some hw)<|.cv rfl sA (cg (by omega))<|
   .call (td (b.toNat-48) (by omega)) ⟨rfl,trivial⟩<|.call (G0 (v*10) (b.toNat-48) (by omega) (by omega)) ⟨rfl,rfl,trivial⟩<|.aq rfl<|.nil) rfl (by kernel_rfl) fun _ _ hs=>?_
  refine Ok.on ?_ _ _ hs;refine .region (.ar rfl rfl (gf (by omega))<|.mv rfl<|.nil) rfl fun _ _ hs=>?_;exact hs.round (m:=s.size-i) ⟨i+1,hlt⟩ (by simp only;omega) ⟨⟨_,rfl,.refl _⟩,⟨_,rfl,.of_eq (by rw[htk,oO,hv0])⟩,⟨_,rfl,.refl _⟩,⟨_,rfl,.refl _⟩,trivial⟩ trivial rfl rfl
 ·have:i=s.size:=by omega
  subst this;refine .al (.cm rfl rfl (zZ (by omega))<|.nil) rfl (.sq ?_);refine .cF rfl (.exit (Ok.on ?_));refine .al (.mv rfl<|.aq rfl<|.nil) rfl ?_;exact .rP rfl (.tmp rfl) (.of_eq (by rw[List.take_of_length_le (by omega)])) rfl
end Go.Am
namespace Go.Am
open Go.RowKit
end Go.Am
namespace Go.Am
theorem G5(B P a b:Nat):P*a+P*B*b=P*(b*B+a):=by
 rw[Nat.mul_add,Nat.mul_assoc,Nat.mul_comm B b];omega
theorem Je(B P a b c:Nat):P*a+P*B*b+P*B*B*c=P*((c*B+b)*B+a):=by
 have e:P*B*B*c=P*(c*B*B):=by rw[Nat.mul_assoc,Nat.mul_assoc,Nat.mul_comm B c,Nat.mul_comm B (c*B)]
 rw[e,G5,←Nat.mul_add,Nat.add_mul]
 congr 1;omega
theorem GA{l:List Nat}{p a b:Nat}(ha:l[p]?=some a)(hb:l[p+1]?=some b):val (l.take (p+2))=val (l.take p)+4294967296^p*(b*4294967296+a):=by
 have h1:=eV hb;have h2:=eV ha;rw[←G5,show p+2=p+1+1 from rfl,h1,h2,Nat.pow_succ,Nat.add_assoc]
theorem BU{l:List Nat}{p a b c:Nat}(ha:l[p]?=some a)(hb:l[p+1]?=some b)(hc:l[p+2]?=some c):val (l.take (p+3))=val (l.take p)+4294967296^p*((c*4294967296+b)*4294967296+a):=by
 have h1:=eV hc;have h2:=eV hb;have h3:=eV ha;rw[←Je,show p+3=p+2+1 from rfl,h1,show p+2=p+1+1 from rfl,h2,h3,Nat.pow_succ,Nat.pow_succ,Nat.add_assoc,Nat.add_assoc,Nat.add_assoc,Nat.pow_succ]
theorem AD{X P t U:Nat}(h:U=X+P*t)(hX:X<P):t*P<=U/\U<(t+1)*P:=by
 rw[h,Nat.add_mul,Nat.one_mul,Nat.mul_comm P t];omega
theorem zD{q two v1:Nat}(h:q*v1<=two)(h1:0<v1):q<=two/v1:=(Nat.le_div_iff_mul_le h1).2 h
theorem zR{g v1 rest two:Nat}(h:g*v1+rest=two)(hg:0<g):(g-1)*v1+(rest+v1)=two:=by
 obtain⟨k,rfl⟩:∃k,g=k+1:=⟨g-1,by omega⟩;rw[Nat.add_mul,Nat.one_mul]at h;rw[Nat.add_sub_cancel];omega
theorem yv{g v1 rest B u1 u0:Nat}(h:g*v1+rest=u1*B+u0)(hr:B<=rest)(hu1:u1<=v1)(hu0:u0<B):g<B:=by
 have h1:u1*B<=v1*B:=Nat.mul_le_mul_right _ hu1;have h2:g*v1<B*v1:=by rw[Nat.mul_comm B v1];omega
 exact Nat.lt_of_mul_lt_mul_right h2
end Go.Am
namespace Go.Am
open Go.RowKit
structure pU(us v:List Nat)(i n:Nat):Prop where
 n2:2<=n
 vl:v.length=n
 lv:dD v
 lu:dD us
 fit:i+n<us.length
 KB:4294967296^n<=2*val v
 less:val (us.drop (i+1))<val v
theorem pU.rest{us v:List Nat}{i n:Nat}(h:pU us v i n):val (us.drop i)=val ((us.drop i).take (n+1)):=by
 have h1:=fo (us.drop (i+1)) n (by rw[List.length_drop];have:=h.fit;omega);have h2:=pq h.lv;rw[h.vl]at h2;have h3:val ((us.drop (i+1)).drop n)=0:=by
  rcases Nat.eq_zero_or_pos (val ((us.drop (i+1)).drop n))with h|h'
  ·exact h
  ·exfalso
   have:=Nat.mul_le_mul_left (4294967296^n) h';have:=h.less;omega
 have h4:=fo (us.drop i) (n+1) (by rw[List.length_drop];have:=h.fit;omega);rw[List.drop_drop]at h3 h4;rw[show i+(n+1)=i+1+n by omega,h3,Nat.mul_zero,Nat.add_zero]at h4;exact h4
theorem getD_some{l:List Nat}{i:Nat}(h:i<l.length):l[i]?=some (l.getD i 0):=by simp[h]
theorem pU.win{us v:List Nat}{i p:Nat}(h:pU us v i (p+2)):
  ((us.getD (i+p+2) 0*4294967296+us.getD (i+p+1) 0)*4294967296+us.getD (i+p) 0)*4294967296^p<=val (us.drop i)/\
  val (us.drop i)<((us.getD (i+p+2) 0*4294967296+us.getD (i+p+1) 0)*4294967296+us.getD (i+p) 0+1)*4294967296^p:=by
 have hf:=h.fit;have g:∀k,k<p+3->(us.drop i)[k]?=some (us.getD (i+k) 0):=fun k hk=>by
  rw[List.getElem?_drop];exact getD_some (by omega)
 have h3:=BU (l:=us.drop i) (p:=p) (g p (by omega)) (g (p+1) (by omega)) (g (p+2) (by omega));rw[h.rest];exact AD h3 (fx (j1 h.lu i) p)
theorem pU.div{us v:List Nat}{i p:Nat}(h:pU us v i (p+2)):
  (v.getD (p+1) 0*4294967296+v.getD p 0)*4294967296^p<=val v/\val v<(v.getD (p+1) 0*4294967296+v.getD p 0+1)*4294967296^p:=by
 have hl:=h.vl;have h3:=GA (l:=v) (p:=p) (getD_some (by omega)) (getD_some (by omega));rw[←hl,List.take_length]at h3;exact AD h3 (fx h.lv p)
theorem I2(a B P:Nat):a*B*B*P=B*(a*B*P):=by
 rw[Nat.mul_right_comm (a*B) B P,Nat.mul_comm (a*B*P) B]
theorem Fy{v1 v2:Nat}(h1:v1<2147483648)(h2:v2<4294967296):v1*4294967296+v2+1<=9223372036854775808:=by omega
theorem pU.size{us v:List Nat}{i p:Nat}(h:pU us v i (p+2)):4294967296*4294967296^p<=val v/\2147483648<=v.getD (p+1) 0:=by
 have hb:=h.KB;have hd:=h.div.2;have hv2:=cw h.lv p;rw[Nat.pow_succ,Nat.pow_succ]at hb;generalize (4294967296:Nat)^p=P at*;generalize v.getD (p+1) 0=v1 at*;generalize v.getD p 0=v2 at*;generalize val v=V at*;refine⟨by omega,?_⟩;apply Nat.le_of_not_lt;intro hlt;have h0:=Fy hlt hv2;have h1:=Nat.mul_le_mul_right P h0;omega
theorem pU.top{us v:List Nat}{i p:Nat}(h:pU us v i (p+2)):us.getD (i+p+2) 0<=v.getD (p+1) 0:=by
 have hu:=h.win.1;have hd:=h.div.2;have hr:=gb us i;have hul:=cw h.lu i;have hv2:=cw h.lv p;have hs:=h.less;generalize us.getD (i+p+2) 0=a at*;generalize us.getD (i+p+1) 0=b at*;generalize us.getD (i+p) 0=c at*;generalize us.getD i 0=d at*;generalize val (us.drop i)=U at*;generalize val (us.drop (i+1))=W at*;generalize (4294967296:Nat)^p=P at*;generalize v.getD (p+1) 0=v1 at*;generalize v.getD p 0=v2 at*;generalize val v=V at*;apply Nat.le_of_not_lt;intro hlt;have h1:((v1+1)*4294967296*4294967296)*P<=((a*4294967296+b)*4294967296+c)*P:=Nat.mul_le_mul_right _ (by omega);have h2:(v1*4294967296+v2+1)*P<=((v1+1)*4294967296)*P:=Nat.mul_le_mul_right _ (by omega);have h3:((v1+1)*4294967296*4294967296)*P=4294967296*(((v1+1)*4294967296)*P):=I2 ..;omega
end Go.Am
namespace Go.Am
theorem Gl{U V B P two c v1 v2 q:Nat}(hw:U<(two*B+c+1)*P)(hd:(v1*B+v2)*P<=V)(hc:c<B)(hq:q*V<=U):q*v1<=two:=by
 refine Dh (R:=B*P) (Nat.le_trans ?_ hd) (Nat.lt_of_lt_of_le hw ?_) hq
 ·rw[←Nat.mul_assoc];exact Nat.mul_le_mul_right _ (Nat.le_add_right _ _)
 ·rw[←Nat.mul_assoc];exact Nat.mul_le_mul_right _ (by rw[Nat.add_mul,Nat.one_mul];omega)
theorem pU.ge{us v:List Nat}{i p q:Nat}(h:pU us v i (p+2))(hq:q*val v<=val (us.drop i)):q*v.getD (p+1) 0<=us.getD (i+p+2) 0*4294967296+us.getD (i+p+1) 0:=
 Gl h.win.2 h.div.1 (cw h.lu (i+p)) hq
end Go.Am
namespace Go.Am
structure Stood(us v:List Nat)(i p g:Nat):Prop where
 ge:val (us.drop i)/val v<=g
 le:g*val v<=val (us.drop i)+val v
 lt:g<4294967296
theorem pU.stood{us v:List Nat}{i p g rest:Nat}(h:pU us v i (p+2))(hge:val (us.drop i)/val v<=g)(hg:g*v.getD (p+1) 0+rest=us.getD (i+p+2) 0*4294967296+us.getD (i+p+1) 0)
  (ht:g*v.getD p 0<=rest*4294967296+us.getD (i+p) 0)(hgB:g<4294967296):Stood us v i p g:=
 ⟨hge,CL h.size.1 h.div.2 h.win.1 hg ht (Nat.le_of_lt hgB),hgB⟩
theorem vV(us v:List Nat)(t i:Nat):(taken us v t i).length=us.length:=by
 rw[taken,List.length_append,rj,List.length_take,List.length_drop];omega
theorem tk{us v:List Nat}{t i:Nat}(h:i<=us.length):(taken us v t i).drop i=jA t v 0 0 (us.drop i):=by
 rw[taken,List.drop_append_of_le_length (by simp;omega),List.drop_of_length_le (by simp;omega),List.nil_append]
theorem zr{us v:List Nat}{t i:Nat}(h:i<=us.length):(taken us v t i).take i=us.take i:=by
 rw[taken,List.take_append_of_le_length (by simp;omega),List.take_of_length_le (by simp;omega)]
theorem zh{us v:List Nat}{t i:Nat}(h:dD us):dD (taken us v t i):=kx (mA h i) (pz t (j1 h i))
theorem Ck(us v:List Nat)(i:Nat):(given us v i).length=us.length:=by
 rw[given,List.length_append,ru,List.length_take,List.length_drop];omega
theorem zt{us v:List Nat}{i:Nat}(h:i<=us.length):(given us v i).drop i=kH v 0 (us.drop i):=by
 rw[given,List.drop_append_of_le_length (by simp;omega),List.drop_of_length_le (by simp;omega),List.nil_append]
theorem Ak{us v:List Nat}{i:Nat}(h:i<=us.length):(given us v i).take i=us.take i:=by
 rw[given,List.take_append_of_le_length (by simp;omega),List.take_of_length_le (by simp;omega)]
theorem zU{us v:List Nat}{i:Nat}(h:dD us):dD (given us v i):=kx (mA h i) (pw (j1 h i))
theorem pU.IP{us v:List Nat}{i n:Nat}(h:pU us v i n):val ((us.drop i).drop (n+1))=0:=by
 have h1:=h.rest;have h4:=fo (us.drop i) (n+1) (by rw[List.length_drop];have:=h.fit;omega);have hp:0<4294967296^(n+1):=Nat.pow_pos (by omega);generalize (4294967296:Nat)^(n+1)=P at*;rcases Nat.eq_zero_or_pos (val ((us.drop i).drop (n+1)))with h0|h0
 ·exact h0
 ·have:=Nat.mul_le_mul hp h0;omega
theorem pU.step{us v:List Nat}{i p g:Nat}(h:pU us v i (p+2))(hs:Stood us v i p g):
  (jf g v 0 0 (us.drop i)=0/\g=val (us.drop i)/val v/\val ((taken us v g i).drop i)=val (us.drop i)%val v)\/
  (jf g v 0 0 (us.drop i)=1/\g=val (us.drop i)/val v+1/\val ((given (taken us v g i) v i).drop i)=val (us.drop i)%val v):=by
 have hf:=h.fit;have hil:i<=us.length:=by omega
 have hld:v.length<(us.drop i).length:=by rw[List.length_drop,h.vl];omega
 have hT:=vR g hs.lt v 0 0 (us.drop i) h.lv (j1 h.lu i) (by omega) (by omega) hld;have hlt:=pz g (v:=v) (c:=0) (b:=0) (j1 h.lu i);have hlen:=rj g v 0 0 (us.drop i);obtain⟨k,hk,hG⟩:=vI v 0 (jA g v 0 0 (us.drop i)) h.lv hlt (by omega) (by rw[hlen];exact hld);have hbo:=xI g v 0 0 (us.drop i);have hV:0<val v:=by
  have:=h.size.1;have h2:0<4294967296*4294967296^p:=Nat.mul_pos (by omega) (Nat.pow_pos (by omega));exact Nat.lt_of_lt_of_le h2 this
 have hab:=h.IP;have hrest:=h.rest;rw[h.vl]at hT hG;have e1:val ((taken us v g i).drop i)=val ((jA g v 0 0 (us.drop i)).take (p+2+1)):=by
  rw[tk hil,fo _ (p+2+1) (by rw[hlen,←h.vl];omega)];have:=pj g v 0 0 (us.drop i);rw[h.vl]at this;rw[this,hab,Nat.mul_zero,Nat.add_zero]
 have e2:val ((given (taken us v g i) v i).drop i)=val ((kH v 0 (jA g v 0 0 (us.drop i))).take (p+2+1)):=by
  rw[zt (by rw[vV];exact hil),tk hil,fo _ (p+2+1) (by rw[ru,hlen,←h.vl];omega)];have g1:=tJ v 0 (jA g v 0 0 (us.drop i));have g2:=pj g v 0 0 (us.drop i);rw[h.vl]at g1 g2;rw[g1,g2,hab,Nat.mul_zero,Nat.add_zero]
 have hX:=fx hlt (p+2+1);have hY:=fx (pw (v:=v) (c:=0) hlt) (p+2+1);have hU:=fx (j1 h.lu i) (p+2+1);have hVM:=pq h.lv;rw[h.vl]at hVM;have hMM:4294967296^(p+2)<=4294967296^(p+2+1):=Nat.pow_le_pow_right (by omega) (by omega);rw[e1,e2];rw[←hrest]at hT hU;exact Ix rfl hV hs.ge hs.le hU hbo hX (by rw[←hT];omega) hk hY (Nat.lt_of_lt_of_le hVM hMM) hG
end Go.Am
namespace Go.Am
open Go.RowKit
theorem Le.JQ{a b c d:D}(h:Le a c)(k:Le b d):Le (.ig [a,b]) (.ig [c,d]):=by
 refine⟨fun ε w S v ⟨vs,e,hv⟩=>⟨vs,e,?_⟩,fun r hr=>?_⟩
 ·match vs,hv with
  |[x,y],hv=>exact⟨h.1 _ _ _ _ hv.1,k.1 _ _ _ _ hv.2.1,trivial⟩
 ·obtain⟨e,he,hr'⟩:=bZ.1 (show r∈bV [c,d]from hr);simp only[List.mem_cons,List.not_mem_nil,or_false]at he;rcases he with rfl|rfl
  ·exact bZ.2 ⟨a,by simp,h.2 r hr'⟩
  ·exact bZ.2 ⟨b,by simp,k.2 r hr'⟩
theorem CE{y:Nat}(h:(aL y).length=1):y<4294967296/\y≠0/\aL y=[y]:=by
 have h1:=mi (x:=y);rw[h]at h1;have h0:y≠0:=by intro e;subst e;rw[dA]at h;simp at h
 have hy:y<4294967296:=by omega
 refine⟨hy,h0,?_⟩;rw[lD h0,Nat.div_eq_of_lt hy,Nat.mod_eq_of_lt hy,dA]
theorem yE{x y:Nat}(h:y<=x):0<=fI x y:=by unfold fI;split<;>(try split)<;>omega
theorem EZ{y k:Nat}(hy:y≠0):bN (y*2^k)=bN y+k:=by
 have hp:=Nat.two_pow_pos k;have h:=qE (x:=y*2^k) k (Nat.le_mul_of_pos_left _ (by omega));rw[Nat.mul_div_cancel _ hp]at h;exact h.symm
theorem F6{y n d:Nat}(hn:(aL y).length=n+1)(hd:(aL y)[n]?=some d)(hy:y≠0)(hd32:bN d<=32):
  4294967296^(n+1)<=2*(y*2^(32-bN d))/\(aL (y*2^(32-bN d))).length=n+1:=by
 have hb:=wc hn hd;have hm:=EZ (k:=32-bN d) hy;have hV:bN (y*2^(32-bN d))=32*(n+1):=by omega
 have hV0:y*2^(32-bN d)≠0:=Nat.mul_ne_zero hy (Nat.pos_iff_ne_zero.1 (Nat.two_pow_pos _));generalize y*2^(32-bN d)=V at*;have h1:=m5 V;have h2:=xh hV0;rw[hV]at h1 h2;have hp:(4294967296:Nat)^(n+1)=2^(32*(n+1)):=by rw[Nat.pow_mul]
 have hq:(2:Nat)^(32*(n+1))=2*2^(32*(n+1)-1):=by
  conv=>lhs;rw[show 32*(n+1)=(32*(n+1)-1)+1 by omega,Nat.pow_succ,Nat.mul_comm]
 have h3:4294967296^(n+1)<=2*V:=by rw[hp,hq];exact Nat.mul_le_mul_left _ h2
 refine⟨h3,?_⟩;have h4:=fw (x:=V) (n:=n+1) (by rw[hp];exact h1);have h5:¬(aL V).length<=n:=by
  intro hle;have h6:=mi (x:=V);have h7:4294967296^(aL V).length<=4294967296^n:=Nat.pow_le_pow_right (by omega) hle;rw[Nat.pow_succ]at h3;generalize (4294967296:Nat)^n=P at*;omega
 omega
theorem Cs{t P U q r V Z X B:Nat}(h:t+P*U+V*(P*B*Z)=X)(hU:V*q+r=U):t+P*r+V*(P*(q+B*Z))=X:=by
 rw[←h,←hU,Nat.mul_add P q,Nat.mul_add V,Nat.mul_add P (V*q),Nat.mul_left_comm V P q,←Nat.mul_assoc P B Z];omega
end Go.Am
namespace Go.Am
open Go.RowKit
theorem EW{l:List Nat}{n:Nat}(hw:l.length<=n):(List.replicate (n+1) (D.int .u32 0)).take 0++bY l++(List.replicate (n+1) (D.int .u32 0)).drop (0+l.length)=bY (l++List.replicate (n+1-l.length) 0):=by
 rw[List.take_zero,List.nil_append,Nat.zero_add,List.drop_replicate];simp[bY]
theorem CB{l:List Nat}{n:Nat}(hw:l.length<=n):(l++List.replicate (n+1-l.length) 0).take n=l++List.replicate (n-l.length) 0:=by
 rw[List.take_append,List.take_of_length_le hw,List.take_replicate,Nat.min_eq_left (by omega)]
theorem FO(l:List Nat)(n:Nat):val (l++List.replicate n 0)=val l:=by
 rw[lG,oE,Nat.mul_zero,Nat.add_zero]
theorem pU.Kv{us v:List Nat}{i n:Nat}(h:pU us v i n):val (us.drop i)/val v<4294967296:=by
 have hV:0<val v:=by have:=h.less;omega
 rw[Nat.div_lt_iff_lt_mul hV];have hd:us.drop i=us.getD i 0::us.drop (i+1):=by
  rw[List.drop_eq_getElem_cons (by have:=h.fit;omega)];congr 1;simp[show i<us.length from by have:=h.fit;omega]
 have hl:=cw h.lu i;have hless:=h.less;rw[hd,val];omega
theorem pU.dec{us v:List Nat}{i p g rest:Nat}(h:pU us v i (p+2))(hge:val (us.drop i)/val v<=g)(hg:g*v.getD (p+1) 0+rest=us.getD (i+p+2) 0*4294967296+us.getD (i+p+1) 0)
  (ht:4294967296<=g\/rest*4294967296+us.getD (i+p) 0<g*v.getD p 0):val (us.drop i)/val v<g:=by
 rcases ht with ht|ht
 ·have:=h.Kv;omega
 ·exact Di h.div.1 h.win.2 hg ht (Nat.div_mul_le_self _ _)
theorem pU.cd{us v:List Nat}{i p g rest:Nat}(h:pU us v i (p+2))(hge:val (us.drop i)/val v<=g)(hg:g*v.getD (p+1) 0+rest=us.getD (i+p+2) 0*4294967296+us.getD (i+p+1) 0)
  (hr:4294967296<=rest):Stood us v i p g:=by
 have hgB:=yv hg hr h.top (cw h.lu (i+p+1));refine h.stood hge hg ?_ hgB;have h2:=cw h.lv p;have h3:g*v.getD p 0<=4294967296*4294967296:=Nat.mul_le_mul (by omega) (by omega);have h4:4294967296*4294967296<=rest*4294967296:=Nat.mul_le_mul_right _ hr;omega
theorem Cb{x y n la m p:Nat}(hxl:x<4294967296^la)(hyl:4294967296^n<=y)(hm:n+m=la)(hp:0<p):x*p<y*p*4294967296^m:=by
 have h3:=Nat.mul_le_mul_right (4294967296^m) hyl;rw[←Nat.pow_add,hm]at h3;have h4:x<y*4294967296^m:=Nat.lt_of_lt_of_le hxl h3;rw[Nat.mul_right_comm];exact Nat.mul_lt_mul_of_pos_right h4 hp
theorem FQ{us0:List Nat}{V X m:Nat}(h:val us0=X)(hl:m<=us0.length)(hVX:X<V*4294967296^m):val (us0.drop m)<V:=by
 have h1:=fo us0 m hl;rw[h]at h1;have h2:val (us0.drop m)*4294967296^m<V*4294967296^m:=by
  rw[Nat.mul_comm (val _)];exact Nat.lt_of_le_of_lt (by rw[h1];exact Nat.le_add_left _ _) hVX
 exact Nat.lt_of_mul_lt_mul_right h2
theorem GG{x y p a b:Nat}(hp:0<p)(hy:0<y)(h:a+y*p*b=x*p)(hl:a<y*p):b=x/y/\a=(x%y)*p:=by
 have hV:0<y*p:=Nat.mul_pos hy hp
 constructor
 ·have h1:x*p/(y*p)=b:=by rw[←h,Nat.add_mul_div_left _ _ hV,Nat.div_eq_of_lt hl,Nat.zero_add]
  rw[←h1,Nat.mul_div_mul_right _ _ hp]
 ·have h1:x*p%(y*p)=a:=by rw[←h,Nat.add_mul_mod_self_left,Nat.mod_eq_of_lt hl]
  rw[←h1,Nat.mul_mod_mul_right]
theorem CI{us v:List Nat}{n:Nat}(hn:n<=us.length)(hv:dD v)(hvl:v.length=n)(h:val us<val v):val (us.take n)=val us:=by
 have h1:=fo us n hn;have h2:=pq hv;rw[hvl]at h2;have h3:val (us.drop n)=0:=by
  rcases Nat.eq_zero_or_pos (val (us.drop n))with h|h
  ·exact h
  ·exfalso
   have h4:=Nat.mul_le_mul_left (4294967296^n) h;rw[Nat.mul_succ,Nat.mul_zero,Nat.zero_add]at h4;have h5:4294967296^n*val (us.drop n)<=val us:=by rw[h1];exact Nat.le_add_left _ _
   have h6:=Nat.lt_trans ‹val us<val v› h2;exact Nat.lt_irrefl _ (Nat.lt_of_le_of_lt (Nat.le_trans h4 h5) h6)
 rw[h1,h3,Nat.mul_zero,Nat.add_zero]
structure wU(la m V X:Nat)(us qs:List Nat)(i:Nat):Prop where
 ul:us.length=la+1
 lu:dD us
 ql:qs.length=m
 lq:dD qs
 im:i<=m
 sum:val us+V*(4294967296^i*val (qs.drop i))=X
 less:val (us.drop i)<V
theorem wU.init{la m V X:Nat}{us:List Nat}(h1:us.length=la+1)(h2:dD us)(h3:val us=X)(h4:val (us.drop m)<V):wU la m V X us (List.replicate m 0) m:=
 ⟨h1,h2,List.length_replicate,jd m,Nat.le_refl _,by rw[List.drop_of_length_le (by simp),h3];simp[val],h4⟩
theorem wU.fin{la m V X x y p:Nat}{us qs v:List Nat}{n:Nat}(h:wU la m V X us qs 0)(hX:x*p=X)(hV:y*p=V)(hp:0<p)(hy:0<y)(hn:n<=us.length)(hv:dD v)(hvl:v.length=n)(hvv:val v=V):
  val qs=x/y/\val (us.take n)=(x%y)*p:=by
 have hless:=h.less;have hval:=h.sum;rw[List.drop_zero]at hless;rw[List.drop_zero,Nat.pow_zero,Nat.one_mul]at hval;rw[←hX,←hV]at hval;obtain⟨hq,hr⟩:=GG hp hy hval (by rw[hV];exact hless);have htk:=CI hn hv hvl (by rw[hvv];exact hless);rw[hr]at htk;exact⟨hq,htk⟩
theorem wU.step{la m V X:Nat}{us qs us':List Nat}{i q:Nat}(h:wU la m V X us qs (i+1))(hlu:dD us')(hl:us'.length=us.length)(hm:val (us'.drop i)=val (us.drop i)%V)(htk:us'.take i=us.take i)(hq:q=val (us.drop i)/V)(hqB:q<4294967296)(hV:0<V)(hiu:i<=us.length):
  wU la m V X us' (qs.set i q) i:=by
 have hiq:i<qs.length:=by have:=h.im;have:=h.ql;omega
 refine⟨by rw[hl];exact h.ul,hlu,by rw[List.length_set];exact h.ql,jK h.lq hqB i,by have:=h.im;omega,?_,?_⟩
 ·have hd:(qs.set i q).drop i=q::qs.drop (i+1):=by
   rw[List.drop_eq_getElem_cons (by rw[List.length_set];exact hiq),List.getElem_set_self,List.drop_set_of_lt (Nat.lt_succ_self i)]
  have h1:=fo us i hiu;have h2:=fo us' i (by omega);have h3:=h.sum;rw[h1,Nat.pow_succ]at h3;rw[hd,val,h2,htk,hm];exact Cs h3 (by rw[hq];exact Nat.div_add_mod _ _)
 ·rw[hm];exact Nat.mod_lt _ hV
theorem IV(x y:Nat)(hy0:y≠0)(hx:(aL x).length<=549755813888)(hy:(aL y).length<=549755813888):ml PP 167 [ao x,ao y] (.ig [ao (x/y),ao (x%y)]):=by
 show ml PP _ [dY (aL x),dY (aL y)] _;refine .of Go.Proofs.Tryz.func167 rfl (by kernel_rfl) rfl rfl rfl (fun A w0=>?_);refine .al (.aq rfl<|.aq rfl<|.nil) rfl (.sq (.block ?_));by_cases hlt:x<y
 ·refine .al (.mv rfl<|.mv rfl<|.call (Dd x y (by omega) (by omega)) ⟨rfl,rfl,trivial⟩<|.cm rfl rfl (zX (by rw[xj hlt];decide))<|.aq rfl<|.nil) rfl ?_;refine .cT rfl (.al (.mv rfl<|.aq rfl<|.aq rfl<|.nil) rfl ?_);exact .Ee (fun _ _ h=>h) rfl (.tmp rfl) (.tmp rfl) (.JQ (by rw[Nat.div_eq_of_lt hlt];exact bj) (.of_eq (by rw[Nat.mod_eq_of_lt hlt];rfl))) rfl
 have hyx:y<=x:=Nat.le_of_not_lt hlt;refine .al (.mv rfl<|.mv rfl<|.call (Dd x y (by omega) (by omega)) ⟨rfl,rfl,trivial⟩<|.cm rfl rfl (zZ (yE hyx))<|.aq rfl<|.nil) rfl ?_;refine .cF rfl ?_;by_cases h1:(aL y).length=1
 ·obtain⟨hyb,_,hyd⟩:=CE h1;refine .al (.mv rfl<|.ln rfl aw<|.cm rfl rfl (JO (by omega))<|.aq rfl<|.nil) rfl ?_;refine .cT rfl (.al (.mv rfl<|.mv rfl<|.qJ rfl rfl aB (by omega) (by omega) (bF (i:=0) (d:=y) (by rw[hyd];rfl))<|.i6 rfl a_<|.call (At x y hy0 hyb (by omega)) ⟨rfl,rfl,trivial⟩<|.ext rfl rfl<|.ext rfl rfl<|.aq rfl<|.aq rfl<|.nil) rfl ?_);exact .Ee (fun _ _ h=>h) rfl (.tmp rfl) (.tmp rfl) (.refl _) rfl
 refine .al (.mv rfl<|.ln rfl aw<|.cm rfl rfl (IN (by omega))<|.aq rfl<|.nil) rfl ?_;refine .cF rfl (.skip (Ok.on ?_));obtain⟨p,hp⟩:∃p,(aL y).length=p+2:=⟨(aL y).length-2,by have:=dn hy0;omega⟩;have htop:(aL y)[p+1]?=some ((aL y).getD (p+1) 0):=getD_some (by omega);have hdl:=cw (dp y) (p+1);generalize (aL y).getD (p+1) 0=d at htop hdl;have hb32:bN d<=32:=eL (n:=32) hdl;obtain⟨hbig,hvl⟩:=F6 (n:=p+1) hp htop hy0 hb32;have hsub1:pB .sub .i64 (((aL y).length:Nat):Int) 1=some ((p+1:Nat):Int):=by rw[kV (by omega)];congr 1;omega
 refine .al (.mv rfl<|.mv rfl<|.ln rfl aw<|.ar rfl rfl hsub1<|.qJ rfl rfl aB (by omega) (by omega) (bF (i:=p+1) (d:=d) htop)<|.i6 rfl a_<|.call (rI d hdl) ⟨rfl,trivial⟩<|.aq rfl<|.nil) rfl ?_;have hkl:32-bN d<35184372088832:=by omega
 have hk32:32-bN d<=32:=by omega
 generalize 32-bN d=k at hbig hvl hkl hk32;have hpk:2^k<=4294967296:=Nat.le_trans (Nat.pow_le_pow_right (by decide) hk32) (by decide);have hXlt:x*2^k<4294967296^((aL x).length+1):=by
  rw[Nat.pow_succ];exact Nat.mul_lt_mul_of_lt_of_le mi hpk (by decide)
 have hAl:(aL (x*2^k)).length<=(aL x).length+1:=fw hXlt;have hXlt':=hXlt;refine .al (.mv rfl<|.mv rfl<|.call (CH y k (by omega) hkl) ⟨rfl,rfl,trivial⟩<|.aq rfl<|.nil) rfl ?_;refine .sub [(0,ao x),(1,ao y),(6,.int .i64 (k:Nat)),(7,dY (aL (y*2^k)))] [] (dL rfl) (jY rfl) rfl rfl ?_;have hvv:=eE (y*2^k);have hvo:=dp (y*2^k);generalize aL (y*2^k)=v at hvl hvv hvo;have hvl:v.length=p+2:=hvl;have hln:pB .sub .i64 (((aL x).length:Nat):Int) ((p+1+1:Nat):Int)=some ((((aL x).length-(p+2):Nat)):Int):=qc (by have:=kc hyx;omega) (by omega);have hnx:p+2<=(aL x).length:=by have:=kc hyx;omega
 refine .al (.mv rfl<|.ln rfl aw<|.aq rfl<|.nil) rfl ?_;refine .sub [(0,dY (aL x)),(6,.int .i64 (k:Nat)),(7,dY v),(8,.int .i64 ((p+2:Nat)))] [] ⟨⟨_,rfl,.refl _⟩,⟨_,rfl,.refl _⟩,⟨_,rfl,.refl _⟩,⟨_,rfl,.of_eq (by rw[hvl])⟩,trivial⟩ (jY rfl) rfl rfl ?_;refine .al (.mv rfl<|.ln rfl aw<|.ar rfl rfl (eB (d:=2) (by omega))<|.HH rfl rfl eC rfl (by omega) (by omega) rfl<|.aq rfl<|.nil) rfl ?_;have hKx:ml PP 166 [dY (aL x),.int .i64 (k:Nat)] (dY (aL (x*2^k))):=CH x k (by omega) hkl;refine .al (.mv rfl<|.mv rfl<|.mv rfl<|.call hKx ⟨rfl,rfl,trivial⟩<|.KF rfl rfl rfl eC (by simp;try omega)<|.nil) rfl ?_;have hcopy:=EW hAl;have hpt:=CB hAl;have hpv:=FO (aL (x*2^k)) ((aL x).length+1-(aL (x*2^k)).length);have hplo:dD (aL (x*2^k)++List.replicate ((aL x).length+1-(aL (x*2^k)).length) 0):=kx (dp _) (jd _);rw[eE]at hpv;have hpl:(aL (x*2^k)++List.replicate ((aL x).length+1-(aL (x*2^k)).length) 0).length=(aL x).length+1:=by rw[List.length_append,List.length_replicate];omega
 have hpl2:(aL (x*2^k)++List.replicate ((aL x).length+1+1-(aL (x*2^k)).length) 0).length=(aL x).length+2:=by rw[List.length_append,List.length_replicate];omega
 refine .sub [(0,dY (aL x)),(6,.int .i64 (k:Nat)),(7,dY v),(8,.int .i64 ((p+2:Nat))),(9,.own 47)] [(47,.row 1 230 (bY (aL (x*2^k)++List.replicate ((aL x).length+1+1-(aL (x*2^k)).length) 0)) (aZ _))] (dL rfl) ⟨⟨_,rfl,.of_eq (eM hcopy)⟩,trivial⟩ rfl rfl ?_;generalize aL (x*2^k)++List.replicate ((aL x).length+1-(aL (x*2^k)).length) 0=us0 at hpt hpv hplo hpl;generalize aL (x*2^k)++List.replicate ((aL x).length+1+1-(aL (x*2^k)).length) 0=us1 at hpt hpl2;refine .al (.mv rfl<|.mv rfl<|.ln rfl aw<|.ar rfl rfl (gf (by omega))<|.KX (n:=(aL x).length+2) (m':=1) rfl rfl rfl aB (by rw[bS,hpl2];omega) rfl rfl (by omega) (by omega) (by omega)<|.aq rfl<|.nil) rfl ?_;refine .Jb 9 200 (n:=(aL x).length+1) (m':=1) rfl rfl rfl (by rw[bS,hpl2];omega) rfl (by rw[bS,hpl2];omega) ?_;refine .sub [(0,dY (aL x)),(6,.int .i64 (k:Nat)),(7,dY v),(8,.int .i64 ((p+2:Nat))),(9,.own 200)] [(200,.row 1 230 (bY us0) (aZ _))] (dL rfl) ⟨⟨_,rfl,.of_eq (eM (by rw[Nat.mul_one,vQ,hpt]))⟩,trivial⟩ rfl rfl ?_;refine .al (.mv rfl<|.ln rfl aw<|.mv rfl<|.ar rfl rfl hln<|.ar rfl rfl (gf (by omega))<|.HH rfl rfl eC rfl (by omega) (by omega) rfl<|.aq rfl<|.nil) rfl ?_;refine .sq ?_;refine .al (.mv rfl<|.IC (n:=(aL x).length-(p+2)+1) (m':=1) rfl rfl aw (by simp) rfl rfl<|.ar rfl rfl (kV (by omega))<|.aq rfl<|.nil) rfl ?_;generalize hm:(aL x).length-(p+2)+1=m;generalize hX:x*2^k=X at hpv;have hbig':=hbig;generalize hV:y*2^k=V at hvv hbig';have hpk0:0<2^k:=Nat.two_pow_pos k;have hVX:X<V*4294967296^m:=by
  rw[←hX,←hV];exact Cb mi (sH hy0) (by omega) hpk0
 have hini:val (us0.drop m)<V:=FQ hpv (by omega) hVX;have hI0:wU (aL x).length m V X us0 (List.replicate m 0) m:=.init hpl hplo hpv hini;refine .block (.loop (ι:={s:List Nat×List Nat×Nat//wU (aL x).length m V X s.1 s.2.1 s.2.2})
  (fun s=>[(6,.int .i64 (k:Nat)),(7,dY v),(8,.int .i64 ((p+2:Nat))),(9,.own 200),(10,.own 63),(11,.int .i64 ((s.1.2.2:Nat)-1))]) (fun s=>[(200,.row 1 230 (bY s.1.1) (aZ _)),(63,.row 1 230 (bY s.1.2.1) (aZ _))]) (fun s=>s.1.2.2)
  ⟨(us0,List.replicate m 0,m),hI0⟩ (dL rfl) ⟨⟨_,rfl,.refl _⟩,⟨_,rfl,.of_eq (eM (by simp[bY]))⟩,trivial⟩ rfl rfl ?_)
 rintro⟨⟨us,qs,i1⟩,hI⟩;simp only at hI;show Ok PP _ [(6,.int .i64 (k:Nat)),(7,dY v),(8,.int .i64 ((p+2:Nat))),(9,.own 200),(10,.own 63),(11,.int .i64 ((i1:Nat)-1))] [(200,.row 1 230 (bY us) (aZ _)),(63,.row 1 230 (bY qs) (aZ _))] _ _;have hul:=hI.ul;have hql:=hI.ql;refine .sq ?_
 cases i1 with
 |zero=>
  refine .al (.mv rfl<|.cm rfl rfl (b:=false) (by simp[dW])<|.nil) rfl ?_;refine .cF rfl (.exit (Ok.on ?_));obtain⟨hq,hr⟩:=hI.fin hX hV hpk0 (Nat.pos_of_ne_zero hy0) (n:=p+2) (by omega) hvo hvl hvv;have hltk:dD (us.take (p+2)):=mA hI.lu _;have Cu:=hI.lq;refine .tU (n:=m) (m':=1) 10 rfl rfl (by rw[bS,hql];omega) rfl rfl ?_;refine .tU (n:=(aL x).length+1) (m':=1) 9 rfl rfl (by rw[bS,hul];omega) rfl rfl ?_;refine .sub [(6,.int .i64 (k:Nat)),(8,.int .i64 ((p+2:Nat))),(9,dY us),(10,dY qs)] [] ⟨⟨_,rfl,.refl _⟩,⟨_,rfl,.refl _⟩,⟨_,rfl,.of_eq (nP hul.symm rfl)⟩,⟨_,rfl,.of_eq (nP hql.symm rfl)⟩,trivial⟩ trivial rfl rfl ?_;have hKn:ml PP 210 [dY (us.take (p+2))] (ao (x%y*2^k)):=by rw[←hr];exact m3 _ hltk (by rw[List.length_take];omega)
  have hKq:ml PP 210 [dY qs] (ao (x/y)):=by rw[←hq];exact m3 _ Cu (by omega)
  have hrl:(aL (x%y*2^k)).length<=1099511627776:=by
   have h1:x%y*2^k<4294967296^((aL x).length+1):=by
    refine Nat.lt_of_le_of_lt (Nat.mul_le_mul_right _ (Nat.mod_le x y)) hXlt'
   have:=fw h1;omega
  have hsl:∀h,D.jR ((p+2:Nat):Int).toNat 1 ((bY us).take (((p+2:Nat):Int).toNat*1)) h=dY (us.take (p+2)):=fun h=>nP (by rw[Int.toNat_natCast,List.length_take];omega) (by rw[Int.toNat_natCast,Nat.mul_one,vQ]);have hKs:=Hc (x%y*2^k) k hrl (by omega);rw[Nat.mul_div_cancel _ hpk0]at hKs;refine .cZ cf (.mv rfl<|.call hKq ⟨rfl,trivial⟩<|.mv rfl<|.mv rfl<|.Ki rfl rfl aB (by omega) (by omega)<|.call hKn ⟨congrArg some (hsl _),trivial⟩<|.mv rfl<|.call hKs ⟨rfl,rfl,trivial⟩<|.aq rfl<|.aq rfl<|.nil) rfl (by kernel_rfl) ?_;exact .F2 rfl (.tmp rfl) (.tmp rfl) (.refl _) rfl
 |succ i=>
  have hvl':v.length=p+2:=hvl;have du:i+(p+2)<us.length:=by have:=hI.im;rw[hul];omega
  have hW:pU us v i (p+2):=⟨by omega,hvl,hvo,hI.lu,du,by rw[hvv];exact hbig',by rw[hvv];exact hI.less⟩;have hiq:i<qs.length:=by have:=hI.im;omega
  refine .al (.mv rfl<|.cm rfl rfl (b:=true) (by simp[dW];try omega)<|.nil) rfl ?_;refine .cT rfl (.skip (Ok.on (.sq (.block ?_))));rw[show((i+1:Nat):Int)-1=i by omega];have g0:us[i+p]?=some (us.getD (i+p) 0):=getD_some (by omega);have g1:us[i+p+1]?=some (us.getD (i+p+1) 0):=getD_some (by omega);have g2:us[i+(p+2)]?=some (us.getD (i+p+2) 0):=getD_some (by omega);have gv1:v[p+1]?=some (v.getD (p+1) 0):=getD_some (by omega);have gv2:v[p]?=some (v.getD p 0):=getD_some (by omega);have l0:=cw hI.lu (i+p);have l1:=cw hI.lu (i+p+1);have l2:=cw hI.lu (i+p+2);have lv1:=cw hvo (p+1);have lv2:=cw hvo p;have hv1p:2147483648<=v.getD (p+1) 0:=hW.size.2;have hwdec:=@pU.dec us v i p;have hwbrk:=@pU.cd us v i p;have hwst:=@pU.stood us v i p;have hwge:=fun q h=>pU.ge (q:=q) hW h;generalize hu0:us.getD (i+p) 0=u0 at*;generalize hu1:us.getD (i+p+1) 0=u1 at*;generalize hu2:us.getD (i+p+2) 0=u2 at*;generalize hv1:v.getD (p+1) 0=v1 at*;generalize hv2:v.getD p 0=v2 at*;have hrl:(bY us).length=((aL x).length+1)*1:=by rw[bS,hul];omega
  have s1:pB .sub .i64 ((i+(p+2):Nat):Int) 1=some ((i+p+1:Nat):Int):=by rw[kV (by omega)];congr 1;omega
  have s2:pB .sub .i64 ((i+(p+2):Nat):Int) 2=some ((i+p:Nat):Int):=by rw[show(2:Int)=((2:Nat):Int)from rfl,qc (by omega) (by omega)];congr 2
  have s3:pB .sub .i64 ((p+2:Nat):Int) 1=some ((p+1:Nat):Int):=by rw[kV (by omega)];congr 1;omega
  have s4:pB .sub .i64 ((p+2:Nat):Int) 2=some ((p:Nat):Int):=by rw[show(2:Int)=((2:Nat):Int)from rfl,qc (by omega) (by omega)];congr 2
  refine .cZ cf (.mv rfl<|.mv rfl<|.mv rfl<|.ar rfl rfl (eB (n:=i) (d:=p+2) (by omega))<|.q6 (n:=(aL x).length+1) (m':=1) rfl rfl rfl aB hrl rfl rfl (by omega) (by omega)<|.zI rfl rfl a_ (d:=.int .u32 u2) (by rw[Int.toNat_natCast,Nat.mul_one];exact bF g2)<|.cv rfl bG (cg (by omega))<|.sh rfl rfl (A1 (n:=u2) l2)<|
   .mv rfl<|.mv rfl<|.mv rfl<|.ar rfl rfl (eB (n:=i) (d:=p+2) (by omega))<|.ar rfl rfl s1<|.q6 (n:=(aL x).length+1) (m':=1) rfl rfl rfl aB hrl rfl rfl (by omega) (by omega)<|.zI rfl rfl a_ (d:=.int .u32 u1) (by rw[Int.toNat_natCast,Nat.mul_one];exact bF g1)<|.cv rfl bG (cg (by omega))<|.ar rfl rfl (wI l2 l1)<|.aq rfl<|.nil) rfl (by kernel_rfl) ?_
  have htwo:u2*4294967296+u1<18446744073709551616:=by omega
  refine .cZ cf (.mv rfl<|.mv rfl<|.mv rfl<|.ar rfl rfl s3<|.qJ rfl rfl aB (by omega) (by omega) (bF (i:=p+1) (d:=v1) gv1)<|.i6 rfl a_<|.cv rfl bG (cg (by omega))<|.ar rfl rfl (Dr (n:=u2*4294967296+u1) (d:=v1) (by omega) htwo)<|
   .mv rfl<|.mv rfl<|.mv rfl<|.ar rfl rfl s3<|.qJ rfl rfl aB (by omega) (by omega) (bF (i:=p+1) (d:=v1) gv1)<|.i6 rfl a_<|.cv rfl bG (cg (by omega))<|.ar rfl rfl (wR (n:=u2*4294967296+u1) (d:=v1) (by omega))<|.aq rfl<|.aq rfl<|.nil) rfl (by kernel_rfl) ?_
  have hVpos:0<val v:=by have:=hW.less;omega
  have hge0:val (us.drop i)/val v<=(u2*4294967296+u1)/v1:=zD (hwge _ (Nat.div_mul_le_self _ _)) (by omega);have hst0:(u2*4294967296+u1)/v1*v1+(u2*4294967296+u1)%v1=u2*4294967296+u1:=by rw[Nat.mul_comm];exact Nat.div_add_mod _ _
  have hr0:(u2*4294967296+u1)%v1<4294967296:=Nat.lt_trans (Nat.mod_lt _ (by omega)) lv1;generalize (u2*4294967296+u1)/v1=gu0 at hge0 hst0|-;generalize (u2*4294967296+u1)%v1=re0 at hr0 hst0|-;refine .tI (ι:={g:Nat//Stood us v i p g}) (fun g=>[(6,.int .i64 (k:Nat)),(7,dY v),(8,.int .i64 ((p+2:Nat))),(9,.own 200),(10,.own 63),(11,.int .i64 (i:Nat)),(13,.int .u64 (g.1:Nat))]) (fun _=>[(200,.row 1 230 (bY us) (aZ _)),(63,.row 1 230 (bY qs) (aZ _))]) ?_ ?_
  ·refine .block (.loop (ι:={s:Nat×Nat//val (us.drop i)/val v<=s.1/\s.1*v1+s.2=u2*4294967296+u1/\s.2<4294967296})
    (fun s=>[(6,.int .i64 (k:Nat)),(7,dY v),(8,.int .i64 ((p+2:Nat))),(9,.own 200),(10,.own 63),(11,.int .i64 (i:Nat)),(13,.int .u64 (s.1.1:Nat)),(14,.int .u64 (s.1.2:Nat))]) (fun _=>[(200,.row 1 230 (bY us) (aZ _)),(63,.row 1 230 (bY qs) (aZ _))]) (fun s=>s.1.1)
    ⟨(gu0,re0),hge0,hst0,hr0⟩ (dL rfl) (jY rfl) rfl rfl ?_)
   rintro⟨⟨g,re⟩,hge,hgr,hre⟩;simp only at hge hgr hre;show Ok PP _ [(6,.int .i64 (k:Nat)),(7,dY v),(8,.int .i64 ((p+2:Nat))),(9,.own 200),(10,.own 63),(11,.int .i64 (i:Nat)),(13,.int .u64 (g:Nat)),(14,.int .u64 (re:Nat))] [(200,.row 1 230 (bY us) (aZ _)),(63,.row 1 230 (bY qs) (aZ _))] _ _;have hgm:g<=g*v1:=Nat.le_mul_of_pos_right _ (by omega);have hg64:g<18446744073709551616:=by omega
   refine .tI (ι:={_u:Unit//4294967296<=g\/re*4294967296+u0<g*v2}) (fun _=>[(6,.int .i64 (k:Nat)),(7,dY v),(8,.int .i64 ((p+2:Nat))),(9,.own 200),(10,.own 63),(11,.int .i64 (i:Nat)),(13,.int .u64 (g:Nat)),(14,.int .u64 (re:Nat))]) (fun _=>[(200,.row 1 230 (bY us) (aZ _)),(63,.row 1 230 (bY qs) (aZ _))]) ?_ ?_
   ·by_cases hgB:4294967296<=g
    ·refine .cZ cf (.mv rfl<|.cm rfl rfl (Ie (by omega))<|.mv rfl<|.uX rfl rfl rfl rfl<|.uX rfl rfl rfl rfl<|.uX rfl rfl rfl rfl<|.uX rfl rfl rfl rfl<|.uX rfl rfl rfl rfl<|.uX rfl rfl rfl rfl<|.uX rfl rfl rfl rfl<|.uX rfl rfl rfl rfl<|.uX rfl rfl rfl rfl<|.uX rfl rfl rfl rfl<|.uX rfl rfl rfl rfl<|.uX rfl rfl rfl rfl<|.uX rfl rfl rfl rfl<|.uX rfl rfl rfl rfl<|.uX rfl rfl rfl rfl<|.uX rfl rfl rfl rfl<|.uX rfl rfl rfl rfl<|.uX rfl rfl rfl rfl<|.uX rfl rfl rfl rfl<|.uX rfl rfl rfl rfl<|.aX rfl rfl rfl<|.nil) rfl (by kernel_rfl) ?_;exact .cT rfl (.skip fun _ _ hs=>hs.to ⟨(),.inl hgB⟩ (dL rfl) (jY rfl) rfl rfl)
    ·have hprod:g*v2<18446744073709551616:=by
      have:g*v2<=4294967295*4294967295:=Nat.mul_le_mul (by omega) (by omega);omega
     have hng:¬(false=true):=by decide
     by_cases ht:re*4294967296+u0<g*v2
     ·refine .cZ cf (.mv rfl<|.cm rfl rfl (Fp (by omega))<|.mv rfl<|.mw rfl rfl rfl hng<|.mv rfl<|.mw rfl rfl rfl hng<|.mv rfl<|.mw rfl rfl rfl hng<|.mv rfl<|.mw rfl rfl rfl hng<|.ar rfl rfl s4<|.mw rfl rfl rfl hng<|.qJ rfl rfl aB (by omega) (by omega) (bF (i:=p) (d:=v2) gv2)<|.mw rfl rfl rfl hng<|.i6 rfl a_<|.mw rfl rfl rfl hng<|.cv rfl bG (cg (by omega))<|.mw rfl rfl rfl hng<|.ar rfl rfl (sR (n:=g) (d:=v2) hprod)<|
       .mw rfl rfl rfl hng<|.mv rfl<|.mw rfl rfl rfl hng<|.sh rfl rfl (A1 (n:=re) hre)<|.mw rfl rfl rfl hng<|.mv rfl<|.mw rfl rfl rfl hng<|.mv rfl<|.mw rfl rfl rfl hng<|.mv rfl<|.mw rfl rfl rfl hng<|.ar rfl rfl (eB (n:=i) (d:=p+2) (by omega))<|.mw rfl rfl rfl hng<|.ar rfl rfl s2<|.mw rfl rfl rfl hng<|.q6 (n:=(aL x).length+1) (m':=1) rfl rfl rfl aB hrl rfl rfl (by omega) (by omega)<|.mw rfl rfl rfl hng<|.zI rfl rfl a_ (d:=.int .u32 u0) (by rw[Int.toNat_natCast,Nat.mul_one];exact bF g0)<|.mw rfl rfl rfl hng<|.cv rfl bG (cg (by omega))<|.mw rfl rfl rfl hng<|.ar rfl rfl (wI hre l0)<|.mw rfl rfl rfl hng<|.cm rfl rfl (HR (by omega))<|.aT rfl hng rfl<|.nil) rfl (by kernel_rfl) ?_
      exact .cT rfl (.skip fun _ _ hs=>hs.to ⟨(),.inr ht⟩ (dL rfl) (jY rfl) rfl rfl)
     ·refine .cZ cf (.mv rfl<|.cm rfl rfl (Fp (by omega))<|.mv rfl<|.mw rfl rfl rfl hng<|.mv rfl<|.mw rfl rfl rfl hng<|.mv rfl<|.mw rfl rfl rfl hng<|.mv rfl<|.mw rfl rfl rfl hng<|.ar rfl rfl s4<|.mw rfl rfl rfl hng<|.qJ rfl rfl aB (by omega) (by omega) (bF (i:=p) (d:=v2) gv2)<|.mw rfl rfl rfl hng<|.i6 rfl a_<|.mw rfl rfl rfl hng<|.cv rfl bG (cg (by omega))<|.mw rfl rfl rfl hng<|.ar rfl rfl (sR (n:=g) (d:=v2) hprod)<|
       .mw rfl rfl rfl hng<|.mv rfl<|.mw rfl rfl rfl hng<|.sh rfl rfl (A1 (n:=re) hre)<|.mw rfl rfl rfl hng<|.mv rfl<|.mw rfl rfl rfl hng<|.mv rfl<|.mw rfl rfl rfl hng<|.mv rfl<|.mw rfl rfl rfl hng<|.ar rfl rfl (eB (n:=i) (d:=p+2) (by omega))<|.mw rfl rfl rfl hng<|.ar rfl rfl s2<|.mw rfl rfl rfl hng<|.q6 (n:=(aL x).length+1) (m':=1) rfl rfl rfl aB hrl rfl rfl (by omega) (by omega)<|.mw rfl rfl rfl hng<|.zI rfl rfl a_ (d:=.int .u32 u0) (by rw[Int.toNat_natCast,Nat.mul_one];exact bF g0)<|.mw rfl rfl rfl hng<|.cv rfl bG (cg (by omega))<|.mw rfl rfl rfl hng<|.ar rfl rfl (wI hre l0)<|.mw rfl rfl rfl hng<|.cm rfl rfl (Is (by omega))<|.aT rfl hng rfl<|.nil) rfl (by kernel_rfl) ?_
      have hS:Stood us v i p g:=hwst hW hge hgr (by omega) (by omega);exact .cF rfl (.exit fun _ _ hs=>hs.to ⟨g,hS⟩ (dL rfl) (jY rfl) rfl rfl)
   ·rintro⟨_,ht⟩;have hlt:val (us.drop i)/val v<g:=hwdec hW hge hgr ht;have hgpos:0<g:=Nat.lt_of_le_of_lt (Nat.zero_le _) hlt;have hge2:val (us.drop i)/val v<=g-1:=Nat.le_sub_one_of_lt hlt;have hnx:=zR hgr hgpos;show Ok PP _ [(6,.int .i64 (k:Nat)),(7,dY v),(8,.int .i64 ((p+2:Nat))),(9,.own 200),(10,.own 63),(11,.int .i64 (i:Nat)),(13,.int .u64 (g:Nat)),(14,.int .u64 (re:Nat))] [(200,.row 1 230 (bY us) (aZ _)),(63,.row 1 230 (bY qs) (aZ _))] _ _;have s5:pB .sub .u64 (g:Int) 1=some ((g-1:Nat):Int):=congrArg some (wrap_u64 (by omega) (by omega));refine .block ?_;refine .al (.mv rfl<|.ar rfl rfl s5<|.aq rfl<|.nil) rfl ?_;refine .al (.mv rfl<|.mv rfl<|.mv rfl<|.ar rfl rfl s3<|.qJ rfl rfl aB (by omega) (by omega) (bF (i:=p+1) (d:=v1) gv1)<|.i6 rfl a_<|.cv rfl bG (cg (by omega))<|.ar rfl rfl (sG (n:=re) (d:=v1) (by omega))<|.aq rfl<|.nil) rfl ?_;by_cases hbk:4294967296<=re+v1
    ·refine .al (.mv rfl<|.cm rfl rfl (Ie (by omega))<|.nil) rfl ?_;have hS:Stood us v i p (g-1):=hwbrk hW hge2 hnx hbk;exact .cT rfl (.exit fun _ _ hs=>hs.to ⟨g-1,hS⟩ (dL rfl) (jY rfl) rfl rfl)
    ·refine .al (.mv rfl<|.cm rfl rfl (Fp (by omega))<|.nil) rfl ?_;exact .cF rfl (.skip fun _ _ hs=>hs.round (m:=g) ⟨(g-1,re+v1),hge2,hnx,by omega⟩ (by simp only;omega) (dL rfl) (jY rfl) rfl rfl)
  ·rintro⟨g,hst⟩;show Ok PP _ [(6,.int .i64 (k:Nat)),(7,dY v),(8,.int .i64 ((p+2:Nat))),(9,.own 200),(10,.own 63),(11,.int .i64 (i:Nat)),(13,.int .u64 (g:Nat))] [(200,.row 1 230 (bY us) (aZ _)),(63,.row 1 230 (bY qs) (aZ _))] _ _;have hgl:g<4294967296:=hst.lt;have hilv:i+v.length<us.length:=by rw[hvl'];exact du
   have humax:us.length<=2199023255552:=by rw[hul];omega
   have hKt:=HB us v g i hI.lu hvo hgl hilv humax;have htl:=vV us v g i;have htk:=zr (us:=us) (v:=v) (t:=g) (i:=i) (by omega);have hto:=zh (v:=v) (t:=g) (i:=i) hI.lu;refine .tI (ι:={s:List Nat×Nat//s.2=val (us.drop i)/V/\dD s.1/\s.1.length=us.length/\val (s.1.drop i)=val (us.drop i)%V/\s.1.take i=us.take i}) (fun s=>[(6,.int .i64 (k:Nat)),(7,dY v),(8,.int .i64 ((p+2:Nat))),(9,.own 200),(10,.own 63),(11,.int .i64 (i:Nat)),(13,.int .u64 (s.1.2:Nat))]) (fun s=>[(200,.row 1 230 (bY s.1.1) (aZ _)),(63,.row 1 230 (bY qs) (aZ _))]) ?_ ?_
   ·rcases pU.step hW hst with⟨b0,hq,hmod⟩|⟨b1,hq,hmod⟩
    ·rw[show(jf g v 0 0 (us.drop i) !=0)=false from by rw[b0];rfl]at hKt;rw[hvv]at hq hmod;refine .al (.mv rfl<|.mv rfl<|.mv rfl<|.mv rfl<|.Ec (hl:=aZ us) (hl':=aZ (taken us v g i)) hKt rfl ⟨rfl,rfl,rfl,trivial⟩ rfl<|.nil) rfl ?_;exact .cF rfl (.skip fun _ _ hs=>hs.to ⟨(taken us v g i,g),hq,hto,htl,hmod,htk⟩ (dL rfl) (jY rfl) rfl rfl)
    ·rw[show(jf g v 0 0 (us.drop i) !=0)=true from by rw[b1];rfl]at hKt;rw[hvv]at hq hmod;have hgpos:0<g:=by rw[hq];exact Nat.succ_pos _
     have s5:pB .sub .u64 (g:Int) 1=some ((g-1:Nat):Int):=congrArg some (wrap_u64 (by omega) (by omega));have hKg:=HQ (taken us v g i) v i hto hvo (by rw[htl];exact hilv) (by rw[htl];exact humax);have hgk:=Ck (taken us v g i) v i;have hgt:=Ak (us:=taken us v g i) (v:=v) (i:=i) (by omega);have hgo:=zU (v:=v) (i:=i) hto;refine .al (.mv rfl<|.mv rfl<|.mv rfl<|.mv rfl<|.Ec (hl:=aZ us) (hl':=aZ (taken us v g i)) hKt rfl ⟨rfl,rfl,rfl,trivial⟩ rfl<|.nil) rfl ?_;refine .cT rfl ?_;refine .al (.mv rfl<|.ar rfl rfl s5<|.aq rfl<|.nil) rfl ?_;refine .region (.mv rfl<|.mv rfl<|.mv rfl<|.Ec (hl:=aZ (taken us v g i)) (hl':=aZ (given (taken us v g i) v i)) hKg rfl ⟨rfl,rfl,trivial⟩ rfl<|.nil) rfl fun _ _ hs=>?_;exact hs.to ⟨(given (taken us v g i) v i,g-1),by simp only;rw[hq];rfl,hgo,by simp only;rw[hgk,htl],hmod,by simp only;rw[hgt,htk]⟩ (dL rfl) (jY rfl) rfl rfl
   ·rintro⟨⟨us',q⟩,hq,hlu',hlen',hmod,htk'⟩;simp only at hq hlu' hlen' hmod htk';show Ok PP _ [(6,.int .i64 (k:Nat)),(7,dY v),(8,.int .i64 ((p+2:Nat))),(9,.own 200),(10,.own 63),(11,.int .i64 (i:Nat)),(13,.int .u64 (q:Nat))] [(200,.row 1 230 (bY us') (aZ _)),(63,.row 1 230 (bY qs) (aZ _))] _ _;have hqB:q<4294967296:=by rw[hq,←hvv];exact hW.Kv
    have hVp:0<V:=by rw[←hvv];exact Nat.lt_of_le_of_lt (Nat.zero_le _) hW.less
    have hD:=hI.step hlu' hlen' hmod htk' hq hqB hVp (by omega);have hqrl:(bY qs).length=m*1:=by rw[bS,hql];omega
    have him:i<m:=by rw[←hql];exact hiq
    have hmx:m<9223372036854775808:=by omega
    have hix:i<9223372036854775808:=by omega
    refine .region (.mv rfl<|.mv rfl<|.mv rfl<|.cv rfl eZ (gV hqB)<|.q6 (n:=m) (m':=1) rfl rfl rfl aB hqrl rfl rfl (by omega) (by omega)<|.AM rfl rfl rfl a_ rfl rfl (by rw[hqrl];omega)<|.nil) rfl fun _ _ hs=>?_;refine Ok.on ?_ _ _ hs;refine .region (.mv rfl<|.ar rfl rfl (kV hix)<|.aq rfl<|.nil) rfl fun _ _ hs=>?_;exact hs.round (m:=i+1) ⟨(us',qs.set i q,i),hD⟩ (by simp) (dL rfl) ⟨⟨_,rfl,.refl _⟩,⟨_,rfl,.of_eq (eM (fy ..))⟩,trivial⟩ rfl rfl
end Go.Am
namespace Go.Am
open Go.RowKit
def sm(x:Nat):Prop:=bN x<=4398046511104
instance (x:Nat):Decidable (sm x):=inferInstanceAs (Decidable (bN x<=4398046511104))
theorem mu(x:Nat):(aL x).length<=bN x/32+1:=by
 refine fw ?_;have h1:=m5 x;have h2:(2:Nat)^bN x<=2^(32*(bN x/32+1)):=Nat.pow_le_pow_right (by omega) (by omega);rw[Nat.pow_mul]at h2;exact Nat.lt_of_lt_of_le h1 h2
theorem FI{x:Nat}(h:sm x):(aL x).length<=549755813888:=by
 have:=mu x;unfold sm at h;omega
theorem ie{x:Nat}(h:sm x):(aL x).length<=1099511627776:=by have:=FI h;omega
def m_(n:Int):Option Nat:=cj (0<=n/\n<18446744073709551616) (some n.toNat)
theorem uY{a:Int}{r:Nat}(h:m_ a=some r):bf PP 145 [] [D.int .u64 a] [] (ao r):=by
 obtain⟨⟨h0,h1⟩,h⟩:=av h;injection h with h;subst h;have:=td a.toNat (by omega);rw[Int.toNat_of_nonneg h0]at this;exact this.gen
def wo(a b:Nat):Option Nat:=cj (sm a/\sm b) (some (a+b))
theorem AR{a b r:Nat}(h:wo a b=some r):bf PP 212 [] [ao a,ao b] [] (ao r):=by
 obtain⟨⟨h0,h1⟩,h⟩:=av h;injection h with h;subst h;exact(G0 a b (ie h0) (ie h1)).gen
def yx(a b:Nat):Option Nat:=cj (b<=a/\sm a) (some (a-b))
theorem DO{a b r:Nat}(h:yx a b=some r):bf PP 215 [] [ao a,ao b] [] (ao r):=by
 obtain⟨⟨h0,h1⟩,h⟩:=av h;injection h with h;subst h;exact(I6 a b h0 (ie h1)).gen
def qN(a b:Nat):Option Nat:=cj (sm a/\sm b) (some (a*b))
theorem uy{a b r:Nat}(h:qN a b=some r):bf PP 150 [] [ao a,ao b] [] (ao r):=by
 obtain⟨⟨h0,h1⟩,h⟩:=av h;injection h with h;subst h;exact(G6 a b (ie h0) (ie h1)).gen
def vy(a b:Nat):Option Int:=cj (sm a/\sm b) (some (fI a b))
theorem Bm{a b:Nat}{r:Int}(h:vy a b=some r):bf PP 224 [] [ao a,ao b] [] (D.int .i64 r):=by
 obtain⟨⟨h0,h1⟩,h⟩:=av h;injection h with h;subst h;exact(Dd a b (ie h0) (ie h1)).gen
def An(a:Nat):Option Int:=cj (sm a) (some (bN a:Int))
theorem Hm{a:Nat}{r:Int}(h:An a=some r):bf PP 186 [] [ao a] [] (D.int .i64 r):=by
 obtain⟨h0,h⟩:=av h;injection h with h;subst h;exact(Iy a (ie h0)).gen
def nh(a:Nat):Option Int:=cj ((aL a).length<=2) (some (a:Int))
theorem wV{a:Nat}{r:Int}(h:nh a=some r):bf PP 185 [] [ao a] [] (D.int .u64 r):=by
 obtain⟨h0,h⟩:=av h;injection h with h;subst h;exact(Gm a h0).gen
def wq(a:Nat)(k:Int):Option Nat:=cj (sm a/\0<=k/\k<35184372088832) (some (a*2^k.toNat))
theorem DM{a:Nat}{k:Int}{r:Nat}(h:wq a k=some r):bf PP 166 [] [ao a,D.int .i64 k] [] (ao r):=by
 obtain⟨⟨h0,h1,h2⟩,h⟩:=av h;injection h with h;subst h;have:=CH a k.toNat (ie h0) (by omega);rw[Int.toNat_of_nonneg h1]at this;exact this.gen
def lT(a b:Nat):Option (Nat×Nat):=cj (b≠0/\sm a/\sm b) (some (a/b,a%b))
theorem rT{a b q r:Nat}(h:lT a b=some (q,r)):bf PP 167 [] [ao a,ao b] [] (D.ig [ao q,ao r]):=by
 obtain⟨⟨h0,h1,h2⟩,h⟩:=av h;cases h;have e1:(aL a).length<=549755813888:=by have:=mu a;unfold sm at h1;omega
 have e2:(aL b).length<=549755813888:=by have:=mu b;unfold sm at h2;omega
 exact(IV a b h0 e1 e2).gen
def wT(a:Nat)(d:Int):Option (Nat×Nat):=cj (sm a/\0<d/\d<4294967296) (some (a/d.toNat,a%d.toNat))
theorem GB{a q r:Nat}{d:Int}(h:wT a d=some (q,r)):bf PP 225 [] [ao a,D.int .u32 d] [] (D.ig [ao q,ao r]):=by
 obtain⟨⟨h0,h1,h2⟩,h⟩:=av h;cases h;have:=At a d.toNat (by omega) (by omega) (ie h0);rw[Int.toNat_of_nonneg (by omega)]at this;exact this.gen
def A8(a:Nat)(k:Int):Option Nat:=cj (sm a/\0<=k/\k<35184372088832) (some (a/2^k.toNat))
theorem I4{a:Nat}{k:Int}{r:Nat}(h:A8 a k=some r):bf PP 229 [] [ao a,D.int .i64 k] [] (ao r):=by
 obtain⟨⟨h0,h1,h2⟩,h⟩:=av h;injection h with h;subst h;have:=Hc a k.toNat (ie h0) (by omega);rw[Int.toNat_of_nonneg h1]at this;exact this.gen
instance (l:List UInt8):Decidable (vf l):=inferInstanceAs (Decidable (∀b∈l,_))
def oA(s:List UInt8):Option Nat:=cj (s.length<=1000000/\vf s) (some (kN s))
theorem zY{s:List UInt8}{r:Nat}(h:oA s=some r):bf PP 148 [] [cu s] [] (ao r):=by
 obtain⟨⟨h0,h1⟩,h⟩:=av h;injection h with h;subst h;exact(Bz ⟨s.toArray⟩ h0 h1).gen
theorem JZ{k:IntKind}{n m:Int}(h:0<=m):xW .shl k n m=some (k.wrap (n*2^(min m.toNat k.bits))):=by
 unfold xW;rw[if_neg (by omega)]
theorem Jd{k:IntKind}{n m:Int}(h:0<=m):xW .shr k n m=some (n.fdiv (2^(min m.toNat k.bits))):=by
 unfold xW;rw[if_neg (by omega)]
theorem yf{k:IntKind}{n m:Int}(h:m≠0):pB .quo k n m=some (k.wrap (n.tdiv m)):=if_neg h
theorem tN{k:IntKind}{n m:Int}(h:m≠0):pB .rem k n m=some (n.tmod m):=if_neg h
section
variable {P:Program} {os:List Oper} {c:Ctx} {T T':List (Nat×D)} {H H':List (Nat×Hp)} {sps:List Spec}
variable {ops:Array Oper} {dst:Option Nat} {ty:TypeId} {pos:String} {aft:Array Edge}
theorem an.y_{t:TypeId}{x:Operand}{a:Nat}(hx:ev T x=some (ao a))(ht:isSlice P t=true)(hr:an P ops c os (bw T dst (.int .i64 (aL a).length)) H sps T' H'):
  an P ops c (⟨dst,.call {callee:=.builtin .len,args:=#[x],argTypes:=#[t]},ty,pos,aft,none⟩::os) T H (ps [(x,ao a)] (.int .i64 (aL a).length)::sps) T' H':=.ln (hl:=aZ _) hx ht hr
theorem an.Jx{t:TypeId}{x y:Operand}{a d:Nat}{k:IntKind}{z:Int}(hx:ev T x=some (ao a))(hy:ev T y=some (.int k z))(ht:sle P t=some 1)(h:ix (aL a) z=some d)
  (hr:an P ops c os (bw T dst (.ptr [.int .u32 d] rfl)) H sps T' H'):
  an P ops c (⟨dst,.indexAddr t x y,ty,pos,aft,none⟩::os) T H (ps [(x,ao a),(y,.int k z)] (.ptr [.int .u32 d] rfl)::sps) T' H':=
 .qJ (hl:=aZ _) hx hy ht (af h).1 (by have:=bn h;have:=(af h).1;omega) (bF (af h).2) hr
def I7(T:List (Nat×D)):List (Nat×Operand×D×List D)->Prop
 |[]=>True
 |(_,x,d,_)::q=>ev T x=some d/\I7 T q
theorem sP{T:List (Nat×D)}:∀{q:List (Nat×Operand×D×List D)},I7 T q->∀x∈qs q,ev T x.1=some x.2
 |[],_,x,hx=>by cases hx
 |(o,y,d,m)::q,h,x,hx=>by
  simp only[qs,List.map_cons,List.mem_cons]at hx;rcases hx with rfl|hx
  ·exact h.1
  ·exact sP h.2 x hx
theorem an.n_{t:TypeId}{parts:List (Nat×Operand)}{z:List D}{pl:List (Nat×Nat)}(l:List D)(q:List (Nat×Operand×D×List D))(hz:B2 P t=some z)(hp:Fv P t=some pl)(hq:jH pl z.length parts q)(he:I7 T q)(hle:rY (over z q) l)
  (hr:an P ops c os (bw T dst (.agg l)) H sps T' H'):
  an P ops c (⟨dst,.build t parts.toArray,ty,pos,aft,none⟩::os) T H (ps (qs q) (.agg l)::sps) T' H':=.KU q hz hp hq (sP he) hle hr
theorem an.Cx{α:Type}{e:ak α}{t te:TypeId}{parts:List (Nat×Operand)}{m bt n:Nat}{z:List D}(xs:List α)(q:List (Nat×Operand×D×List D))(hm:nF P t=some (te,m,bt,z))(hmn:m=e.n)(hs:Nat.ble (n*m) 16777216=true)(hn0:Nat.blt 0 n=true)(hq:jH (Ds m 0 n) (n*m) parts q)(he:I7 T q)
  (hle:over (List.replicate n z).flatten q=flat e xs)(hln:xs.length=n)
  (hr:an P ops c os (bw T dst (ai e xs)) H sps T' H'):
  an P ops c (⟨dst,.buildSlice t n parts.toArray,ty,pos,aft,none⟩::os) T H (ps (qs q) (ai e xs)::sps) T' H':=.KR xs q hm hmn hs hn0 hq (sP he) hle hln hr
theorem an.KN{α:Type}{e:ak α}{t te:TypeId}{r:Nat}{parts:List (Nat×Operand)}{m bt n:Nat}{z:List D}(xs:List α)(q:List (Nat×Operand×D×List D))(hm:nF P t=some (te,m,bt,z))(hmn:m=e.n)(hs:Nat.ble (n*m) 16777216=true)(hn0:Nat.blt 0 n=true)(hq:jH (Ds m 0 n) (n*m) parts q)(he:I7 T q)
  (hle:over (List.replicate n z).flatten q=flat e xs)(hln:xs.length=n)(hf:ah H r=none)
  (hr:an P ops c os ((r,.own r)::T) ((r,aY e te xs)::H) sps T' H'):
  an P ops c (⟨some r,.buildSlice t n parts.toArray,ty,pos,aft,none⟩::os) T H (rws (qs q) r (aY e te xs)::sps) T' H':=.KV xs q hm hmn hs hn0 hq (sP he) hle hln hf hr
end
end Go.Am
namespace Go.Am
open Go.RowKit
set_option maxRecDepth 100000
noncomputable section
def gA(v18:Int)(v19:Int):Option (St (Int×Int) Int):=(if(v19 !=0)=true then cj ((v19:Int)≠0) (some (St.next (v19,(Int.tmod v18 v19))))else some (St.done v18))
def dS(v3:Nat)(v4:Nat):Option (St (Nat×Nat) (Ex Nat Nat)):=(if(decide (((aL v4).length:Int)>0))=true then((if(decide (((aL v3).length:Int)<=2))=true then(if(decide (((aL v4).length:Int)<=2))=true then(nh v3).bind fun v14=>(nh v4).bind fun v16=>(Loop (fun(s:Int×Int)=>gA s.1 s.2) (v14,v16)).bind fun v26=>(m_ v26).bind fun v27=>some (Ex.ret v27)else some (Ex.cd ()))else some (Ex.cd ()))).bind fun o10=>(match o10 with|Ex.cd ()=>(lT v3 v4).bind fun(v29,v30)=>some (St.next (v4,v30))|Ex.ret r32=>some (St.done (Ex.ret r32)))else some (St.done (Ex.cd v3)))
def oQ(a1:Nat)(a2:Nat):Option Nat:=(Loop (fun(s:Nat×Nat)=>dS s.1 s.2) (a1,a2)).bind fun o5=>(match o5 with|Ex.cd v33=>some v33|Ex.ret r34=>some r34)
theorem B3{a1:Nat}{a2:Nat}{r35:Nat}(h:oQ a1 a2=some r35):bf PP 214 [] [ao a1,ao a2] [] (ao r35):=by
 unfold oQ at h;refine .of Go.Proofs.Tryz.func214 rfl (by kernel_rfl) rfl rfl rfl rfl rfl rfl (fun A w0 L b=>?_);show Ok PP _ [(0,ao a1),(1,ao a2)] [] _ _;refine .al (.aq rfl<|.nil) rfl ?_;obtain⟨o5,hl6,h⟩:=bind_some h;refine .cc (fun i=>o5=Ex.cd i) (fun(i:Nat)=>[(0,ao i)]) (fun(i:Nat)=>[]) ?_ ?_
 ·have ho1:=h;refine .block (.bU (fun(s:Nat×Nat)=>[(0,ao s.1),(1,ao s.2)]) (fun(s:Nat×Nat)=>[]) hl6 (.of rfl) trivial rfl rfl ?_);rintro⟨v3,v4⟩ st7 hb8;have h:dS v3 v4=some st7:=hb8;unfold dS at h
  try dsimp only
  refine .sq ?_;refine .al (.mv rfl<|.y_ rfl aw<|.cm rfl rfl rfl<|.nil) rfl ?_;by_cases c9:(decide (((aL v4).length:Int)>0))=true
  ·replace h:=ab c9 h;refine .cl rfl c9 ?_;refine .skip (Ok.on ?_);refine .block ?_;obtain⟨o10,hp11,h⟩:=bind_some h;refine .cc (fun i=>o10=Ex.cd i) (fun(i:Unit)=>[(0,ao v3),(1,ao v4)]) (fun(i:Unit)=>[]) ?_ ?_
   ·have ho2:=h;have h:=hp11;by_cases c12:(decide (((aL v3).length:Int)<=2))=true
    ·replace h:=ab c12 h;refine .al (.mv rfl<|.y_ rfl aw<|.cm rfl rfl rfl<|.mv rfl<|.gy c12<|.mv rfl<|.gy c12<|.y_ rfl aw<|.gy c12<|.cm rfl rfl rfl<|.aX rfl c12 rfl<|.nil) rfl ?_;by_cases c13:(decide (((aL v4).length:Int)<=2))=true
     ·replace h:=ab c13 h;refine .cl rfl c13 ?_;obtain⟨v14,e15,h⟩:=bind_some h;obtain⟨v16,e17,h⟩:=bind_some h;refine .al (.mv rfl<|.ag (wV e15) ⟨rfl,trivial⟩ trivial trivial<|.mv rfl<|.ag (wV e17) ⟨rfl,trivial⟩ trivial trivial<|.aq rfl<|.aq rfl<|.nil) rfl ?_;obtain⟨v26,hl21,h⟩:=bind_some h;refine .cc (fun i=>v26=i) (fun(i:Int)=>[(5,D.int .u64 i)]) (fun(i:Int)=>[]) ?_ ?_
      ·have ho3:=h;refine .block (.bU (fun(s:Int×Int)=>[(5,D.int .u64 s.1),(6,D.int .u64 s.2)]) (fun(s:Int×Int)=>[]) hl21 (.of rfl) trivial rfl rfl ?_);rintro⟨v18,v19⟩ st22 hb23;have h:gA v18 v19=some st22:=hb23;unfold gA at h
       try dsimp only
       refine .sq ?_;refine .al (.mv rfl<|.cm rfl rfl rfl<|.nil) rfl ?_;by_cases c24:(v19 !=0)=true
       ·replace h:=ab c24 h;refine .cl rfl c24 ?_;refine .skip (Ok.on ?_);refine .block ?_;obtain⟨k25,h⟩:=av h;refine .c_ cf (.mv rfl<|.mv rfl<|.mv rfl<|.ar rfl rfl (tN k25)<|.aq rfl<|.aq rfl<|.nil) rfl (by kernel_rfl) (fun _ _ hs=>⟨(v19,(Int.tmod v18 v19)),(sj h),hs.sub (.of rfl) trivial rfl rfl⟩)
       ·replace h:=aa c24 h;refine .cq rfl c24 ?_;refine .exit (fun _ _ hs=>⟨_,(sj h),fun e=>⟨v18,e.symm,hs.sub (.of rfl) trivial rfl rfl⟩⟩)
      ·rintro _ rfl
       try dsimp only
       obtain⟨v27,e28,h⟩:=bind_some h;refine .al (.mv rfl<|.ag (uY e28) ⟨rfl,trivial⟩ trivial trivial<|.aq rfl<|.nil) rfl ?_;cases h;have h:=ho2;refine .aO (Hi:=[]) (Ho:=[]) (b:=b) (fn:=Go.Proofs.Tryz.f214) (d:=ao v27) (fun _ _ hb=>by exact⟨_,(sj h),fun e=>by subst e;have h:=ho1;cases h;exact hb⟩) rfl (.t1 (.tmp rfl)) (.refl _) trivial trivial
     ·replace h:=aa c13 h;refine .cq rfl c13 ?_;refine .skip (fun _ _ hs=>⟨(),(sj h),hs.sub (.of rfl) trivial rfl rfl⟩)
    ·replace h:=aa c12 h;refine .al (.mv rfl<|.y_ rfl aw<|.cm rfl rfl rfl<|.mv rfl<|.gm c12<|.gm c12<|.gm c12<|.aT rfl c12 rfl<|.nil) rfl ?_;refine .cq rfl (by decide) ?_;refine .skip (fun _ _ hs=>⟨(),(sj h),hs.sub (.of rfl) trivial rfl rfl⟩)
   ·rintro⟨⟩ rfl
    try dsimp only
    obtain⟨⟨v29,v30⟩,e31,h⟩:=bind_some h;refine .al (.mv rfl<|.mv rfl<|.ag (rT e31) ⟨rfl,rfl,trivial⟩ trivial trivial<|.mv rfl<|.ext rfl rfl<|.ext rfl rfl<|.aq rfl<|.aq rfl<|.nil) rfl ?_;refine .region (.mv rfl<|.mv rfl<|.aq rfl<|.aq rfl<|.nil) rfl (fun _ _ hs=>⟨(v4,v30),(sj h),hs.sub (.of rfl) trivial rfl rfl⟩)
  ·replace h:=aa c9 h;refine .cq rfl c9 ?_;refine .exit (fun _ _ hs=>⟨_,(sj h),fun e=>⟨v3,e.symm,hs.sub (.of rfl) trivial rfl rfl⟩⟩)
 ·rintro v33 rfl
  try dsimp only
  refine .al (.mv rfl<|.aq rfl<|.nil) rfl ?_;cases h;refine .aO (fun _ _ hb=>hb) rfl (.t1 (.tmp rfl)) (.refl _) trivial trivial
def iS(a1:Nat)(v9:Nat):Option (St Nat Nat):=(lT a1 v9).bind fun(v14,v15)=>(wo v9 v14).bind fun v17=>(A8 v17 1).bind fun v19=>(vy v19 v9).bind fun v21=>(if(decide (v21>=0))=true then some (St.done v9)else some (St.next v19))
def m7(a1:Nat):Option Nat:=(if(((aL a1).length:Int)==0)=true then some 0 else(m_ 1).bind fun v3=>(An a1).bind fun v5=>(wq v3 (IntKind.i64.wrap (Int.tdiv (IntKind.i64.wrap (v5+1)) 2))).bind fun v7=>(Loop (fun(s:Nat)=>iS a1 s) v7).bind fun r24=>some r24)
theorem zB{a1:Nat}{r25:Nat}(h:m7 a1=some r25):bf PP 170 [] [ao a1] [] (ao r25):=by
 unfold m7 at h;refine .of Go.Proofs.Tryz.func170 rfl (by kernel_rfl) rfl rfl rfl rfl rfl rfl (fun A w0 L b=>?_);show Ok PP _ [(0,ao a1)] [] _ _;refine .al (.aq rfl<|.nil) rfl ?_;refine .sq ?_;refine .al (.mv rfl<|.y_ rfl aw<|.cm rfl rfl rfl<|.nil) rfl ?_;by_cases c2:(((aL a1).length:Int)==0)=true
 ·replace h:=ab c2 h;refine .cl rfl c2 ?_;refine .al (.aq rfl<|.nil) rfl ?_;cases h;refine .aO (fun _ _ hb=>hb) rfl (.t1 (.tmp rfl)) (bj) trivial trivial
 ·replace h:=aa c2 h;refine .cq rfl c2 ?_;refine .skip (Ok.on ?_);obtain⟨v3,e4,h⟩:=bind_some h;obtain⟨v5,e6,h⟩:=bind_some h;obtain⟨v7,e8,h⟩:=bind_some h;refine .al (.ag (uY e4) ⟨rfl,trivial⟩ trivial trivial<|.mv rfl<|.ag (Hm e6) ⟨rfl,trivial⟩ trivial trivial<|.ar rfl rfl rfl<|.ar rfl rfl (yf (by decide))<|.ag (DM e8) ⟨rfl,rfl,trivial⟩ trivial trivial<|.aq rfl<|.nil) rfl ?_;obtain⟨o10,hl11,h⟩:=bind_some h;have ho1:=h;refine .block (.bU (fun(s:Nat)=>[(0,ao a1),(3,ao s)]) (fun(s:Nat)=>[]) hl11 (.of rfl) trivial rfl rfl ?_);rintro v9 st12 hb13;have h:iS a1 v9=some st12:=hb13;unfold iS at h
  try dsimp only
  refine .block ?_;obtain⟨⟨v14,v15⟩,e16,h⟩:=bind_some h;refine .al (.mv rfl<|.mv rfl<|.ag (rT e16) ⟨rfl,rfl,trivial⟩ trivial trivial<|.mv rfl<|.ext rfl rfl<|.ext rfl rfl<|.aq rfl<|.aq rfl<|.nil) rfl ?_;obtain⟨v17,e18,h⟩:=bind_some h;obtain⟨v19,e20,h⟩:=bind_some h;refine .al (.mv rfl<|.mv rfl<|.ag (AR e18) ⟨rfl,rfl,trivial⟩ trivial trivial<|.ag (I4 e20) ⟨rfl,rfl,trivial⟩ trivial trivial<|.aq rfl<|.nil) rfl ?_;refine .sq ?_;obtain⟨v21,e22,h⟩:=bind_some h;refine .al (.mv rfl<|.mv rfl<|.ag (Bm e22) ⟨rfl,rfl,trivial⟩ trivial trivial<|.cm rfl rfl rfl<|.nil) rfl ?_;by_cases c23:(decide (v21>=0))=true
  ·replace h:=ab c23 h;refine .cl rfl c23 ?_;refine .al (.mv rfl<|.aq rfl<|.nil) rfl ?_;refine .aO (Hi:=[]) (Ho:=[]) (b:=b) (fn:=Go.Proofs.Tryz.f170) (d:=ao v9) (fun _ _ hb=>by exact⟨_,(sj h),fun e=>by subst e;have h:=ho1;cases h;exact hb⟩) rfl (.t1 (.tmp rfl)) (.refl _) trivial trivial
  ·replace h:=aa c23 h;refine .cq rfl c23 ?_;refine .skip (Ok.on ?_);refine .region (.mv rfl<|.aq rfl<|.nil) rfl (fun _ _ hs=>⟨v19,(sj h),hs.sub (.of rfl) trivial rfl rfl⟩)
def fi(v2:Int)(v3:Int)(v4:List Int):Option (St (Int×Int×(List Int)) (List Int)):=(if(decide (v2<v3))=true then(ix v4 v3).bind fun v10=>(ix v4 v2).bind fun v12=>(ix (v4.set v2.toNat v10) v3).bind fun v14=>some (St.next ((IntKind.i64.wrap (v2+1)),(IntKind.i64.wrap (v3-1)),((v4.set v2.toNat v10).set v3.toNat v12)))else some (St.done v4))
def gR(a1:List Int):Option (List Int):=(Loop (fun(s:Int×Int×(List Int))=>fi s.1 s.2.1 s.2.2) (0,(IntKind.i64.wrap ((a1.length:Int)-1)),a1)).bind fun v16=>some v16
theorem sx{a1:List Int}{r17:List Int}(h:gR a1=some r17):bf PP 230 [(0,aY (ak.int .u8) 5 a1)] [D.own 0] [(0,aY (ak.int .u8) 5 r17)] (D.ig []):=by
 unfold gR at h;refine .of Go.Proofs.Tryz.func230 rfl (by kernel_rfl) rfl rfl rfl rfl rfl rfl (fun A w0 L b=>?_);show Ok PP _ [(0,D.own 0),(1000000,D.pinned 0 (b 0))] [(0,aY (ak.int .u8) 5 a1)] _ _;refine .sl 0 rfl rfl rfl ?_;refine .al (.mv rfl<|.uW rfl Ci<|.ar rfl rfl rfl<|.aq rfl<|.aq rfl<|.nil) rfl ?_;obtain⟨o5,hl6,h⟩:=bind_some h;have ho1:=h;refine .block (.bU (fun(s:Int×Int×(List Int))=>[(0,D.own 0),(2,D.int .i64 s.1),(3,D.int .i64 s.2.1),(1000000,D.pinned 0 (b 0))]) (fun(s:Int×Int×(List Int))=>[(0,aY (ak.int .u8) 5 s.2.2)]) hl6 (.p rfl .sl<|.k rfl<|.k rfl<|.k rfl<|trivial) (.of rfl) rfl rfl ?_);rintro⟨v2,v3,v4⟩ st7 hb8;have h:fi v2 v3 v4=some st7:=hb8;unfold fi at h
 try dsimp only
 refine .sq ?_;refine .al (.mv rfl<|.mv rfl<|.cm rfl rfl rfl<|.nil) rfl ?_;by_cases c9:(decide (v2<v3))=true
 ·replace h:=ab c9 h;refine .cl rfl c9 ?_;refine .skip (Ok.on ?_);refine .sq ?_;refine .block ?_;refine .sl 0 rfl rfl rfl ?_;obtain⟨v10,e11,h⟩:=bind_some h;obtain⟨v12,e13,h⟩:=bind_some h;obtain⟨v14,e15,h⟩:=bind_some h;refine .c_ cf (.mv rfl<|.mv rfl<|.mv rfl<|.mv rfl<|.mv rfl<|.mv rfl<|.ic rfl rfl oW (af e11).1 (by have:=dE e11;simpa using this)<|.JL rfl rfl nY rfl (af e11).2 rfl<|.mv rfl<|.mv rfl<|.ic rfl rfl oW (af e13).1 (by have:=dE e13;simpa using this)<|.JL rfl rfl nY rfl (af e13).2 rfl<|.ic rfl rfl oW (af e13).1 (by have:=dE e13;simpa using this)<|.FU v10 rfl rfl rfl nY rfl rfl rfl rfl (bn e13)<|.ic rfl rfl oW (af e15).1 (by have:=dE e15;simpa using this)<|.FU v12 rfl rfl rfl nY rfl rfl rfl rfl (bn e15)<|.nil) rfl (by kernel_rfl) (Ok.on ?_);refine .region (.mv rfl<|.ar rfl rfl rfl<|.mv rfl<|.ar rfl rfl rfl<|.aq rfl<|.aq rfl<|.nil) rfl (fun _ _ hs=>⟨((IntKind.i64.wrap (v2+1)),(IntKind.i64.wrap (v3-1)),((v4.set v2.toNat v10).set v3.toNat v12)),(sj h),hs.sub (.p rfl .sl<|.k rfl<|.k rfl<|.k rfl<|trivial) (.of rfl) rfl rfl⟩)
 ·replace h:=aa c9 h;refine .cq rfl c9 ?_;refine .exit (fun a w hs=>⟨_,(sj h),fun e=>by subst e;have h:=ho1;cases h;exact aS (hs.IW rfl .nil (.refl _) (.of rfl) (.of rfl))⟩)
def fb(v10:Nat)(v17:Int)(v18:Int)(v19:List Int):Option (St (Int×Int×(List Int)) (List Int)):=((if(decide (v18<9))=true then(if(decide (((aL v10).length:Int)>0))=true then some (Ex.cd ())else(if(decide (v17>0))=true then some (Ex.cd ())else some (Ex.ret ())))else some (Ex.ret ()))).bind fun o24=>(match o24 with|Ex.cd ()=>cj ((v19.length+([(IntKind.u8.wrap (IntKind.u64.wrap (48+(Int.tmod v17 10))))]).length)*1<=140737488355328/\v19.length+([(IntKind.u8.wrap (IntKind.u64.wrap (48+(Int.tmod v17 10))))]).length<=9223372036854775807) (some (St.next ((IntKind.u64.wrap (Int.tdiv v17 10)),(IntKind.i64.wrap (v18+1)),(v19++[(IntKind.u8.wrap (IntKind.u64.wrap (48+(Int.tmod v17 10))))]))))|Ex.ret ()=>some (St.done v19))
def fc(v3:Nat)(v4:List Int):Option (St (Nat×(List Int)) (List Int)):=(if(decide (((aL v3).length:Int)>0))=true then(wT v3 1000000000).bind fun(v10,v11)=>(nh v11).bind fun v13=>((Loop (fun(s:Int×Int×(List Int))=>fb v10 s.1 s.2.1 s.2.2) (v13,0,v4)).bind fun v30=>some (v30)).bind fun v31=>some (St.next (v10,v31))else some (St.done v4))
def kb(a1:Nat):Option (List UInt8):=(if(((aL a1).length:Int)==0)=true then some ([48]:List UInt8)else(Loop (fun(s:Nat×(List Int))=>fc s.1 s.2) (a1,[])).bind fun v32=>(gR v32).bind fun v33=>some (bytesOf v33))
theorem u9{a1:Nat}{r35:List UInt8}(h:kb a1=some r35):bf PP 176 [] [ao a1] [] (cu r35):=by
 unfold kb at h;refine .of Go.Proofs.Tryz.func176 rfl (by kernel_rfl) rfl rfl rfl rfl rfl rfl (fun A w0 L b=>?_);show Ok PP _ [(0,ao a1)] [] _ _;refine .al (.aq rfl<|.nil) rfl ?_;refine .sq ?_;refine .al (.mv rfl<|.y_ rfl aw<|.cm rfl rfl rfl<|.nil) rfl ?_;by_cases c2:(((aL a1).length:Int)==0)=true
 ·replace h:=ab c2 h;refine .cl rfl c2 ?_;refine .al (.aq rfl<|.nil) rfl ?_;cases h;refine .aO (fun _ _ hb=>hb) rfl (.t1 (.tmp rfl)) (.refl _) trivial trivial
 ·replace h:=aa c2 h;refine .cq rfl c2 ?_;refine .skip (Ok.on ?_);refine .al (.aq rfl<|.nil) rfl ?_;refine .jF (ak.int .u8) 3 2000003 5 rfl rfl ?_;obtain⟨v32,hl6,h⟩:=bind_some h;refine .cc (fun i=>v32=i) (fun(i:(List Int))=>[(3,D.own 2000003)]) (fun(i:(List Int))=>[(2000003,aY (ak.int .u8) 5 i)]) ?_ ?_
  ·have ho1:=h;refine .block (.bU (fun(s:Nat×(List Int))=>[(0,ao s.1),(3,D.own 2000003)]) (fun(s:Nat×(List Int))=>[(2000003,aY (ak.int .u8) 5 s.2)]) hl6 (.of rfl) (.of rfl) rfl rfl ?_);rintro⟨v3,v4⟩ st7 hb8;have h:fc v3 v4=some st7:=hb8;unfold fc at h
   try dsimp only
   refine .sq ?_;refine .al (.mv rfl<|.y_ rfl aw<|.cm rfl rfl rfl<|.nil) rfl ?_;by_cases c9:(decide (((aL v3).length:Int)>0))=true
   ·replace h:=ab c9 h;refine .cl rfl c9 ?_;refine .skip (Ok.on ?_);refine .block ?_;obtain⟨⟨v10,v11⟩,e12,h⟩:=bind_some h;refine .al (.mv rfl<|.ag (GB e12) ⟨rfl,rfl,trivial⟩ trivial trivial<|.mv rfl<|.ext rfl rfl<|.ext rfl rfl<|.aq rfl<|.aq rfl<|.nil) rfl ?_;obtain⟨v13,e14,h⟩:=bind_some h;refine .al (.mv rfl<|.ag (wV e14) ⟨rfl,trivial⟩ trivial trivial<|.aq rfl<|.nil) rfl ?_;obtain⟨v31,hp16,h⟩:=bind_some h;refine .cc (fun i=>v31=i) (fun(i:(List Int))=>[(3,D.own 2000003),(4,ao v10)]) (fun(i:(List Int))=>[(2000003,aY (ak.int .u8) 5 i)]) ?_ ?_
    ·have ho2:=h;have h:=hp16;refine .al (.aq rfl<|.nil) rfl ?_;obtain⟨o20,hl21,h⟩:=bind_some h;have ho3:=h;refine .block (.bU (fun(s:Int×Int×(List Int))=>[(3,D.own 2000003),(4,ao v10),(6,D.int .u64 s.1),(7,D.int .i64 s.2.1)]) (fun(s:Int×Int×(List Int))=>[(2000003,aY (ak.int .u8) 5 s.2.2)]) hl21 (.of rfl) (.of rfl) rfl rfl ?_);rintro⟨v17,v18,v19⟩ st22 hb23;have h:fb v10 v17 v18 v19=some st22:=hb23;unfold fb at h
     try dsimp only
     obtain⟨o24,hp25,h⟩:=bind_some h;refine .cc (fun i=>o24=Ex.cd i) (fun(i:Unit)=>[(3,D.own 2000003),(4,ao v10),(6,D.int .u64 v17),(7,D.int .i64 v18)]) (fun(i:Unit)=>[(2000003,aY (ak.int .u8) 5 v19)]) ?_ ?_
     ·have ho4:=h;have h:=hp25;by_cases c26:(decide (v18<9))=true
      ·replace h:=ab c26 h;by_cases c27:(decide (((aL v10).length:Int)>0))=true
       ·replace h:=ab c27 h;refine .al (.mv rfl<|.cm rfl rfl rfl<|.mv rfl<|.gy c26<|.mv rfl<|.gy c26<|.y_ rfl aw<|.gy c26<|.cm rfl rfl rfl<|.gy c26<|.mv rfl<|.gk c27<|.gk c27<|.gy c26<|.aX rfl c27 rfl<|.aX rfl c26 rfl<|.nil) rfl ?_;refine .cl rfl rfl ?_;refine .skip (fun _ _ hs=>⟨(),(sj h),hs.sub (.of rfl) (.of rfl) rfl rfl⟩)
       ·replace h:=aa c27 h;refine .al (.mv rfl<|.cm rfl rfl rfl<|.mv rfl<|.gy c26<|.mv rfl<|.gy c26<|.y_ rfl aw<|.gy c26<|.cm rfl rfl rfl<|.gy c26<|.mv rfl<|.gz c27<|.mv rfl<|.gz c27<|.cm rfl rfl rfl<|.gy c26<|.aT rfl c27 rfl<|.aX rfl c26 rfl<|.nil) rfl ?_;by_cases c28:(decide (v17>0))=true
        ·replace h:=ab c28 h;refine .cl rfl c28 ?_;refine .skip (fun _ _ hs=>⟨(),(sj h),hs.sub (.of rfl) (.of rfl) rfl rfl⟩)
        ·replace h:=aa c28 h;refine .cq rfl c28 ?_;cases h;have h:=ho4;refine .exit (fun a w hs=>⟨_,(sj h),fun e=>by subst e;have h:=ho3;exact aS (⟨v19,(sj h),hs.sub (.of rfl) (.of rfl) rfl rfl⟩)⟩)
      ·replace h:=aa c26 h;refine .al (.mv rfl<|.cm rfl rfl rfl<|.mv rfl<|.gm c26<|.gm c26<|.gm c26<|.gm c26<|.gu<|.gu<|.gm c26<|.aT rfl c26 rfl<|.nil) rfl ?_;refine .cq rfl (by decide) ?_;cases h;have h:=ho4;refine .exit (fun a w hs=>⟨_,(sj h),fun e=>by subst e;have h:=ho3;exact aS (⟨v19,(sj h),hs.sub (.of rfl) (.of rfl) rfl rfl⟩)⟩)
     ·rintro⟨⟩ rfl
      try dsimp only
      refine .sq ?_;refine .block ?_;refine .sl 3 rfl rfl rfl ?_;obtain⟨k29,h⟩:=av h;refine .al (.mv rfl<|.mv rfl<|.ar rfl rfl (tN (by decide))<|.ar rfl rfl rfl<|.cv rfl sC rfl<|.Cx (e:=(ak.int .u8)) [(IntKind.u8.wrap (IntKind.u64.wrap (48+(Int.tmod v17 10))))] [(0,_,D.int .u8 (IntKind.u8.wrap (IntKind.u64.wrap (48+(Int.tmod v17 10)))),[D.int .u8 (IntKind.u8.wrap (IntKind.u64.wrap (48+(Int.tmod v17 10))))])] vL rfl rfl rfl ⟨rfl,rfl,.one rfl,rfl,trivial⟩ ⟨rfl,trivial⟩ rfl rfl<|.Cg (ys:=[(IntKind.u8.wrap (IntKind.u64.wrap (48+(Int.tmod v17 10))))]) rfl .sl rfl (.refl _) rfl vL rfl k29.1 k29.2 rfl<|.aq rfl<|.nil) rfl ?_;refine .region (.mv rfl<|.ar rfl rfl (yf (by decide))<|.aq rfl<|.nil) rfl (Ok.on ?_);refine .region (.mv rfl<|.ar rfl rfl rfl<|.aq rfl<|.nil) rfl (fun _ _ hs=>⟨((IntKind.u64.wrap (Int.tdiv v17 10)),(IntKind.i64.wrap (v18+1)),(v19++[(IntKind.u8.wrap (IntKind.u64.wrap (48+(Int.tmod v17 10))))])),(sj h),hs.kz (fun r=>match r with|2000003=>40|r=>r) (.p rfl (.own (r:=2000003))<|.r rfl rfl<|.r rfl rfl<|.r rfl rfl<|trivial) (.r rfl rfl trivial) rfl rfl rfl⟩)
    ·rintro _ rfl
     try dsimp only
     refine .region (.mv rfl<|.aq rfl<|.nil) rfl (fun _ _ hs=>⟨(v10,v31),(sj h),hs.sub (.of rfl) (.of rfl) rfl rfl⟩)
   ·replace h:=aa c9 h;refine .cq rfl c9 ?_;refine .exit (fun _ _ hs=>⟨_,(sj h),fun e=>⟨v4,e.symm,hs.sub (.of rfl) (.of rfl) rfl rfl⟩⟩)
  ·rintro _ rfl
   try dsimp only
   refine .sl 3 rfl rfl rfl ?_;obtain⟨v33,e34,h⟩:=bind_some h;refine .al (.mv rfl<|.ag (Hi:=[(2000003,aY (ak.int .u8) 5 v32)]) (Ho:=[(2000003,aY (ak.int .u8) 5 v33)]) (d:=D.ig []) (ds:=[D.sl 2000003 v32.length]) (.zu (sx e34) (fun r=>match r with|0=>2000003|r=>r) (fun r=>match r with|2000003=>0|r=>r) rfl (.r rfl rfl trivial) rfl ⟨.Gi (r:=0),trivial⟩ (.r rfl rfl trivial) rfl (.refl rfl) rfl rfl rfl rfl rfl) ⟨rfl,trivial⟩ ⟨rfl,trivial⟩ trivial<|.nil) rfl ?_;refine .sQ 3 (.own 2000003) rfl .sl ?_;refine .mD 3 rfl rfl rfl ?_;refine .al (.mv rfl<|.KT rfl (by kernel_rfl)<|.aq rfl<|.nil) rfl ?_;cases h;refine .aO (fun _ _ hb=>hb) rfl (.t1 (.tmp rfl)) (.refl _) trivial trivial
end
end Go.Am
namespace Go.Am
open Go.RowKit
theorem mo{x:Nat}:(aL x).length=0↔x=0:=by
 constructor
 ·intro h;apply Classical.byContradiction;intro h0;have:=dn h0;omega
 ·rintro rfl;rw[dA];rfl
theorem jE{x:Nat}:(aL x).length<=2↔x<18446744073709551616:=by
 constructor
 ·intro h;have h1:=mi (x:=x);have h2:(4294967296:Nat)^(aL x).length<=4294967296^2:=Nat.pow_le_pow_right (by omega) h;have:(4294967296:Nat)^2=18446744073709551616:=by decide
  omega
 ·exact fun h=>fw (n:=2) h
theorem dI{x y:Nat}(h:x<=y):bN x<=bN y:=by
 apply eL;exact Nat.lt_of_le_of_lt h (m5 y)
theorem nu{x y:Nat}(h:x<=y)(hy:sm y):sm x:=Nat.le_trans (dI h) hy
theorem pI{x n:Nat}(h:bN x<=n):x<2^n:=Nat.lt_of_lt_of_le (m5 x) (Nat.pow_le_pow_right (by omega) h)
theorem jC{x:Nat}(h:x<18446744073709551616):sm x:=by
 have:bN x<=64:=eL (n:=64) h;unfold sm;omega
theorem cC{α:Type}{p:Prop}[Decidable p]{x y:Option α}(hp:p)(h:x=y):cj p x=y:=by rw[aQ hp,h]
theorem kW{n:Nat}(h:n<18446744073709551616):m_ (n:Int)=some n:=cC ⟨by omega,by omega⟩ rfl
theorem pr{x:Nat}(h:x<18446744073709551616):nh x=some (x:Int):=cC (jE.2 h) rfl
theorem qi{a b:Nat}(h:sm a)(k:sm b):wo a b=some (a+b):=cC ⟨h,k⟩ rfl
theorem uo{a b:Nat}(h:b<=a)(k:sm a):yx a b=some (a-b):=cC ⟨h,k⟩ rfl
theorem lV{a b:Nat}(h:sm a)(k:sm b):qN a b=some (a*b):=cC ⟨h,k⟩ rfl
theorem qd{a b:Nat}(h:sm a)(k:sm b):vy a b=some (fI a b):=cC ⟨h,k⟩ rfl
theorem B1{a:Nat}(h:sm a):An a=some (bN a:Int):=cC h rfl
theorem jJ{a b:Nat}(hb:b≠0)(h:sm a)(k:sm b):lT a b=some (a/b,a%b):=cC ⟨hb,h,k⟩ rfl
theorem vT(x y:Nat):Loop (fun(s:Int×Int)=>gA s.1 s.2) ((x:Int),(y:Int))=some ((Nat.gcd x y:Nat):Int):=by
 obtain⟨r,hr,rfl⟩:=cx (body:=fun(s:Int×Int)=>gA s.1 s.2) ((x:Int),(y:Int)) (fun s=>∃a b:Nat,s=((a:Int),(b:Int))/\Nat.gcd a b=Nat.gcd x y) (fun s=>s.2.toNat) (fun r=>r=((Nat.gcd x y:Nat):Int)) ⟨x,y,rfl,rfl⟩ (by
  rintro s ⟨a,b,rfl,hg⟩;simp only[gA];by_cases hb:b=0
  ·right
   subst hb;rw[Nat.gcd_zero_right]at hg;exact⟨(a:Int),by simp,by rw[hg]⟩
  ·left
   refine⟨((b:Int),((a%b:Nat):Int)),?_,⟨b,a%b,rfl,?_⟩,?_⟩
   ·have h1:((b:Int) !=0)=true:=by simp;omega
    rw[if_pos h1];exact cC (by omega) rfl
   ·rw[←hg,Nat.gcd_comm a b,Nat.gcd_rec b a,Nat.gcd_comm]
   ·simp only[Int.toNat_natCast];exact Nat.mod_lt _ (by omega))
 exact hr
def EP(a b:Nat):Option Nat:=cj (sm a/\sm b) (some (Nat.gcd a b))
theorem DA{a b:Nat}(h:sm a)(k:sm b):EP a b=some (Nat.gcd a b):=cC ⟨h,k⟩ rfl
theorem zK{a:Nat}:dS a 0=some (.done (Ex.cd a)):=by simp[dS,dA]
theorem yu{a b:Nat}(h0:b≠0)(ha:(aL a).length<=2)(hb:(aL b).length<=2)(e1:nh a=some (a:Int))(e2:nh b=some (b:Int))(e3:m_ ((Nat.gcd a b:Nat):Int)=some (Nat.gcd a b)):dS a b=some (.done (Ex.ret (Nat.gcd a b))):=by
 have hl:(decide (((aL b).length:Int)>0))=true:=by have:=dn h0;simp;omega
 have h3:(decide (((aL a).length:Int)<=2))=true:=by simp;omega
 have h4:(decide (((aL b).length:Int)<=2))=true:=by simp;omega
 unfold dS;rw[if_pos hl,if_pos h3,if_pos h4,e1,e2,Option.bind_some,Option.bind_some,vT,Option.bind_some,e3]
 rfl
theorem zj{a b:Nat}(h0:b≠0)(ha:a<18446744073709551616)(hb:b<18446744073709551616):dS a b=some (.done (Ex.ret (Nat.gcd a b))):=
 yu h0 (jE.2 ha) (jE.2 hb) (pr ha) (pr hb) (kW (Nat.lt_of_le_of_lt (Nat.gcd_le_right _ (Nat.pos_of_ne_zero h0)) hb))
theorem Ah{a b:Nat}(h0:b≠0)(hab:¬(a<18446744073709551616/\b<18446744073709551616))(ha:sm a)(hb:sm b):dS a b=some (.next (b,a%b)):=by
 have hl:(decide (((aL b).length:Int)>0))=true:=by have:=dn h0;simp;omega
 unfold dS;rw[if_pos hl];by_cases h3:(aL a).length<=2
 ·have h4:¬(aL b).length<=2:=fun h=>hab ⟨jE.1 h3,jE.1 h⟩;rw[if_pos (by simp;omega),if_neg (by simp;omega)];simp only[Option.bind_some,jJ h0 ha hb]
 ·rw[if_neg (by simp;omega)];simp only[Option.bind_some,jJ h0 ha hb]
theorem HI(x y:Nat)(hx:sm x)(hy:sm y):oQ x y=some (Nat.gcd x y):=by
 obtain⟨r,hr,hq⟩:=cx (body:=fun(s:Nat×Nat)=>dS s.1 s.2) (x,y) (fun s=>sm s.1/\sm s.2/\Nat.gcd s.1 s.2=Nat.gcd x y) (fun s=>s.2) (fun r=>r=Ex.cd (Nat.gcd x y)\/r=Ex.ret (Nat.gcd x y)) ⟨hx,hy,rfl⟩ (by
  rintro⟨a,b⟩ ⟨ha,hb,hg⟩;simp only at ha hb hg|-;by_cases h0:b=0
  ·right
   subst h0;rw[Nat.gcd_zero_right]at hg;exact⟨_,zK,.inl (by rw[hg])⟩
  by_cases h2:a<18446744073709551616/\b<18446744073709551616
  ·right
   exact⟨_,zj h0 h2.1 h2.2,.inr (by rw[hg])⟩
  ·left
   exact⟨_,Ah h0 h2 ha hb,⟨hb,nu (Nat.le_of_lt (Nat.mod_lt _ (Nat.pos_of_ne_zero h0))) hb,by rw[←hg,Nat.gcd_comm a b,Nat.gcd_rec b a,Nat.gcd_comm]⟩,Nat.mod_lt _ (Nat.pos_of_ne_zero h0)⟩)
 unfold oQ;rw[hr];rcases hq with rfl|rfl<;>rfl
theorem Jh{a b r:Nat}(h:EP a b=some r):bf PP 214 [] [ao a,ao b] [] (ao r):=by
 obtain⟨⟨h0,h1⟩,h⟩:=av h;injection h with h;subst h;exact B3 (HI a b h0 h1)
def eU:Nat->Nat
 |0=>0
 |x+1=>if(eU x+1)*(eU x+1)<=x+1 then eU x+1 else eU x
theorem qV:∀x,eU x*eU x<=x
 |0=>by simp[eU]
 |x+1=>by
  have:=qV x;simp only[eU]
  split
  ·assumption
  ·omega
theorem tq:∀x,x<(eU x+1)*(eU x+1)
 |0=>by simp[eU]
 |x+1=>by
  have h:=tq x;simp only[eU]
  split
  ·have h2:(eU x+1+1)*(eU x+1+1)=(eU x+1)*(eU x+1)+2*(eU x+1)+1:=by
    rw[Nat.add_mul,Nat.mul_add];omega
   omega
  ·omega
theorem Dv{x n:Nat}(h:n*n<=x):n<=eU x:=by
 apply Nat.le_of_lt_succ;apply Classical.byContradiction;intro hc;have h1:=Nat.mul_le_mul (Nat.le_of_not_lt hc) (Nat.le_of_not_lt hc);have:=tq x;simp only[Nat.succ_eq_add_one]at h1;omega
theorem BI{a x s:Nat}(hx:0<x)(hs:s*s<=a):s<=(x+a/x)/2:=by
 rw[Nat.le_div_iff_mul_le (by omega)];rcases Nat.lt_or_ge (2*s) x with h|h
 ·generalize a/x=q;omega
 ·have h1:2*s-x<=a/x:=by
   rw[Nat.le_div_iff_mul_le hx];refine Nat.le_trans ?_ hs;have h2:(2*s-x)*x+x*x=2*s*x:=by rw[←Nat.add_mul,Nat.sub_add_cancel h]
   have h3:2*s*x<=s*s+x*x:=by
    rcases Nat.le_total s x with h|h
    ·obtain⟨d,rfl⟩:=Nat.exists_eq_add_of_le h;rw[Nat.mul_add,Nat.add_mul,Nat.mul_add s,Nat.mul_add d];have:2*s*s=s*s+s*s:=by rw[Nat.mul_assoc];omega
     have:2*s*d=s*d+s*d:=by rw[Nat.mul_assoc];omega
     have:d*s=s*d:=Nat.mul_comm _ _;omega
    ·obtain⟨d,rfl⟩:=Nat.exists_eq_add_of_le h;have e1:2*(x+d)*x=x*x+x*x+(d*x+d*x):=by
      rw[Nat.mul_assoc,Nat.add_mul];omega
     have e2:(x+d)*(x+d)=x*x+x*d+(d*x+d*d):=by rw[Nat.add_mul,Nat.mul_add,Nat.mul_add]
     have e3:x*d=d*x:=Nat.mul_comm _ _;omega
   omega
  generalize a/x=q at h1|-;omega
theorem ir{x n:Nat}:bN x<=n↔x<2^n:=⟨pI,eL⟩
theorem qu{x y n:Nat}(h:bN x<=n)(k:bN y<=n):bN (x+y)<=n+1:=by
 rw[ir]at*;rw[Nat.pow_succ];omega
theorem tR{a n:Nat}(h:a<n):bN (2^a)<=n:=ir.2 (Nat.pow_lt_pow_right (by omega) h)
def za(a:Nat):Option Nat:=cj (bN a<=2199023255552) (some (eU a))
theorem wrap_small{n:Int}(h0:-9223372036854775808<=n)(h1:n<9223372036854775808):IntKind.i64.wrap n=n:=by rw[IntKind.wrap_i64];omega
theorem Eu{a k:Nat}(h:sm a)(hk:k<35184372088832):A8 a (k:Int)=some (a/2^k):=cC ⟨h,by omega,by omega⟩ (by rw[Int.toNat_natCast])
theorem uu{a k:Nat}(h:sm a)(hk:k<35184372088832):wq a (k:Int)=some (a*2^k):=cC ⟨h,by omega,by omega⟩ (by rw[Int.toNat_natCast])
theorem qz{x y:Nat}(h:y<=x):fI x y>=0:=by unfold fI;rw[if_neg (by omega)];split<;>omega
theorem Gw(a:Nat)(h:bN a<=2199023255552):m7 a=some (eU a):=by
 unfold m7;by_cases h0:a=0
 ·subst h0;simp[dA,eU]
 have hl:=dn h0;have hsa:sm a:=Nat.le_trans h (by omega);have hl2:¬(((aL a).length:Int)==0)=true:=by
  rw[beq_iff_eq];omega
 rw[if_neg hl2];have e1:m_ (1:Int)=some 1:=kW (n:=1) (by omega);rw[e1,B1 hsa];simp only[Option.bind_some];have ew:IntKind.i64.wrap (Int.tdiv (IntKind.i64.wrap ((bN a:Int)+1)) 2)=(((bN a+1)/2:Nat):Int):=by
  rw[wrap_small (n:=(bN a:Int)+1) (by omega) (by omega),Int.tdiv_eq_ediv_of_nonneg (by omega),wrap_small (by omega) (by omega)];omega
 rw[ew,uu (jC (by omega)) (by omega),Nat.one_mul];simp only[Option.bind_some];have hp0:0<2^((bN a+1)/2):=Nat.two_pow_pos _;have hs0:eU a<=2^((bN a+1)/2):=by
  apply Classical.byContradiction;intro hc;have h1:=Nat.mul_le_mul (Nat.le_of_lt (Nat.lt_of_not_le hc)) (Nat.le_of_lt (Nat.lt_of_not_le hc));have h2:=qV a;have h3:=m5 a;rw[←Nat.pow_add]at h1;have h4:(2:Nat)^bN a<=2^((bN a+1)/2+(bN a+1)/2):=Nat.pow_le_pow_right (by omega) (by omega);omega
 have hb0:bN (2^((bN a+1)/2))<=1099511627778:=tR (by omega);generalize 2^((bN a+1)/2)=x0 at*;obtain⟨r,hr,rfl⟩:=cx (body:=fun s=>iS a s) x0 (fun x=>0<x/\eU a<=x/\bN x<=1099511627778) id (fun r=>r=eU a) ⟨hp0,hs0,hb0⟩ (by
  intro x ⟨hx,hsx,hbx⟩;have hsx':sm x:=Nat.le_trans hbx (by omega);have hbd:bN (a/x)<=2199023255552:=Nat.le_trans (dI (Nat.div_le_self _ _)) h;have hsd:sm (a/x):=Nat.le_trans hbd (by omega);have hsum:sm (x+a/x):=by
   exact Nat.le_trans (qu (Nat.le_trans hbx (by omega)) hbd) (by omega)
  have hge:=BI (a:=a) hx (qV a);have hy:sm ((x+a/x)/2):=nu (Nat.div_le_self _ _) hsum;unfold iS;rw[jJ (by omega) hsa hsx'];simp only[Option.bind_some];rw[qi hsx' hsd];simp only[Option.bind_some];have e2:A8 (x+a/x) 1=some ((x+a/x)/2):=Eu (k:=1) hsum (by omega);rw[e2];simp only[Option.bind_some];rw[qd hy hsx'];simp only[Option.bind_some];by_cases hc:x<=(x+a/x)/2
  ·right
   refine⟨x,?_,?_⟩
   ·rw[if_pos (decide_eq_true (qz hc))]
   ·have h1:x<=a/x:=by omega
    rw[Nat.le_div_iff_mul_le hx]at h1;exact Nat.le_antisymm (Dv h1) hsx
  ·left
   refine⟨(x+a/x)/2,?_,⟨?_,hge,?_⟩,by simp only[id];omega⟩
   ·rw[if_neg];have:fI ((x+a/x)/2) x=-1:=by unfold fI;rw[if_pos (by omega)]
    rw[this];decide
   ·apply Nat.pos_of_ne_zero;intro e;have h1:eU a=0:=by omega
    have h2:=tq a;rw[h1]at h2;omega
   ·exact Nat.le_trans (dI (by omega)) hbx)
 rw[hr];rfl
theorem Hu{a r:Nat}(h:za a=some r):bf PP 170 [] [ao a] [] (ao r):=by
 obtain⟨h0,h⟩:=av h;injection h with h;subst h;exact zB (Gw a h0)
theorem fU{α:Type}{xs:List α}{n:Nat}(h:n<xs.length):ix xs (n:Int)=some xs[n]:=by
 unfold ix;rw[if_pos (by omega),Int.toNat_natCast,List.getElem?_eq_getElem h]
theorem xf{α:Type}{xs:List α}{i:Int}(n:Nat)(hi:i=(n:Int))(h:n<xs.length):ix xs i=some xs[n]:=by rw[hi,fU h]
theorem Ag(a:List Int)(hl:a.length<=4398046511110):gR a=some a.reverse:=by
 unfold gR;have e0:IntKind.i64.wrap ((a.length:Int)-1)=(a.length:Int)-1:=wrap_small (by omega) (by omega);rw[e0];obtain⟨r,hr,rfl⟩:=cx (body:=fun(s:Int×Int×(List Int))=>fi s.1 s.2.1 s.2.2) (0,((a.length:Int)-1),a)
  (fun s=>∃k:Nat,s.1=(k:Int)/\s.2.1=(a.length:Int)-1-k/\k<=a.length/\s.2.2.length=a.length/\(2*k<=a.length+1)/\∀n (h:n<a.length),s.2.2[n]?=if n<k\/a.length-1-k<n then a[a.length-1-n]?else a[n]?)
  (fun s=>(s.2.1+1).toNat) (fun r=>r=a.reverse)
  ⟨0,rfl,by simp,by omega,rfl,by omega,fun n h=>by rw[if_neg (by omega)]⟩ (by
   rintro⟨i,j,xs⟩ ⟨k,hi,hj,hk,hlen,hk2,hx⟩;simp only at hi hj hlen hx|-;unfold fi;by_cases hlt:i<j
   ·left
    have h1:k<a.length-1-k:=by omega
    have hj':j=((a.length-1-k:Nat):Int):=by omega
    rw[if_pos (decide_eq_true hlt),xf (a.length-1-k) hj' (by omega),Option.bind_some,xf k hi (by omega),Option.bind_some];rw[xf (a.length-1-k) hj' (by rw[List.length_set];omega),Option.bind_some];refine⟨_,rfl,⟨k+1,?_,?_,by omega,by simp[hlen],by omega,?_⟩,by simp only;rw[wrap_small (by omega) (by omega)];omega⟩
    ·simp only;rw[wrap_small (by omega) (by omega)];omega
    ·simp only;rw[wrap_small (by omega) (by omega)];omega
    ·intro n hn;simp only;rw[show j.toNat=a.length-1-k from by omega,show i.toNat=k from by omega];have ek:=hx k (by omega);have ej:=hx (a.length-1-k) (by omega);rw[if_neg (by omega)]at ek ej;rw[List.getElem?_eq_getElem (by omega)]at ek ej;by_cases c1:n=a.length-1-k
     ·subst c1;rw[List.getElem?_set_self (by rw[List.length_set];omega),if_pos (by omega),ek];rw[show a.length-1-(a.length-1-k)=k from by omega]
     ·rw[List.getElem?_set_ne (by omega)];by_cases c2:n=k
      ·subst c2;rw[List.getElem?_set_self (by omega),if_pos (by omega),ej]
      ·rw[List.getElem?_set_ne (by omega),hx n hn];by_cases c3:n<k\/a.length-1-k<n
       ·rw[if_pos c3,if_pos (by omega)]
       ·rw[if_neg c3,if_neg (by omega)]
   ·right
    rw[if_neg (by simpa using hlt)];refine⟨xs,rfl,?_⟩;apply List.ext_getElem?;intro n;by_cases hn:n<a.length
    ·rw[hx n hn,List.getElem?_reverse hn]
     split
     ·rfl
     ·rw[show a.length-1-n=n from by omega]
    ·rw[List.getElem?_eq_none (by omega),List.getElem?_eq_none (by simp;omega)])
 rw[hr];rfl
def dR(x:Nat):List Int:=if h:x=0 then []else((48+x%10:Nat):Int)::dR (x/10)
termination_by x
decreasing_by exact Nat.div_lt_self (Nat.pos_of_ne_zero h) (by decide)
theorem j7:dR 0=[]:=by rw[dR];rfl
theorem nU{x:Nat}(h:x≠0):dR x=((48+x%10:Nat):Int)::dR (x/10):=by rw[dR,dif_neg h]
theorem Ai:∀(n x:Nat),x<2^n->(dR x).length<=n
 |0,x,h=>by
  have:x=0:=by simp at h;exact h
  subst this;rw[j7];exact Nat.le_refl _
 |n+1,x,h=>by
  by_cases h0:x=0
  ·subst h0;rw[j7];exact Nat.zero_le _
  ·rw[nU h0,List.length_cons];have:=Ai n (x/10) (by rw[Nat.pow_succ]at h;omega);omega
def iN(x:Nat):List UInt8:=if x=0 then [48]else bytesOf (dR x).reverse
def AI(a:Nat):Option (List UInt8):=cj (sm a) (some (iN a))
theorem CC(n:Int)(h:0<=n/\n<=255):IntKind.u8.wrap n=n:=by rw[IntKind.wrap_u8];omega
theorem u64_in{n:Int}(h0:0<=n)(h1:n<18446744073709551616):IntKind.u64.wrap n=n:=by rw[IntKind.wrap_u64];omega
theorem Aj{a:Nat}{d:Int}(h:sm a)(k:1<=d/\d<4294967296):wT a d=some (a/d.toNat,a%d.toNat):=cC ⟨h,k⟩ rfl
theorem wj{x n:Nat}(h:bN x<=n):(dR x).length<=n:=Ai _ _ (pI h)
theorem C6(tgt:List Int)(q n:Nat)(b:List Int)(hn:n<1000000000)(ht:tgt.length<=4398046511104)(hq:(aL q).length=0↔q=0)(hb:b++dR (q*1000000000+n)=tgt):
  ∃b',Loop (fun(s:Int×Int×(List Int))=>fb q s.1 s.2.1 s.2.2) ((n:Int),0,b)=some b'/\b'++dR q=tgt:=by
 refine cx (body:=fun(s:Int×Int×(List Int))=>fb q s.1 s.2.1 s.2.2) ((n:Int),0,b)
  (fun s=>∃m k:Nat,s.1=(m:Int)/\s.2.1=((9-k:Nat):Int)/\k<=9/\m<10^k/\s.2.2++dR (q*10^k+m)=tgt)
  (fun s=>(9-s.2.1).toNat) (fun r=>r++dR q=tgt) ⟨n,9,rfl,rfl,by omega,hn,hb⟩ ?_
 rintro⟨i,j,b⟩ ⟨m,k,hi,hj,hk,hm,hb⟩;simp only at hi hj hb|-;subst hi;subst hj;unfold fb;by_cases h9:k=0
 ·right
  subst h9;rw[if_neg (by simp),Option.bind_some];simp only;rw[Nat.pow_zero]at hm hb;refine⟨b,rfl,?_⟩;rw[show q=q*1+m from by omega];exact hb
 obtain⟨k,rfl⟩:=Nat.exists_eq_succ_of_ne_zero h9;have hlt:((9-(k+1):Nat):Int)<9:=by omega
 rw[Nat.succ_eq_add_one,if_pos (decide_eq_true hlt)];by_cases hz:q=0/\m=0
 ·right
  obtain⟨rfl,rfl⟩:=hz;rw[if_neg (by rw[hq.2 rfl];decide),if_neg (by decide),Option.bind_some];refine⟨b,rfl,?_⟩;rw[Nat.zero_mul]at hb;exact hb
 ·left
  have hp:q*10^(k+1)+m≠0:=by
   intro h;apply hz
   constructor
   ·apply Classical.byContradiction;intro h1;have:=Nat.mul_pos (Nat.pos_of_ne_zero h1) (show 0<10^(k+1)from Nat.pow_pos (by decide));omega
   ·omega
  have hgo:(if(decide (((aL q).length:Int)>0))=true then some (Ex.cd ())else(if(decide ((m:Int)>0))=true then some (Ex.cd ())else some (Ex.ret ())):Option (Ex Unit Unit))=some (Ex.cd ()):=by
   by_cases h1:q=0
   ·rw[if_neg (by rw[hq.2 h1];decide),if_pos (decide_eq_true (by have:=fun h=>hz ⟨h1,h⟩;omega))]
   ·rw[if_pos (decide_eq_true (by have:=fun h=>h1 (hq.1 h);omega))]
  rw[hgo,Option.bind_some];simp only;have hm':m<1000000000:=Nat.lt_of_lt_of_le hm (show 10^(k+1)<=10^9 from Nat.pow_le_pow_right (by decide) (by omega));have e1:IntKind.u8.wrap (IntKind.u64.wrap (48+Int.tmod (m:Int) 10))=((48+(q*10^(k+1)+m)%10:Nat):Int):=by
   rw[Int.tmod_eq_emod_of_nonneg (by omega),u64_in (by omega) (by omega),CC _ (by omega)];have:(q*10^(k+1)+m)%10=m%10:=by
    rw[Nat.pow_succ,←Nat.mul_assoc,Nat.add_comm,Nat.add_mul_mod_self_right]
   rw[this];omega
  have e2:IntKind.u64.wrap (Int.tdiv (m:Int) 10)=((m/10:Nat):Int):=by
   rw[Int.tdiv_eq_ediv_of_nonneg (by omega),u64_in (by omega) (by omega)];omega
  have e3:(q*10^(k+1)+m)/10=q*10^k+m/10:=by
   rw[Nat.pow_succ,←Nat.mul_assoc,Nat.add_comm,Nat.add_mul_div_right _ _ (by decide),Nat.add_comm]
  have e4:IntKind.i64.wrap (((9-(k+1):Nat):Int)+1)=((9-k:Nat):Int):=by rw[wrap_small (by omega) (by omega)];omega
  rw[nU hp,e3]at hb;rw[e1,e2,e4];have hbl:b.length+1<=tgt.length:=by rw[←hb,List.length_append,List.length_cons];omega
  refine⟨_,cC ⟨by simp only[List.length_cons,List.length_nil];omega,by simp only[List.length_cons,List.length_nil];omega⟩ rfl,⟨m/10,k,rfl,rfl,by omega,?_,?_⟩,by simp only;omega⟩
  ·rw[Nat.pow_succ]at hm;exact Nat.div_lt_of_lt_mul (by rw[Nat.mul_comm];exact hm)
  ·simp only;rw[←hb,List.append_assoc];rfl
theorem E6(a:Nat)(h:sm a):Loop (fun(s:Nat×(List Int))=>fc s.1 s.2) (a,[])=some (dR a):=by
 obtain⟨r,hr,rfl⟩:=cx (body:=fun(s:Nat×(List Int))=>fc s.1 s.2) (a,[]) (fun s=>sm s.1/\s.2++dR s.1=dR a) (fun s=>s.1) (fun r=>r=dR a) ⟨h,rfl⟩ (by
  rintro⟨x,b⟩ ⟨hx,hb⟩;simp only at hx hb|-;unfold fc;by_cases h0:x=0
  ·right
   subst h0;rw[if_neg (by rw[mo.2 rfl];decide)];refine⟨b,rfl,?_⟩;rw[j7,List.append_nil]at hb;exact hb
  ·left
   have hl:=dn h0;rw[if_pos (decide_eq_true (by omega)),Aj hx ⟨by decide,by decide⟩,Option.bind_some];simp only;have en:(1000000000:Int).toNat=1000000000:=rfl;rw[en];have hlt:x%1000000000<1000000000:=Nat.mod_lt _ (by decide);rw[pr (by omega),Option.bind_some];obtain⟨b',hb',hb2⟩:=C6 (dR a) (x/1000000000) (x%1000000000) b hlt (wj h) mo (by
    rw[show x/1000000000*1000000000+x%1000000000=x from Nat.div_add_mod' x 1000000000];exact hb)
   rw[hb'];exact⟨_,rfl,⟨nu (Nat.div_le_self _ _) hx,hb2⟩,Nat.div_lt_self (Nat.pos_of_ne_zero h0) (by decide)⟩)
 exact hr
theorem IA(a:Nat)(h:sm a):kb a=some (iN a):=by
 unfold kb iN;by_cases h0:a=0
 ·subst h0;rw[if_pos (by rw[mo.2 rfl];rfl),if_pos rfl]
 ·have hl:=dn h0;have hl2:¬(((aL a).length:Int)==0)=true:=by rw[beq_iff_eq];omega
  rw[if_neg hl2,if_neg h0,E6 a h,Option.bind_some,Ag _ (Nat.le_trans (wj h) (by omega))]
  rfl
theorem GP{a:Nat}{r:List UInt8}(h:AI a=some r):bf PP 176 [] [ao a] [] (cu r):=by
 obtain⟨h0,h⟩:=av h;injection h with h;subst h;exact u9 (IA a h0)
end Go.Am
namespace Go.Am
open Go.RowKit
def qC(x:Rat):List D:=[.bool (decide (x.num<0)),ao x.num.natAbs,ao (x.den-1)]
def qD(x:Rat):D:=.agg (qC x)
def ak.rat:ak Rat:=⟨3,qC,fun _=>rfl,fun _=>rfl⟩
theorem lY:Le (.bool false) (.bool (decide ((0:Rat).num<0))):=.refl _
theorem lZ:Le .nil (ao (0:Rat).num.natAbs):=bj
theorem l4:Le .nil (ao ((0:Rat).den-1)):=bj
def aD(x:Nat):List Int:=if h:x=0 then []else((x%10000:Nat):Int)::aD (x/10000)
termination_by x
decreasing_by exact Nat.div_lt_self (by omega) (by omega)
theorem dB:aD 0=[]:=by rw[aD];simp
theorem jN{x:Nat}(h:x≠0):aD x=((x%10000:Nat):Int)::aD (x/10000):=by rw[aD];simp[h]
def Iw(d:Nat):D where
 p:=fun ε w S v=>∃l:List Int,(l=aD d\/(d=1/\l=[]))/\(ai (ak.int .i64) l).p ε w S v
 nm:=[]
 sh:=.one
 mono:=fun⟨l,hl,h⟩ he hS=>⟨l,hl,(ai (ak.int .i64) l).mono h (fun r hr=>by cases hr) hS⟩
 jQ:=fun⟨l,_,h⟩=>(ai (ak.int .i64) l).jQ h
def iq(x:Rat):List D:=[.bool (decide (x.num<0)),ai (ak.int .i64) (aD x.num.natAbs),.bool false,Iw x.den]
def pZ(x:Rat):D:=.agg (iq x)
def ak.rq:ak Rat:=⟨4,iq,fun _=>rfl,fun _=>rfl⟩
theorem EA:Le .nil (ai (ak.int .i64) (aD 0)):=by rw[dB];exact .jF _
theorem C8:Le (.bool false) (.bool (decide ((0:Rat).num<0))):=.refl _
theorem C0:Le .nil (ai (ak.int .i64) (aD (0:Rat).num.natAbs)):=EA
theorem EG:Le .nil (Iw (0:Rat).den):=⟨fun ε w S v h=>⟨[],.inr ⟨rfl,rfl⟩,(Le.jF (ak.int .i64)).1 ε w S v h⟩,fun r hr=>by cases hr⟩
def sz(x:Rat):Nat:=max (bN x.num.natAbs) (bN x.den)
def di(x:Rat):Prop:=sz x<=400000000000
instance (x:Rat):Decidable (di x):=inferInstanceAs (Decidable (sz x<=400000000000))
def fm(n:Int):Prop:=-9223372036854775808<=n/\n<9223372036854775808
instance (n:Int):Decidable (fm n):=inferInstanceAs (Decidable (_/\_))
def wJ(x:Rat):Int:=if x<0 then-1 else if x=0 then 0 else 1
def iL(x y:Rat):Int:=if x<y then-1 else if y<x then 1 else 0
def fY(n:Int):Option Rat:=cj (fm n) (some (n:Rat))
def Gq(n d:Int):Option (Rat×Int):=cj (fm n/\fm d) (some (if d=0 then(0,9)else((n:Rat)/(d:Rat),0)))
def jj(a b:Rat):Option Rat:=cj (di a/\di b) (some (a+b))
def ks(a b:Rat):Option Rat:=cj (di a/\di b) (some (a-b))
def fh(a b:Rat):Option Rat:=cj (di a/\di b) (some (a*b))
def fV(a b:Rat):Option Rat:=cj (b≠0/\di a/\di b) (some (a/b))
def pg(a:Rat):Option Rat:=some (-a)
def Ba(a:Rat):Option Rat:=some (if a<0 then-a else a)
def lJ(a b:Rat):Option Int:=cj (di a/\di b) (some (iL a b))
def cW(a:Rat):Option Int:=some (wJ a)
def uQ(a:Rat):Option Rat:=cj (di a) (some (a.den:Rat))
def qo(a:Rat):Option Rat:=cj (di a) (some (a.floor:Rat))
def ID(a:Rat):List UInt8:=(if a.num<0 then [45]else [])++iN a.num.natAbs++(if a.den=1 then []else 47::iN a.den)
def rv(a:Rat):Option (List UInt8):=cj (di a) (some (ID a))
end Go.Am
namespace Go.Am
open Go.RowKit
set_option maxRecDepth 100000
noncomputable section
def dc(a1:Bool)(a2:Nat):Option (Bool×Nat):=(if a1=true then some ((decide (((aL a2).length:Int)>0)),a2)else some (false,a2))
theorem eY{a1:Bool}{a2:Nat}{r4:Bool}{r5:Nat}(h:dc a1 a2=some (r4,r5)):bf PP 152 [] [D.bool a1,ao a2] [] (D.agg ([D.bool r4,ao r5])):=by
 unfold dc at h;refine .of Go.Proofs.Tryz.func152 rfl (by kernel_rfl) rfl rfl rfl rfl rfl rfl (fun A w0 L b=>?_);show Ok PP _ [(0,D.bool a1),(1,ao a2)] [] _ _;refine .al (.fN ([D.bool false,ao 0]) eo ⟨.refl _,bj,trivial⟩ rfl<|.nil) rfl ?_;by_cases c3:a1=true
 ·replace h:=ab c3 h;refine .al (.mv rfl<|.mv rfl<|.gy c3<|.mv rfl<|.gy c3<|.y_ rfl aw<|.gy c3<|.cm rfl rfl rfl<|.aX rfl c3 rfl<|.mv rfl<|.n_ ([D.bool (decide (((aL a2).length:Int)>0)),ao a2]) [(0,_,D.bool (decide (((aL a2).length:Int)>0)),[D.bool (decide (((aL a2).length:Int)>0))]),(1,_,ao a2,[ao a2])] eo ik ⟨rfl,rfl,.one rfl,rfl,rfl,rfl,.one rfl,rfl,trivial⟩ ⟨rfl,rfl,trivial⟩ ⟨.refl _,.refl _,trivial⟩<|.cU ([D.bool (decide (((aL a2).length:Int)>0)),ao a2]) rfl rfl rfl bB rfl rfl rfl<|.nil) rfl ?_;cases h;refine .aO (fun _ _ hb=>hb) rfl (.cons (.agg rfl rfl bB rfl) .nil) (.refl _) trivial trivial
 ·replace h:=aa c3 h;refine .al (.mv rfl<|.mv rfl<|.gm c3<|.gm c3<|.gm c3<|.aT rfl c3 rfl<|.mv rfl<|.n_ ([D.bool false,ao a2]) [(0,_,D.bool false,[D.bool false]),(1,_,ao a2,[ao a2])] eo ik ⟨rfl,rfl,.one rfl,rfl,rfl,rfl,.one rfl,rfl,trivial⟩ ⟨rfl,rfl,trivial⟩ ⟨.refl _,.refl _,trivial⟩<|.cU ([D.bool false,ao a2]) rfl rfl rfl bB rfl rfl rfl<|.nil) rfl ?_;cases h;refine .aO (fun _ _ hb=>hb) rfl (.cons (.agg rfl rfl bB rfl) .nil) (.refl _) trivial trivial
def jI(a1:Bool)(a2:Nat):Option Int:=(if a1=true then some (-1)else(if(((aL a2).length:Int)==0)=true then some 0 else some 1))
theorem xd{a1:Bool}{a2:Nat}{r5:Int}(h:jI a1 a2=some r5):bf PP 153 [] [D.agg ([D.bool a1,ao a2])] [] (D.int .i64 r5):=by
 unfold jI at h;refine .of Go.Proofs.Tryz.func153 rfl (by kernel_rfl) rfl rfl rfl rfl rfl rfl (fun A w0 L b=>?_);show Ok PP _ [(0,D.agg ([D.bool a1,ao a2]))] [] _ _;refine .al (.iP rfl rfl<|.aq rfl<|.nil) rfl ?_;refine .sq ?_;refine .block ?_;refine .al (.fa rfl ba<|.bu (D.bool a1) rfl rfl bT rfl<|.aq rfl<|.nil) rfl ?_;by_cases c3:a1=true
 ·replace h:=ab c3 h;refine .cl rfl c3 ?_;refine .al (.aq rfl<|.nil) rfl ?_;cases h;refine .aO (fun _ _ hb=>hb) rfl (.t1 (.tmp rfl)) (.refl _) trivial trivial
 ·replace h:=aa c3 h;refine .cq rfl c3 ?_;refine .al (.fa rfl aU<|.bu (ao a2) rfl rfl bg rfl<|.y_ rfl aw<|.cm rfl rfl rfl<|.aq rfl<|.nil) rfl ?_;by_cases c4:(((aL a2).length:Int)==0)=true
  ·replace h:=ab c4 h;refine .cl rfl c4 ?_;refine .al (.aq rfl<|.nil) rfl ?_;cases h;refine .aO (fun _ _ hb=>hb) rfl (.t1 (.tmp rfl)) (.refl _) trivial trivial
  ·replace h:=aa c4 h;refine .cq rfl c4 ?_;refine .skip (Ok.on ?_);refine .al (.aq rfl<|.nil) rfl ?_;cases h;refine .aO (fun _ _ hb=>hb) rfl (.t1 (.tmp rfl)) (.refl _) trivial trivial
def kg(a1:Bool)(a2:Nat)(a3:Bool)(a4:Nat):Option (Bool×Nat):=(if(a1==a3)=true then(wo a2 a4).bind fun v6=>(dc a1 v6).bind fun(v8,v9)=>some (v8,v9)else(vy a2 a4).bind fun v11=>(if(decide (v11>=0))=true then(yx a2 a4).bind fun v14=>(dc a1 v14).bind fun(v16,v17)=>some (v16,v17)else(yx a4 a2).bind fun v19=>(dc a3 v19).bind fun(v21,v22)=>some (v21,v22)))
theorem x5{a1:Bool}{a2:Nat}{a3:Bool}{a4:Nat}{r24:Bool}{r25:Nat}(h:kg a1 a2 a3 a4=some (r24,r25)):bf PP 180 [] [D.agg ([D.bool a1,ao a2]),D.agg ([D.bool a3,ao a4])] [] (D.agg ([D.bool r24,ao r25])):=by
 unfold kg at h;refine .of Go.Proofs.Tryz.func180 rfl (by kernel_rfl) rfl rfl rfl rfl rfl rfl (fun A w0 L b=>?_);show Ok PP _ [(0,D.agg ([D.bool a1,ao a2])),(1,D.agg ([D.bool a3,ao a4]))] [] _ _;refine .al (.iP rfl rfl<|.iP rfl rfl<|.fN ([D.bool false,ao 0]) eo ⟨.refl _,bj,trivial⟩ rfl<|.nil) rfl ?_;refine .sq ?_;refine .block ?_;refine .al (.fa rfl ba<|.bu (D.bool a1) rfl rfl bT rfl<|.fa rfl ba<|.bu (D.bool a3) rfl rfl bT rfl<|.bc i5 rfl rfl rfl<|.aq rfl<|.nil) rfl ?_;by_cases c5:(a1==a3)=true
 ·replace h:=ab c5 h;refine .cl rfl c5 ?_;obtain⟨v6,e7,h⟩:=bind_some h;obtain⟨⟨v8,v9⟩,e10,h⟩:=bind_some h;refine .cZ cf (.fa rfl ba<|.bu (D.bool a1) rfl rfl bT rfl<|.fa rfl aU<|.bu (ao a2) rfl rfl bg rfl<|.fa rfl aU<|.bu (ao a4) rfl rfl bg rfl<|.ag (AR e7) ⟨rfl,rfl,trivial⟩ trivial trivial<|.ag (eY e10) ⟨rfl,rfl,trivial⟩ trivial trivial<|.cU ([D.bool v8,ao v9]) rfl rfl rfl bB rfl rfl rfl<|.nil) rfl (by kernel_rfl) ?_;cases h;refine .aO (fun _ _ hb=>hb) rfl (.cons (.agg rfl rfl bB rfl) .nil) (.refl _) trivial trivial
 ·replace h:=aa c5 h;refine .cq rfl c5 ?_;obtain⟨v11,e12,h⟩:=bind_some h;refine .al (.fa rfl aU<|.bu (ao a2) rfl rfl bg rfl<|.fa rfl aU<|.bu (ao a4) rfl rfl bg rfl<|.ag (Bm e12) ⟨rfl,rfl,trivial⟩ trivial trivial<|.cm rfl rfl rfl<|.aq rfl<|.nil) rfl ?_;by_cases c13:(decide (v11>=0))=true
  ·replace h:=ab c13 h;refine .cl rfl c13 ?_;obtain⟨v14,e15,h⟩:=bind_some h;obtain⟨⟨v16,v17⟩,e18,h⟩:=bind_some h;refine .cZ cf (.fa rfl ba<|.bu (D.bool a1) rfl rfl bT rfl<|.fa rfl aU<|.bu (ao a2) rfl rfl bg rfl<|.fa rfl aU<|.bu (ao a4) rfl rfl bg rfl<|.ag (DO e15) ⟨rfl,rfl,trivial⟩ trivial trivial<|.ag (eY e18) ⟨rfl,rfl,trivial⟩ trivial trivial<|.cU ([D.bool v16,ao v17]) rfl rfl rfl bB rfl rfl rfl<|.nil) rfl (by kernel_rfl) ?_;cases h;refine .aO (fun _ _ hb=>hb) rfl (.cons (.agg rfl rfl bB rfl) .nil) (.refl _) trivial trivial
  ·replace h:=aa c13 h;refine .cq rfl c13 ?_;refine .skip (Ok.on ?_);obtain⟨v19,e20,h⟩:=bind_some h;obtain⟨⟨v21,v22⟩,e23,h⟩:=bind_some h;refine .cZ cf (.fa rfl ba<|.bu (D.bool a3) rfl rfl bT rfl<|.fa rfl aU<|.bu (ao a4) rfl rfl bg rfl<|.fa rfl aU<|.bu (ao a2) rfl rfl bg rfl<|.ag (DO e20) ⟨rfl,rfl,trivial⟩ trivial trivial<|.ag (eY e23) ⟨rfl,rfl,trivial⟩ trivial trivial<|.cU ([D.bool v21,ao v22]) rfl rfl rfl bB rfl rfl rfl<|.nil) rfl (by kernel_rfl) ?_;cases h;refine .aO (fun _ _ hb=>hb) rfl (.cons (.agg rfl rfl bB rfl) .nil) (.refl _) trivial trivial
def eW(a1:Bool)(a2:Nat)(a3:Nat):Option (Bool×Nat):=(qN a2 a3).bind fun v4=>(dc a1 v4).bind fun(v6,v7)=>some (v6,v7)
theorem j9{a1:Bool}{a2:Nat}{a3:Nat}{r9:Bool}{r10:Nat}(h:eW a1 a2 a3=some (r9,r10)):bf PP 177 [] [D.agg ([D.bool a1,ao a2]),ao a3] [] (D.agg ([D.bool r9,ao r10])):=by
 unfold eW at h;refine .of Go.Proofs.Tryz.func177 rfl (by kernel_rfl) rfl rfl rfl rfl rfl rfl (fun A w0 L b=>?_);show Ok PP _ [(0,D.agg ([D.bool a1,ao a2])),(1,ao a3)] [] _ _;refine .al (.iP rfl rfl<|.fN ([D.bool false,ao 0]) eo ⟨.refl _,bj,trivial⟩ rfl<|.nil) rfl ?_;obtain⟨v4,e5,h⟩:=bind_some h;obtain⟨⟨v6,v7⟩,e8,h⟩:=bind_some h;refine .cZ cf (.fa rfl ba<|.bu (D.bool a1) rfl rfl bT rfl<|.fa rfl aU<|.bu (ao a2) rfl rfl bg rfl<|.mv rfl<|.ag (uy e5) ⟨rfl,rfl,trivial⟩ trivial trivial<|.ag (eY e8) ⟨rfl,rfl,trivial⟩ trivial trivial<|.cU ([D.bool v6,ao v7]) rfl rfl rfl bB rfl rfl rfl<|.nil) rfl (by kernel_rfl) ?_;cases h;refine .aO (fun _ _ hb=>hb) rfl (.cons (.agg rfl rfl bB rfl) .nil) (.refl _) trivial trivial
def kv(a1:Bool)(a2:Nat)(a3:Bool)(a4:Nat):Option Int:=(if(!(a1==a3))=true then(if a1=true then some (-1)else some 1)else(if a1=true then(vy a4 a2).bind fun v8=>some v8 else(vy a2 a4).bind fun v10=>some v10))
theorem yC{a1:Bool}{a2:Nat}{a3:Bool}{a4:Nat}{r12:Int}(h:kv a1 a2 a3 a4=some r12):bf PP 178 [] [D.agg ([D.bool a1,ao a2]),D.agg ([D.bool a3,ao a4])] [] (D.int .i64 r12):=by
 unfold kv at h;refine .of Go.Proofs.Tryz.func178 rfl (by kernel_rfl) rfl rfl rfl rfl rfl rfl (fun A w0 L b=>?_);show Ok PP _ [(0,D.agg ([D.bool a1,ao a2])),(1,D.agg ([D.bool a3,ao a4]))] [] _ _;refine .al (.iP rfl rfl<|.iP rfl rfl<|.aq rfl<|.nil) rfl ?_;refine .sq ?_;refine .block ?_;by_cases c5:(!(a1==a3))=true
 ·replace h:=ab c5 h;refine .al (.fa rfl ba<|.bu (D.bool a1) rfl rfl bT rfl<|.fa rfl ba<|.bu (D.bool a3) rfl rfl bT rfl<|.bc i5 rfl rfl rfl<|.mv rfl<|.gy c5<|.fa rfl ba<|.gy c5<|.bu (D.bool a1) rfl rfl bT rfl<|.aX rfl c5 rfl<|.aq rfl<|.nil) rfl ?_;by_cases c6:a1=true
  ·replace h:=ab c6 h;refine .cl rfl c6 ?_;refine .al (.aq rfl<|.nil) rfl ?_;cases h;refine .aO (fun _ _ hb=>hb) rfl (.t1 (.tmp rfl)) (.refl _) trivial trivial
  ·replace h:=aa c6 h;refine .cq rfl c6 ?_;refine .al (.fa rfl ba<|.bu (D.bool a1) rfl rfl bT rfl<|.fa rfl ba<|.bu (D.bool a3) rfl rfl bT rfl<|.bc i5 rfl rfl rfl<|.aq rfl<|.nil) rfl ?_;refine .cl rfl c5 ?_;refine .al (.aq rfl<|.nil) rfl ?_;cases h;refine .aO (fun _ _ hb=>hb) rfl (.t1 (.tmp rfl)) (.refl _) trivial trivial
 ·replace h:=aa c5 h;refine .al (.fa rfl ba<|.bu (D.bool a1) rfl rfl bT rfl<|.fa rfl ba<|.bu (D.bool a3) rfl rfl bT rfl<|.bc i5 rfl rfl rfl<|.mv rfl<|.gm c5<|.gm c5<|.aT rfl c5 rfl<|.aq rfl<|.nil) rfl ?_;refine .cq rfl (by decide) ?_;refine .al (.fa rfl ba<|.bu (D.bool a1) rfl rfl bT rfl<|.fa rfl ba<|.bu (D.bool a3) rfl rfl bT rfl<|.bc i5 rfl rfl rfl<|.aq rfl<|.nil) rfl ?_;refine .cq rfl c5 ?_;refine .al (.fa rfl ba<|.bu (D.bool a1) rfl rfl bT rfl<|.aq rfl<|.nil) rfl ?_;by_cases c7:a1=true
  ·replace h:=ab c7 h;refine .cl rfl c7 ?_;obtain⟨v8,e9,h⟩:=bind_some h;refine .al (.fa rfl aU<|.bu (ao a4) rfl rfl bg rfl<|.fa rfl aU<|.bu (ao a2) rfl rfl bg rfl<|.ag (Bm e9) ⟨rfl,rfl,trivial⟩ trivial trivial<|.aq rfl<|.nil) rfl ?_;cases h;refine .aO (fun _ _ hb=>hb) rfl (.t1 (.tmp rfl)) (.refl _) trivial trivial
  ·replace h:=aa c7 h;refine .cq rfl c7 ?_;refine .skip (Ok.on ?_);obtain⟨v10,e11,h⟩:=bind_some h;refine .al (.fa rfl aU<|.bu (ao a2) rfl rfl bg rfl<|.fa rfl aU<|.bu (ao a4) rfl rfl bg rfl<|.ag (Bm e11) ⟨rfl,rfl,trivial⟩ trivial trivial<|.aq rfl<|.nil) rfl ?_;cases h;refine .aO (fun _ _ hb=>hb) rfl (.t1 (.tmp rfl)) (.refl _) trivial trivial
def iX(a1:Bool)(a2:Nat)(a3:Nat):Option (Bool×Nat):=(lT a2 a3).bind fun(v4,v5)=>((if a1=true then(if(decide (((aL v5).length:Int)>0))=true then(m_ 1).bind fun v11=>(wo v4 v11).bind fun v13=>some (v13)else some (v4))else some (v4))).bind fun v15=>(dc a1 v15).bind fun(v16,v17)=>some (v16,v17)
theorem u_{a1:Bool}{a2:Nat}{a3:Nat}{r19:Bool}{r20:Nat}(h:iX a1 a2 a3=some (r19,r20)):bf PP 188 [] [D.agg ([D.bool a1,ao a2]),ao a3] [] (D.agg ([D.bool r19,ao r20])):=by
 unfold iX at h;refine .of Go.Proofs.Tryz.func188 rfl (by kernel_rfl) rfl rfl rfl rfl rfl rfl (fun A w0 L b=>?_);show Ok PP _ [(0,D.agg ([D.bool a1,ao a2])),(1,ao a3)] [] _ _;refine .al (.iP rfl rfl<|.fN ([D.bool false,ao 0]) eo ⟨.refl _,bj,trivial⟩ rfl<|.nil) rfl ?_;obtain⟨⟨v4,v5⟩,e6,h⟩:=bind_some h;refine .al (.fa rfl aU<|.bu (ao a2) rfl rfl bg rfl<|.mv rfl<|.ag (rT e6) ⟨rfl,rfl,trivial⟩ trivial trivial<|.mv rfl<|.ext rfl rfl<|.ext rfl rfl<|.aq rfl<|.aq rfl<|.nil) rfl ?_;obtain⟨v15,hp8,h⟩:=bind_some h;refine .cc (fun i=>v15=i) (fun(i:Nat)=>[(2,D.ref 2 0),(4,D.ref 4 0),(5,ao i)]) (fun(i:Nat)=>[(2,Hp.box 26 ([D.bool a1,ao a2])),(4,Hp.box 26 ([D.bool false,ao 0]))]) ?_ ?_
 ·have ho1:=h;have h:=hp8;by_cases c9:a1=true
  ·replace h:=ab c9 h;refine .al (.fa rfl ba<|.bu (D.bool a1) rfl rfl bT rfl<|.mv rfl<|.gy c9<|.mv rfl<|.gy c9<|.y_ rfl aw<|.gy c9<|.cm rfl rfl rfl<|.aX rfl c9 rfl<|.nil) rfl ?_;by_cases c10:(decide (((aL v5).length:Int)>0))=true
   ·replace h:=ab c10 h;refine .cl rfl c10 ?_;obtain⟨v11,e12,h⟩:=bind_some h;obtain⟨v13,e14,h⟩:=bind_some h;refine .region (.mv rfl<|.ag (uY e12) ⟨rfl,trivial⟩ trivial trivial<|.ag (AR e14) ⟨rfl,rfl,trivial⟩ trivial trivial<|.aq rfl<|.nil) rfl (fun _ _ hs=>⟨v13,(sj h),hs.sub (.of rfl) (.of rfl) rfl rfl⟩)
   ·replace h:=aa c10 h;refine .cq rfl c10 ?_;refine .skip (fun _ _ hs=>⟨v4,(sj h),hs.sub (.of rfl) (.of rfl) rfl rfl⟩)
  ·replace h:=aa c9 h;refine .al (.fa rfl ba<|.bu (D.bool a1) rfl rfl bT rfl<|.mv rfl<|.gm c9<|.gm c9<|.gm c9<|.aT rfl c9 rfl<|.nil) rfl ?_;refine .cq rfl (by decide) ?_;refine .skip (fun _ _ hs=>⟨v4,(sj h),hs.sub (.of rfl) (.of rfl) rfl rfl⟩)
 ·rintro _ rfl
  try dsimp only
  obtain⟨⟨v16,v17⟩,e18,h⟩:=bind_some h;refine .al (.fa rfl ba<|.bu (D.bool a1) rfl rfl bT rfl<|.mv rfl<|.ag (eY e18) ⟨rfl,rfl,trivial⟩ trivial trivial<|.cU ([D.bool v16,ao v17]) rfl rfl rfl bB rfl rfl rfl<|.nil) rfl ?_;cases h;refine .aO (fun _ _ hb=>hb) rfl (.cons (.agg rfl rfl bB rfl) .nil) (.refl _) trivial trivial
def fK(a1:Bool)(a2:Nat)(a3:Nat):Option Nat:=(m_ 1).bind fun v4=>(wo a3 v4).bind fun v6=>some v6
theorem i7{a1:Bool}{a2:Nat}{a3:Nat}{r8:Nat}(h:fK a1 a2 a3=some r8):bf PP 168 [] [D.agg ([D.bool a1,ao a2,ao a3])] [] (ao r8):=by
 unfold fK at h;refine .of Go.Proofs.Tryz.func168 rfl (by kernel_rfl) rfl rfl rfl rfl rfl rfl (fun A w0 L b=>?_);show Ok PP _ [(0,D.agg ([D.bool a1,ao a2,ao a3]))] [] _ _;refine .al (.iP rfl rfl<|.aq rfl<|.nil) rfl ?_;obtain⟨v4,e5,h⟩:=bind_some h;obtain⟨v6,e7,h⟩:=bind_some h;refine .cZ cf (.fa rfl mf<|.bu (ao a3) rfl rfl bg rfl<|.ag (uY e5) ⟨rfl,trivial⟩ trivial trivial<|.ag (AR e7) ⟨rfl,rfl,trivial⟩ trivial trivial<|.aq rfl<|.nil) rfl (by kernel_rfl) ?_;cases h;refine .aO (fun _ _ hb=>hb) rfl (.t1 (.tmp rfl)) (.refl _) trivial trivial
def fl(a1:Bool)(a2:Nat)(a3:Nat):Option ((Bool×Nat)×Nat):=((EP a2 a3).bind fun v6=>(if(((aL v6).length:Int) !=1)=true then(lT a2 v6).bind fun(v9,v10)=>(lT a3 v6).bind fun(v12,v13)=>some ((v12,v9))else(ix (aL v6) 0).bind fun v15=>(if((v15:Int) !=1)=true then(lT a2 v6).bind fun(v18,v19)=>(lT a3 v6).bind fun(v21,v22)=>some ((v21,v18))else some ((a3,a2))))).bind fun(v24,v25)=>(dc a1 v25).bind fun(v26,v27)=>(m_ 1).bind fun v29=>(yx v24 v29).bind fun v31=>some ((v26,v27),v31)
theorem lK{a1:Bool}{a2:Nat}{a3:Nat}{r33:Bool}{r34:Nat}{r35:Nat}(h:fl a1 a2 a3=some ((r33,r34),r35)):bf PP 151 [] [D.agg ([D.bool a1,ao a2]),ao a3] [] (D.agg ([D.bool r33,ao r34,ao r35])):=by
 unfold fl at h;refine .of Go.Proofs.Tryz.func151 rfl (by kernel_rfl) rfl rfl rfl rfl rfl rfl (fun A w0 L b=>?_);show Ok PP _ [(0,D.agg ([D.bool a1,ao a2])),(1,ao a3)] [] _ _;refine .al (.iP rfl rfl<|.fN ([D.bool false,ao 0,ao 0]) aI ⟨.refl _,bj,bj,trivial⟩ rfl<|.nil) rfl ?_;obtain⟨o4,hp5,h⟩:=bind_some h;refine .cc (fun i=>o4=i) (fun(i:Nat×Nat)=>[(1,ao i.1),(2,D.ref 2 0),(4,D.ref 4 0)]) (fun(i:Nat×Nat)=>[(2,Hp.box 26 ([D.bool a1,ao i.2])),(4,Hp.box 28 ([D.bool false,ao 0,ao 0]))]) ?_ ?_
 ·have ho1:=h;have h:=hp5;obtain⟨v6,e7,h⟩:=bind_some h;refine .al (.fa rfl aU<|.bu (ao a2) rfl rfl bg rfl<|.mv rfl<|.ag (Jh e7) ⟨rfl,rfl,trivial⟩ trivial trivial<|.aq rfl<|.nil) rfl ?_;by_cases c8:(((aL v6).length:Int) !=1)=true
  ·replace h:=ab c8 h;refine .al (.mv rfl<|.y_ rfl aw<|.cm rfl rfl rfl<|.mv rfl<|.gk c8<|.gk c8<|.gk c8<|.gk c8<|.aX rfl c8 rfl<|.nil) rfl ?_;refine .cl rfl rfl ?_;obtain⟨⟨v9,v10⟩,e11,h⟩:=bind_some h;refine .al (.fa rfl aU<|.bu (ao a2) rfl rfl bg rfl<|.mv rfl<|.ag (rT e11) ⟨rfl,rfl,trivial⟩ trivial trivial<|.mv rfl<|.ext rfl rfl<|.ext rfl rfl<|.fa rfl aU<|.Ad ([D.bool a1,ao v9]) rfl rfl rfl bg rfl rfl rfl<|.nil) rfl ?_;obtain⟨⟨v12,v13⟩,e14,h⟩:=bind_some h;refine .region (.mv rfl<|.mv rfl<|.ag (rT e14) ⟨rfl,rfl,trivial⟩ trivial trivial<|.mv rfl<|.ext rfl rfl<|.ext rfl rfl<|.aq rfl<|.nil) rfl (fun _ _ hs=>⟨(v12,v9),(sj h),hs.sub (.of rfl) (.of rfl) rfl rfl⟩)
  ·replace h:=aa c8 h;obtain⟨v15,e16,h⟩:=bind_some h;refine .al (.mv rfl<|.y_ rfl aw<|.cm rfl rfl rfl<|.mv rfl<|.gz c8<|.mv rfl<|.gz c8<|.Jx rfl rfl aB e16<|.gz c8<|.i6 rfl a_<|.gz c8<|.cm rfl rfl rfl<|.aT rfl c8 rfl<|.nil) rfl ?_;by_cases c17:((v15:Int) !=1)=true
   ·replace h:=ab c17 h;refine .cl rfl c17 ?_;obtain⟨⟨v18,v19⟩,e20,h⟩:=bind_some h;refine .al (.fa rfl aU<|.bu (ao a2) rfl rfl bg rfl<|.mv rfl<|.ag (rT e20) ⟨rfl,rfl,trivial⟩ trivial trivial<|.mv rfl<|.ext rfl rfl<|.ext rfl rfl<|.fa rfl aU<|.Ad ([D.bool a1,ao v18]) rfl rfl rfl bg rfl rfl rfl<|.nil) rfl ?_;obtain⟨⟨v21,v22⟩,e23,h⟩:=bind_some h;refine .region (.mv rfl<|.mv rfl<|.ag (rT e23) ⟨rfl,rfl,trivial⟩ trivial trivial<|.mv rfl<|.ext rfl rfl<|.ext rfl rfl<|.aq rfl<|.nil) rfl (fun _ _ hs=>⟨(v21,v18),(sj h),hs.sub (.of rfl) (.of rfl) rfl rfl⟩)
   ·replace h:=aa c17 h;refine .cq rfl c17 ?_;refine .skip (fun _ _ hs=>⟨(a3,a2),(sj h),hs.sub (.of rfl) (.of rfl) rfl rfl⟩)
 ·rintro⟨v24,v25⟩ rfl
  try dsimp only
  obtain⟨⟨v26,v27⟩,e28,h⟩:=bind_some h;obtain⟨v29,e30,h⟩:=bind_some h;obtain⟨v31,e32,h⟩:=bind_some h;refine .al (.fa rfl ba<|.bu (D.bool a1) rfl rfl bT rfl<|.fa rfl aU<|.bu (ao v25) rfl rfl bg rfl<|.ag (eY e28) ⟨rfl,rfl,trivial⟩ trivial trivial<|.mv rfl<|.ag (uY e30) ⟨rfl,trivial⟩ trivial trivial<|.ag (DO e32) ⟨rfl,rfl,trivial⟩ trivial trivial<|.n_ ([D.bool v26,ao v27,ao v31]) [(0,_,D.agg ([D.bool v26,ao v27]),[D.bool v26,ao v27]),(2,_,ao v31,[ao v31])] aI cY ⟨rfl,rfl,.agg _,rfl,rfl,rfl,.one rfl,rfl,trivial⟩ ⟨rfl,rfl,trivial⟩ ⟨.refl _,.refl _,.refl _,trivial⟩<|.cU ([D.bool v26,ao v27,ao v31]) rfl rfl rfl ae rfl rfl rfl<|.nil) rfl ?_;cases h;refine .aO (fun _ _ hb=>hb) rfl (.cons (.agg rfl rfl ae rfl) .nil) (.refl _) trivial trivial
def vm(a1:Bool)(a2:Nat):Option ((Bool×Nat)×Nat):=some ((a1,a2),0)
theorem DP{a1:Bool}{a2:Nat}{r3:Bool}{r4:Nat}{r5:Nat}(h:vm a1 a2=some ((r3,r4),r5)):bf PP 169 [] [D.agg ([D.bool a1,ao a2])] [] (D.agg ([D.bool r3,ao r4,ao r5])):=by
 unfold vm at h;refine .of Go.Proofs.Tryz.func169 rfl (by kernel_rfl) rfl rfl rfl rfl rfl rfl (fun A w0 L b=>?_);show Ok PP _ [(0,D.agg ([D.bool a1,ao a2]))] [] _ _;refine .al (.iP rfl rfl<|.fN ([D.bool false,ao 0,ao 0]) aI ⟨.refl _,bj,bj,trivial⟩ rfl<|.nil) rfl ?_;refine .al (.ck ([D.bool a1,ao a2]) rfl rfl bB rfl rfl<|.n_ ([D.bool a1,ao a2,ao 0]) [(0,_,D.agg ([D.bool a1,ao a2]),[D.bool a1,ao a2])] aI cY ⟨rfl,rfl,.agg _,rfl,trivial⟩ ⟨rfl,trivial⟩ ⟨.refl _,.refl _,bj,trivial⟩<|.cU ([D.bool a1,ao a2,ao 0]) rfl rfl rfl ae rfl rfl rfl<|.nil) rfl ?_;cases h;refine .aO (fun _ _ hb=>hb) rfl (.cons (.agg rfl rfl ae rfl) .nil) (.refl _) trivial trivial
def il(a1:Int):Option Nat:=(if(decide (a1<0))=true then(m_ (IntKind.u64.wrap (0-(IntKind.u64.wrap a1)))).bind fun v3=>some v3 else(m_ (IntKind.u64.wrap a1)).bind fun v5=>some v5)
theorem oc{a1:Int}{r7:Nat}(h:il a1=some r7):bf PP 179 [] [D.int .i64 a1] [] (ao r7):=by
 unfold il at h;refine .of Go.Proofs.Tryz.func179 rfl (by kernel_rfl) rfl rfl rfl rfl rfl rfl (fun A w0 L b=>?_);show Ok PP _ [(0,D.int .i64 a1)] [] _ _;refine .al (.aq rfl<|.nil) rfl ?_;refine .sq ?_;refine .al (.mv rfl<|.cm rfl rfl rfl<|.nil) rfl ?_;by_cases c2:(decide (a1<0))=true
 ·replace h:=ab c2 h;refine .cl rfl c2 ?_;obtain⟨v3,e4,h⟩:=bind_some h;refine .al (.mv rfl<|.cv rfl nt rfl<|.neg rfl rfl<|.ag (uY e4) ⟨rfl,trivial⟩ trivial trivial<|.aq rfl<|.nil) rfl ?_;cases h;refine .aO (fun _ _ hb=>hb) rfl (.t1 (.tmp rfl)) (.refl _) trivial trivial
 ·replace h:=aa c2 h;refine .cq rfl c2 ?_;refine .skip (Ok.on ?_);obtain⟨v5,e6,h⟩:=bind_some h;refine .al (.mv rfl<|.cv rfl nt rfl<|.ag (uY e6) ⟨rfl,trivial⟩ trivial trivial<|.aq rfl<|.nil) rfl ?_;cases h;refine .aO (fun _ _ hb=>hb) rfl (.t1 (.tmp rfl)) (.refl _) trivial trivial
def Aw(a1:Int):Option ((Bool×Nat)×Nat):=(il a1).bind fun v2=>(dc (decide (a1<0)) v2).bind fun(v4,v5)=>(vm v4 v5).bind fun((v7,v8),v9)=>some ((v7,v8),v9)
theorem IG{a1:Int}{r11:Bool}{r12:Nat}{r13:Nat}(h:Aw a1=some ((r11,r12),r13)):bf PP 40 [] [D.int .i64 a1] [] (D.agg ([D.bool r11,ao r12,ao r13])):=by
 unfold Aw at h;refine .of Go.Proofs.Tryz.func40 rfl (by kernel_rfl) rfl rfl rfl rfl rfl rfl (fun A w0 L b=>?_);show Ok PP _ [(0,D.int .i64 a1)] [] _ _;refine .al (.fN ([D.bool false,ao 0,ao 0]) aI ⟨.refl _,bj,bj,trivial⟩ rfl<|.nil) rfl ?_;obtain⟨v2,e3,h⟩:=bind_some h;obtain⟨⟨v4,v5⟩,e6,h⟩:=bind_some h;obtain⟨⟨⟨v7,v8⟩,v9⟩,e10,h⟩:=bind_some h;refine .al (.mv rfl<|.cm rfl rfl rfl<|.mv rfl<|.ag (oc e3) ⟨rfl,trivial⟩ trivial trivial<|.ag (eY e6) ⟨rfl,rfl,trivial⟩ trivial trivial<|.ag (DP e10) ⟨rfl,trivial⟩ trivial trivial<|.cU ([D.bool v7,ao v8,ao v9]) rfl rfl rfl ae rfl rfl rfl<|.nil) rfl ?_;cases h;refine .aO (fun _ _ hb=>hb) rfl (.cons (.agg rfl rfl ae rfl) .nil) (.refl _) trivial trivial
def FW(a1:Int)(a2:Int):Option (((Bool×Nat)×Nat)×Int):=(if(a2==0)=true then some (((false,0),0),9)else(il a1).bind fun v4=>(dc (!((decide (a1<0))==(decide (a2<0)))) v4).bind fun(v6,v7)=>(il a2).bind fun v9=>(fl v6 v7 v9).bind fun((v11,v12),v13)=>some (((v11,v12),v13),0))
theorem Jc{a1:Int}{a2:Int}{r15:Bool}{r16:Nat}{r17:Nat}{r18:Int}(h:FW a1 a2=some (((r15,r16),r17),r18)):bf PP 36 [] [D.int .i64 a1,D.int .i64 a2] [] (D.ig [D.agg ([D.bool r15,ao r16,ao r17]),D.int .i64 r18]):=by
 unfold FW at h;refine .of Go.Proofs.Tryz.func36 rfl (by kernel_rfl) rfl rfl rfl rfl rfl rfl (fun A w0 L b=>?_);show Ok PP _ [(0,D.int .i64 a1),(1,D.int .i64 a2)] [] _ _;refine .al (.fN ([D.bool false,ao 0,ao 0]) aI ⟨.refl _,bj,bj,trivial⟩ rfl<|.aq rfl<|.nil) rfl ?_;refine .sq ?_;refine .al (.mv rfl<|.cm rfl rfl rfl<|.nil) rfl ?_;by_cases c3:(a2==0)=true
 ·replace h:=ab c3 h;refine .cl rfl c3 ?_;refine .al (.n_ ([D.bool false,ao 0,ao 0]) [] aI cY trivial trivial ⟨.refl _,bj,bj,trivial⟩<|.cU ([D.bool false,ao 0,ao 0]) rfl rfl rfl ae rfl rfl rfl<|.aq rfl<|.nil) rfl ?_;cases h;refine .aO (fun _ _ hb=>hb) rfl (.cons (.agg rfl rfl ae rfl) (.t1 (.tmp rfl))) (.refl _) trivial trivial
 ·replace h:=aa c3 h;refine .cq rfl c3 ?_;refine .skip (Ok.on ?_);obtain⟨v4,e5,h⟩:=bind_some h;obtain⟨⟨v6,v7⟩,e8,h⟩:=bind_some h;obtain⟨v9,e10,h⟩:=bind_some h;obtain⟨⟨⟨v11,v12⟩,v13⟩,e14,h⟩:=bind_some h;refine .al (.mv rfl<|.cm rfl rfl rfl<|.mv rfl<|.cm rfl rfl rfl<|.bc i5 rfl rfl rfl<|.mv rfl<|.ag (oc e5) ⟨rfl,trivial⟩ trivial trivial<|.ag (eY e8) ⟨rfl,rfl,trivial⟩ trivial trivial<|.mv rfl<|.ag (oc e10) ⟨rfl,trivial⟩ trivial trivial<|.ag (lK e14) ⟨rfl,rfl,trivial⟩ trivial trivial<|.cU ([D.bool v11,ao v12,ao v13]) rfl rfl rfl ae rfl rfl rfl<|.aq rfl<|.nil) rfl ?_;cases h;refine .aO (fun _ _ hb=>hb) rfl (.cons (.agg rfl rfl ae rfl) (.t1 (.tmp rfl))) (.refl _) trivial trivial
def qI(a1:Bool)(a2:Nat)(a3:Nat):Option (List UInt8):=(AI a2).bind fun v4=>((if a1=true then cj (([45]:List UInt8).length+v4.length<=9223372036854775807) (some ((([45]:List UInt8)++v4)))else some (v4))).bind fun v10=>((if(decide (((aL a3).length:Int)>0))=true then(fK a1 a2 a3).bind fun v14=>(AI v14).bind fun v16=>cj (([47]:List UInt8).length+v16.length<=9223372036854775807) (cj (v10.length+(([47]:List UInt8)++v16).length<=9223372036854775807) (some ((v10++(([47]:List UInt8)++v16)))))else some (v10))).bind fun v20=>some v20
theorem DD{a1:Bool}{a2:Nat}{a3:Nat}{r21:List UInt8}(h:qI a1 a2 a3=some r21):bf PP 33 [] [D.agg ([D.bool a1,ao a2,ao a3])] [] (cu r21):=by
 unfold qI at h;refine .of Go.Proofs.Tryz.func33 rfl (by kernel_rfl) rfl rfl rfl rfl rfl rfl (fun A w0 L b=>?_);show Ok PP _ [(0,D.agg ([D.bool a1,ao a2,ao a3]))] [] _ _;refine .al (.iP rfl rfl<|.aq rfl<|.nil) rfl ?_;obtain⟨v4,e5,h⟩:=bind_some h;refine .al (.fa rfl ct<|.fa rfl aU<|.bu (ao a2) rfl rfl bg rfl<|.ag (GP e5) ⟨rfl,trivial⟩ trivial trivial<|.aq rfl<|.nil) rfl ?_;obtain⟨v10,hp7,h⟩:=bind_some h;refine .cc (fun i=>v10=i) (fun(i:(List UInt8))=>[(1,D.ref 1 0),(3,cu i)]) (fun(i:(List UInt8))=>[(1,Hp.box 28 ([D.bool a1,ao a2,ao a3]))]) ?_ ?_
 ·have ho1:=h;have h:=hp7;refine .al (.fa rfl ct<|.fa rfl ba<|.bu (D.bool a1) rfl rfl bT rfl<|.nil) rfl ?_;by_cases c8:a1=true
  ·replace h:=ab c8 h;refine .cl rfl c8 ?_;obtain⟨k9,h⟩:=av h;refine .region (.mv rfl<|.yB rfl rfl k9<|.aq rfl<|.nil) rfl (fun _ _ hs=>⟨(([45]:List UInt8)++v4),(sj h),hs.sub (.of rfl) (.of rfl) rfl rfl⟩)
  ·replace h:=aa c8 h;refine .cq rfl c8 ?_;refine .skip (fun _ _ hs=>⟨v4,(sj h),hs.sub (.of rfl) (.of rfl) rfl rfl⟩)
 ·rintro _ rfl
  try dsimp only
  obtain⟨v20,hp12,h⟩:=bind_some h;refine .cc (fun i=>v20=i) (fun(i:(List UInt8))=>[(3,cu i)]) (fun(i:(List UInt8))=>[]) ?_ ?_
  ·have ho1:=h;have h:=hp12;refine .al (.fa rfl mf<|.bu (ao a3) rfl rfl bg rfl<|.y_ rfl aw<|.cm rfl rfl rfl<|.nil) rfl ?_;by_cases c13:(decide (((aL a3).length:Int)>0))=true
   ·replace h:=ab c13 h;refine .cl rfl c13 ?_;obtain⟨v14,e15,h⟩:=bind_some h;obtain⟨v16,e17,h⟩:=bind_some h;obtain⟨k18,h⟩:=av h;obtain⟨k19,h⟩:=av h;refine .region (.mv rfl<|.ck ([D.bool a1,ao a2,ao a3]) rfl rfl ae rfl rfl<|.ag (i7 e15) ⟨rfl,trivial⟩ trivial trivial<|.ag (GP e17) ⟨rfl,trivial⟩ trivial trivial<|.yB rfl rfl k18<|.yB rfl rfl k19<|.aq rfl<|.nil) rfl (fun _ _ hs=>⟨(v10++(([47]:List UInt8)++v16)),(sj h),hs.sub (.of rfl) trivial rfl rfl⟩)
   ·replace h:=aa c13 h;refine .cq rfl c13 ?_;refine .skip (fun _ _ hs=>⟨v10,(sj h),hs.sub (.of rfl) trivial rfl rfl⟩)
  ·rintro _ rfl
   try dsimp only
   refine .al (.mv rfl<|.aq rfl<|.nil) rfl ?_;cases h;refine .aO (fun _ _ hb=>hb) rfl (.t1 (.tmp rfl)) (.refl _) trivial trivial
def qA(a1:Bool)(a2:Nat)(a3:Nat)(a4:Bool)(a5:Nat)(a6:Nat):Option ((Bool×Nat)×Nat):=(fK a1 a2 a3).bind fun v7=>(fK a4 a5 a6).bind fun v9=>(eW a1 a2 v9).bind fun(v11,v12)=>(eW a4 a5 v7).bind fun(v14,v15)=>(kg v11 v12 v14 v15).bind fun(v17,v18)=>(qN v7 v9).bind fun v20=>(fl v17 v18 v20).bind fun((v22,v23),v24)=>some ((v22,v23),v24)
theorem A7{a1:Bool}{a2:Nat}{a3:Nat}{a4:Bool}{a5:Nat}{a6:Nat}{r26:Bool}{r27:Nat}{r28:Nat}(h:qA a1 a2 a3 a4 a5 a6=some ((r26,r27),r28)):bf PP 42 [] [D.agg ([D.bool a1,ao a2,ao a3]),D.agg ([D.bool a4,ao a5,ao a6])] [] (D.agg ([D.bool r26,ao r27,ao r28])):=by
 unfold qA at h;refine .of Go.Proofs.Tryz.func42 rfl (by kernel_rfl) rfl rfl rfl rfl rfl rfl (fun A w0 L b=>?_);show Ok PP _ [(0,D.agg ([D.bool a1,ao a2,ao a3])),(1,D.agg ([D.bool a4,ao a5,ao a6]))] [] _ _;refine .al (.iP rfl rfl<|.iP rfl rfl<|.fN ([D.bool false,ao 0,ao 0]) aI ⟨.refl _,bj,bj,trivial⟩ rfl<|.nil) rfl ?_;obtain⟨v7,e8,h⟩:=bind_some h;obtain⟨v9,e10,h⟩:=bind_some h;refine .cZ cf (.ck ([D.bool a1,ao a2,ao a3]) rfl rfl ae rfl rfl<|.ag (i7 e8) ⟨rfl,trivial⟩ trivial trivial<|.ck ([D.bool a4,ao a5,ao a6]) rfl rfl ae rfl rfl<|.ag (i7 e10) ⟨rfl,trivial⟩ trivial trivial<|.aq rfl<|.aq rfl<|.nil) rfl (by kernel_rfl) ?_;obtain⟨⟨v11,v12⟩,e13,h⟩:=bind_some h;obtain⟨⟨v14,v15⟩,e16,h⟩:=bind_some h;obtain⟨⟨v17,v18⟩,e19,h⟩:=bind_some h;obtain⟨v20,e21,h⟩:=bind_some h;obtain⟨⟨⟨v22,v23⟩,v24⟩,e25,h⟩:=bind_some h;refine .cZ cf (.fa rfl ct<|.ck ([D.bool a1,ao a2]) rfl rfl bB rfl rfl<|.mv rfl<|.ag (j9 e13) ⟨rfl,rfl,trivial⟩ trivial trivial<|.fa rfl ct<|.ck ([D.bool a4,ao a5]) rfl rfl bB rfl rfl<|.mv rfl<|.ag (j9 e16) ⟨rfl,rfl,trivial⟩ trivial trivial<|.ag (x5 e19) ⟨rfl,rfl,trivial⟩ trivial trivial<|.mv rfl<|.mv rfl<|.ag (uy e21) ⟨rfl,rfl,trivial⟩ trivial trivial<|.ag (lK e25) ⟨rfl,rfl,trivial⟩ trivial trivial<|.cU ([D.bool v22,ao v23,ao v24]) rfl rfl rfl ae rfl rfl rfl<|.nil) rfl (by kernel_rfl) ?_;cases h;refine .aO (fun _ _ hb=>hb) rfl (.cons (.agg rfl rfl ae rfl) .nil) (.refl _) trivial trivial
def p9(a1:Bool)(a2:Nat)(a3:Nat):Option ((Bool×Nat)×Nat):=(dc (!a1) a2).bind fun(v4,v5)=>some ((v4,v5),a3)
theorem AW{a1:Bool}{a2:Nat}{a3:Nat}{r7:Bool}{r8:Nat}{r9:Nat}(h:p9 a1 a2 a3=some ((r7,r8),r9)):bf PP 48 [] [D.agg ([D.bool a1,ao a2,ao a3])] [] (D.agg ([D.bool r7,ao r8,ao r9])):=by
 unfold p9 at h;refine .of Go.Proofs.Tryz.func48 rfl (by kernel_rfl) rfl rfl rfl rfl rfl rfl (fun A w0 L b=>?_);show Ok PP _ [(0,D.agg ([D.bool a1,ao a2,ao a3]))] [] _ _;refine .al (.iP rfl rfl<|.fN ([D.bool false,ao 0,ao 0]) aI ⟨.refl _,bj,bj,trivial⟩ rfl<|.nil) rfl ?_;obtain⟨⟨v4,v5⟩,e6,h⟩:=bind_some h;refine .cZ cf (.fa rfl ct<|.fa rfl ba<|.bu (D.bool a1) rfl rfl bT rfl<|.not rfl<|.fa rfl ct<|.fa rfl aU<|.bu (ao a2) rfl rfl bg rfl<|.ag (eY e6) ⟨rfl,rfl,trivial⟩ trivial trivial<|.fa rfl mf<|.bu (ao a3) rfl rfl bg rfl<|.n_ ([D.bool v4,ao v5,ao a3]) [(0,_,D.agg ([D.bool v4,ao v5]),[D.bool v4,ao v5]),(2,_,ao a3,[ao a3])] aI cY ⟨rfl,rfl,.agg _,rfl,rfl,rfl,.one rfl,rfl,trivial⟩ ⟨rfl,rfl,trivial⟩ ⟨.refl _,.refl _,.refl _,trivial⟩<|.cU ([D.bool v4,ao v5,ao a3]) rfl rfl rfl ae rfl rfl rfl<|.nil) rfl (by kernel_rfl) ?_;cases h;refine .aO (fun _ _ hb=>hb) rfl (.cons (.agg rfl rfl ae rfl) .nil) (.refl _) trivial trivial
def s6(a1:Bool)(a2:Nat)(a3:Nat)(a4:Bool)(a5:Nat)(a6:Nat):Option ((Bool×Nat)×Nat):=(p9 a4 a5 a6).bind fun((v7,v8),v9)=>(qA a1 a2 a3 v7 v8 v9).bind fun((v11,v12),v13)=>some ((v11,v12),v13)
theorem FH{a1:Bool}{a2:Nat}{a3:Nat}{a4:Bool}{a5:Nat}{a6:Nat}{r15:Bool}{r16:Nat}{r17:Nat}(h:s6 a1 a2 a3 a4 a5 a6=some ((r15,r16),r17)):bf PP 44 [] [D.agg ([D.bool a1,ao a2,ao a3]),D.agg ([D.bool a4,ao a5,ao a6])] [] (D.agg ([D.bool r15,ao r16,ao r17])):=by
 unfold s6 at h;refine .of Go.Proofs.Tryz.func44 rfl (by kernel_rfl) rfl rfl rfl rfl rfl rfl (fun A w0 L b=>?_);show Ok PP _ [(0,D.agg ([D.bool a1,ao a2,ao a3])),(1,D.agg ([D.bool a4,ao a5,ao a6]))] [] _ _;refine .al (.iP rfl rfl<|.iP rfl rfl<|.fN ([D.bool false,ao 0,ao 0]) aI ⟨.refl _,bj,bj,trivial⟩ rfl<|.nil) rfl ?_;obtain⟨⟨⟨v7,v8⟩,v9⟩,e10,h⟩:=bind_some h;obtain⟨⟨⟨v11,v12⟩,v13⟩,e14,h⟩:=bind_some h;refine .cZ cf (.ck ([D.bool a1,ao a2,ao a3]) rfl rfl ae rfl rfl<|.ck ([D.bool a4,ao a5,ao a6]) rfl rfl ae rfl rfl<|.ag (AW e10) ⟨rfl,trivial⟩ trivial trivial<|.ag (A7 e14) ⟨rfl,rfl,trivial⟩ trivial trivial<|.cU ([D.bool v11,ao v12,ao v13]) rfl rfl rfl ae rfl rfl rfl<|.nil) rfl (by kernel_rfl) ?_;cases h;refine .aO (fun _ _ hb=>hb) rfl (.cons (.agg rfl rfl ae rfl) .nil) (.refl _) trivial trivial
def sV(a1:Bool)(a2:Nat)(a3:Nat)(a4:Bool)(a5:Nat)(a6:Nat):Option ((Bool×Nat)×Nat):=(qN a2 a5).bind fun v7=>(dc (!(a1==a4)) v7).bind fun(v9,v10)=>(fK a1 a2 a3).bind fun v12=>(fK a4 a5 a6).bind fun v14=>(qN v12 v14).bind fun v16=>(fl v9 v10 v16).bind fun((v18,v19),v20)=>some ((v18,v19),v20)
theorem GH{a1:Bool}{a2:Nat}{a3:Nat}{a4:Bool}{a5:Nat}{a6:Nat}{r22:Bool}{r23:Nat}{r24:Nat}(h:sV a1 a2 a3 a4 a5 a6=some ((r22,r23),r24)):bf PP 46 [] [D.agg ([D.bool a1,ao a2,ao a3]),D.agg ([D.bool a4,ao a5,ao a6])] [] (D.agg ([D.bool r22,ao r23,ao r24])):=by
 unfold sV at h;refine .of Go.Proofs.Tryz.func46 rfl (by kernel_rfl) rfl rfl rfl rfl rfl rfl (fun A w0 L b=>?_);show Ok PP _ [(0,D.agg ([D.bool a1,ao a2,ao a3])),(1,D.agg ([D.bool a4,ao a5,ao a6]))] [] _ _;refine .al (.iP rfl rfl<|.iP rfl rfl<|.fN ([D.bool false,ao 0,ao 0]) aI ⟨.refl _,bj,bj,trivial⟩ rfl<|.nil) rfl ?_;obtain⟨v7,e8,h⟩:=bind_some h;obtain⟨⟨v9,v10⟩,e11,h⟩:=bind_some h;obtain⟨v12,e13,h⟩:=bind_some h;obtain⟨v14,e15,h⟩:=bind_some h;obtain⟨v16,e17,h⟩:=bind_some h;obtain⟨⟨⟨v18,v19⟩,v20⟩,e21,h⟩:=bind_some h;refine .cZ cf (.fa rfl ct<|.fa rfl ba<|.bu (D.bool a1) rfl rfl bT rfl<|.fa rfl ct<|.fa rfl ba<|.bu (D.bool a4) rfl rfl bT rfl<|.bc i5 rfl rfl rfl<|.fa rfl ct<|.fa rfl aU<|.bu (ao a2) rfl rfl bg rfl<|.fa rfl ct<|.fa rfl aU<|.bu (ao a5) rfl rfl bg rfl<|.ag (uy e8) ⟨rfl,rfl,trivial⟩ trivial trivial<|.ag (eY e11) ⟨rfl,rfl,trivial⟩ trivial trivial<|.ck ([D.bool a1,ao a2,ao a3]) rfl rfl ae rfl rfl<|.ag (i7 e13) ⟨rfl,trivial⟩ trivial trivial<|.ck ([D.bool a4,ao a5,ao a6]) rfl rfl ae rfl rfl<|.ag (i7 e15) ⟨rfl,trivial⟩ trivial trivial<|.ag (uy e17) ⟨rfl,rfl,trivial⟩ trivial trivial<|.ag (lK e21) ⟨rfl,rfl,trivial⟩ trivial trivial<|.cU ([D.bool v18,ao v19,ao v20]) rfl rfl rfl ae rfl rfl rfl<|.nil) rfl (by kernel_rfl) ?_;cases h;refine .aO (fun _ _ hb=>hb) rfl (.cons (.agg rfl rfl ae rfl) .nil) (.refl _) trivial trivial
def mU(a1:Bool)(a2:Nat)(a3:Nat)(a4:Bool)(a5:Nat)(a6:Nat):Option ((Bool×Nat)×Nat):=(fK a4 a5 a6).bind fun v7=>(qN a2 v7).bind fun v9=>(dc (!(a1==a4)) v9).bind fun(v11,v12)=>(fK a1 a2 a3).bind fun v14=>(qN v14 a5).bind fun v16=>(fl v11 v12 v16).bind fun((v18,v19),v20)=>some ((v18,v19),v20)
theorem yT{a1:Bool}{a2:Nat}{a3:Nat}{a4:Bool}{a5:Nat}{a6:Nat}{r22:Bool}{r23:Nat}{r24:Nat}(h:mU a1 a2 a3 a4 a5 a6=some ((r22,r23),r24)):bf PP 164 [] [D.agg ([D.bool a1,ao a2,ao a3]),D.agg ([D.bool a4,ao a5,ao a6])] [] (D.agg ([D.bool r22,ao r23,ao r24])):=by
 unfold mU at h;refine .of Go.Proofs.Tryz.func164 rfl (by kernel_rfl) rfl rfl rfl rfl rfl rfl (fun A w0 L b=>?_);show Ok PP _ [(0,D.agg ([D.bool a1,ao a2,ao a3])),(1,D.agg ([D.bool a4,ao a5,ao a6]))] [] _ _;refine .al (.iP rfl rfl<|.iP rfl rfl<|.fN ([D.bool false,ao 0,ao 0]) aI ⟨.refl _,bj,bj,trivial⟩ rfl<|.nil) rfl ?_;obtain⟨v7,e8,h⟩:=bind_some h;obtain⟨v9,e10,h⟩:=bind_some h;obtain⟨⟨v11,v12⟩,e13,h⟩:=bind_some h;obtain⟨v14,e15,h⟩:=bind_some h;obtain⟨v16,e17,h⟩:=bind_some h;obtain⟨⟨⟨v18,v19⟩,v20⟩,e21,h⟩:=bind_some h;refine .cZ cf (.fa rfl ct<|.fa rfl ba<|.bu (D.bool a1) rfl rfl bT rfl<|.fa rfl ct<|.fa rfl ba<|.bu (D.bool a4) rfl rfl bT rfl<|.bc i5 rfl rfl rfl<|.fa rfl ct<|.fa rfl aU<|.bu (ao a2) rfl rfl bg rfl<|.ck ([D.bool a4,ao a5,ao a6]) rfl rfl ae rfl rfl<|.ag (i7 e8) ⟨rfl,trivial⟩ trivial trivial<|.ag (uy e10) ⟨rfl,rfl,trivial⟩ trivial trivial<|.ag (eY e13) ⟨rfl,rfl,trivial⟩ trivial trivial<|.ck ([D.bool a1,ao a2,ao a3]) rfl rfl ae rfl rfl<|.ag (i7 e15) ⟨rfl,trivial⟩ trivial trivial<|.fa rfl ct<|.fa rfl aU<|.bu (ao a5) rfl rfl bg rfl<|.ag (uy e17) ⟨rfl,rfl,trivial⟩ trivial trivial<|.ag (lK e21) ⟨rfl,rfl,trivial⟩ trivial trivial<|.cU ([D.bool v18,ao v19,ao v20]) rfl rfl rfl ae rfl rfl rfl<|.nil) rfl (by kernel_rfl) ?_;cases h;refine .aO (fun _ _ hb=>hb) rfl (.cons (.agg rfl rfl ae rfl) .nil) (.refl _) trivial trivial
def nS(a1:Bool)(a2:Nat)(a3:Nat):Option Int:=(jI a1 a2).bind fun v4=>some v4
theorem xS{a1:Bool}{a2:Nat}{a3:Nat}{r6:Int}(h:nS a1 a2 a3=some r6):bf PP 24 [] [D.agg ([D.bool a1,ao a2,ao a3])] [] (D.int .i64 r6):=by
 unfold nS at h;refine .of Go.Proofs.Tryz.func24 rfl (by kernel_rfl) rfl rfl rfl rfl rfl rfl (fun A w0 L b=>?_);show Ok PP _ [(0,D.agg ([D.bool a1,ao a2,ao a3]))] [] _ _;refine .al (.iP rfl rfl<|.aq rfl<|.nil) rfl ?_;obtain⟨v4,e5,h⟩:=bind_some h;refine .al (.fa rfl ct<|.ck ([D.bool a1,ao a2]) rfl rfl bB rfl rfl<|.ag (xd e5) ⟨rfl,trivial⟩ trivial trivial<|.aq rfl<|.nil) rfl ?_;cases h;refine .aO (fun _ _ hb=>hb) rfl (.t1 (.tmp rfl)) (.refl _) trivial trivial
def s8(a1:Bool)(a2:Nat)(a3:Nat):Option ((Bool×Nat)×Nat):=(dc false a2).bind fun(v4,v5)=>some ((v4,v5),a3)
theorem FF{a1:Bool}{a2:Nat}{a3:Nat}{r7:Bool}{r8:Nat}{r9:Nat}(h:s8 a1 a2 a3=some ((r7,r8),r9)):bf PP 50 [] [D.agg ([D.bool a1,ao a2,ao a3])] [] (D.agg ([D.bool r7,ao r8,ao r9])):=by
 unfold s8 at h;refine .of Go.Proofs.Tryz.func50 rfl (by kernel_rfl) rfl rfl rfl rfl rfl rfl (fun A w0 L b=>?_);show Ok PP _ [(0,D.agg ([D.bool a1,ao a2,ao a3]))] [] _ _;refine .al (.iP rfl rfl<|.fN ([D.bool false,ao 0,ao 0]) aI ⟨.refl _,bj,bj,trivial⟩ rfl<|.nil) rfl ?_;obtain⟨⟨v4,v5⟩,e6,h⟩:=bind_some h;refine .cZ cf (.fa rfl ct<|.fa rfl aU<|.bu (ao a2) rfl rfl bg rfl<|.ag (eY e6) ⟨rfl,rfl,trivial⟩ trivial trivial<|.fa rfl mf<|.bu (ao a3) rfl rfl bg rfl<|.n_ ([D.bool v4,ao v5,ao a3]) [(0,_,D.agg ([D.bool v4,ao v5]),[D.bool v4,ao v5]),(2,_,ao a3,[ao a3])] aI cY ⟨rfl,rfl,.agg _,rfl,rfl,rfl,.one rfl,rfl,trivial⟩ ⟨rfl,rfl,trivial⟩ ⟨.refl _,.refl _,.refl _,trivial⟩<|.cU ([D.bool v4,ao v5,ao a3]) rfl rfl rfl ae rfl rfl rfl<|.nil) rfl (by kernel_rfl) ?_;cases h;refine .aO (fun _ _ hb=>hb) rfl (.cons (.agg rfl rfl ae rfl) .nil) (.refl _) trivial trivial
def sS(a1:Bool)(a2:Nat)(a3:Nat)(a4:Bool)(a5:Nat)(a6:Nat):Option Int:=(fK a4 a5 a6).bind fun v7=>(eW a1 a2 v7).bind fun(v9,v10)=>(fK a1 a2 a3).bind fun v12=>(eW a4 a5 v12).bind fun(v14,v15)=>(kv v9 v10 v14 v15).bind fun v17=>some v17
theorem Fw{a1:Bool}{a2:Nat}{a3:Nat}{a4:Bool}{a5:Nat}{a6:Nat}{r19:Int}(h:sS a1 a2 a3 a4 a5 a6=some r19):bf PP 35 [] [D.agg ([D.bool a1,ao a2,ao a3]),D.agg ([D.bool a4,ao a5,ao a6])] [] (D.int .i64 r19):=by
 unfold sS at h;refine .of Go.Proofs.Tryz.func35 rfl (by kernel_rfl) rfl rfl rfl rfl rfl rfl (fun A w0 L b=>?_);show Ok PP _ [(0,D.agg ([D.bool a1,ao a2,ao a3])),(1,D.agg ([D.bool a4,ao a5,ao a6]))] [] _ _;refine .al (.iP rfl rfl<|.iP rfl rfl<|.aq rfl<|.nil) rfl ?_;obtain⟨v7,e8,h⟩:=bind_some h;obtain⟨⟨v9,v10⟩,e11,h⟩:=bind_some h;obtain⟨v12,e13,h⟩:=bind_some h;obtain⟨⟨v14,v15⟩,e16,h⟩:=bind_some h;obtain⟨v17,e18,h⟩:=bind_some h;refine .cZ cf (.fa rfl ct<|.ck ([D.bool a1,ao a2]) rfl rfl bB rfl rfl<|.ck ([D.bool a4,ao a5,ao a6]) rfl rfl ae rfl rfl<|.ag (i7 e8) ⟨rfl,trivial⟩ trivial trivial<|.ag (j9 e11) ⟨rfl,rfl,trivial⟩ trivial trivial<|.fa rfl ct<|.ck ([D.bool a4,ao a5]) rfl rfl bB rfl rfl<|.ck ([D.bool a1,ao a2,ao a3]) rfl rfl ae rfl rfl<|.ag (i7 e13) ⟨rfl,trivial⟩ trivial trivial<|.ag (j9 e16) ⟨rfl,rfl,trivial⟩ trivial trivial<|.ag (yC e18) ⟨rfl,rfl,trivial⟩ trivial trivial<|.aq rfl<|.nil) rfl (by kernel_rfl) ?_;cases h;refine .aO (fun _ _ hb=>hb) rfl (.t1 (.tmp rfl)) (.refl _) trivial trivial
def sJ(a1:Bool)(a2:Nat)(a3:Nat):Option ((Bool×Nat)×Nat):=(fK a1 a2 a3).bind fun v4=>(vm false v4).bind fun((v6,v7),v8)=>some ((v6,v7),v8)
theorem FD{a1:Bool}{a2:Nat}{a3:Nat}{r10:Bool}{r11:Nat}{r12:Nat}(h:sJ a1 a2 a3=some ((r10,r11),r12)):bf PP 76 [] [D.agg ([D.bool a1,ao a2,ao a3])] [] (D.agg ([D.bool r10,ao r11,ao r12])):=by
 unfold sJ at h;refine .of Go.Proofs.Tryz.func76 rfl (by kernel_rfl) rfl rfl rfl rfl rfl rfl (fun A w0 L b=>?_);show Ok PP _ [(0,D.agg ([D.bool a1,ao a2,ao a3]))] [] _ _;refine .al (.iP rfl rfl<|.fN ([D.bool false,ao 0,ao 0]) aI ⟨.refl _,bj,bj,trivial⟩ rfl<|.nil) rfl ?_;obtain⟨v4,e5,h⟩:=bind_some h;obtain⟨⟨⟨v6,v7⟩,v8⟩,e9,h⟩:=bind_some h;refine .al (.ck ([D.bool a1,ao a2,ao a3]) rfl rfl ae rfl rfl<|.ag (i7 e5) ⟨rfl,trivial⟩ trivial trivial<|.n_ ([D.bool false,ao v4]) [(1,_,ao v4,[ao v4])] eo ik ⟨rfl,rfl,.one rfl,rfl,trivial⟩ ⟨rfl,trivial⟩ ⟨.refl _,.refl _,trivial⟩<|.ag (DP e9) ⟨rfl,trivial⟩ trivial trivial<|.cU ([D.bool v6,ao v7,ao v8]) rfl rfl rfl ae rfl rfl rfl<|.nil) rfl ?_;cases h;refine .aO (fun _ _ hb=>hb) rfl (.cons (.agg rfl rfl ae rfl) .nil) (.refl _) trivial trivial
def oI(a1:Bool)(a2:Nat)(a3:Nat):Option ((Bool×Nat)×Nat):=(fK a1 a2 a3).bind fun v4=>(iX a1 a2 v4).bind fun(v6,v7)=>(vm v6 v7).bind fun((v9,v10),v11)=>some ((v9,v10),v11)
theorem BO{a1:Bool}{a2:Nat}{a3:Nat}{r13:Bool}{r14:Nat}{r15:Nat}(h:oI a1 a2 a3=some ((r13,r14),r15)):bf PP 78 [] [D.agg ([D.bool a1,ao a2,ao a3])] [] (D.agg ([D.bool r13,ao r14,ao r15])):=by
 unfold oI at h;refine .of Go.Proofs.Tryz.func78 rfl (by kernel_rfl) rfl rfl rfl rfl rfl rfl (fun A w0 L b=>?_);show Ok PP _ [(0,D.agg ([D.bool a1,ao a2,ao a3]))] [] _ _;refine .al (.iP rfl rfl<|.fN ([D.bool false,ao 0,ao 0]) aI ⟨.refl _,bj,bj,trivial⟩ rfl<|.nil) rfl ?_;obtain⟨v4,e5,h⟩:=bind_some h;obtain⟨⟨v6,v7⟩,e8,h⟩:=bind_some h;obtain⟨⟨⟨v9,v10⟩,v11⟩,e12,h⟩:=bind_some h;refine .cZ cf (.fa rfl ct<|.ck ([D.bool a1,ao a2]) rfl rfl bB rfl rfl<|.ck ([D.bool a1,ao a2,ao a3]) rfl rfl ae rfl rfl<|.ag (i7 e5) ⟨rfl,trivial⟩ trivial trivial<|.ag (u_ e8) ⟨rfl,rfl,trivial⟩ trivial trivial<|.ag (DP e12) ⟨rfl,trivial⟩ trivial trivial<|.cU ([D.bool v9,ao v10,ao v11]) rfl rfl rfl ae rfl rfl rfl<|.nil) rfl (by kernel_rfl) ?_;cases h;refine .aO (fun _ _ hb=>hb) rfl (.cons (.agg rfl rfl ae rfl) .nil) (.refl _) trivial trivial
def rG(a1:Int):Option ((Bool×Nat)×Nat):=(m_ 1).bind fun v2=>(wq v2 a1).bind fun v4=>(vm false v4).bind fun((v6,v7),v8)=>some ((v6,v7),v8)
theorem HJ{a1:Int}{r10:Bool}{r11:Nat}{r12:Nat}(h:rG a1=some ((r10,r11),r12)):bf PP 171 [] [D.int .i64 a1] [] (D.agg ([D.bool r10,ao r11,ao r12])):=by
 unfold rG at h;refine .of Go.Proofs.Tryz.func171 rfl (by kernel_rfl) rfl rfl rfl rfl rfl rfl (fun A w0 L b=>?_);show Ok PP _ [(0,D.int .i64 a1)] [] _ _;refine .al (.fN ([D.bool false,ao 0,ao 0]) aI ⟨.refl _,bj,bj,trivial⟩ rfl<|.nil) rfl ?_;obtain⟨v2,e3,h⟩:=bind_some h;obtain⟨v4,e5,h⟩:=bind_some h;obtain⟨⟨⟨v6,v7⟩,v8⟩,e9,h⟩:=bind_some h;refine .al (.ag (uY e3) ⟨rfl,trivial⟩ trivial trivial<|.mv rfl<|.ag (DM e5) ⟨rfl,rfl,trivial⟩ trivial trivial<|.n_ ([D.bool false,ao v4]) [(1,_,ao v4,[ao v4])] eo ik ⟨rfl,rfl,.one rfl,rfl,trivial⟩ ⟨rfl,trivial⟩ ⟨.refl _,.refl _,trivial⟩<|.ag (DP e9) ⟨rfl,trivial⟩ trivial trivial<|.cU ([D.bool v6,ao v7,ao v8]) rfl rfl rfl ae rfl rfl rfl<|.nil) rfl ?_;cases h;refine .aO (fun _ _ hb=>hb) rfl (.cons (.agg rfl rfl ae rfl) .nil) (.refl _) trivial trivial
def qp(a1:Bool)(a2:Nat)(a3:Nat)(a4:Int):Option (((Bool×Nat)×Nat)×Int):=(if(decide (a4<0))=true then some (((false,0),0),3)else(if(decide (a4>64))=true then some (((false,0),0),3)else(nS a1 a2 a3).bind fun v7=>(if(decide (v7<0))=true then some (((false,0),0),8)else(wq a2 (IntKind.i64.wrap (2*a4))).bind fun v10=>(fK a1 a2 a3).bind fun v12=>(lT v10 v12).bind fun(v14,v15)=>(za v14).bind fun v17=>(vm false v17).bind fun((v19,v20),v21)=>(rG a4).bind fun((v23,v24),v25)=>(mU v19 v20 v21 v23 v24 v25).bind fun((v27,v28),v29)=>some (((v27,v28),v29),0))))
theorem tE{a1:Bool}{a2:Nat}{a3:Nat}{a4:Int}{r31:Bool}{r32:Nat}{r33:Nat}{r34:Int}(h:qp a1 a2 a3 a4=some (((r31,r32),r33),r34)):bf PP 29 [] [D.agg ([D.bool a1,ao a2,ao a3]),D.int .i64 a4] [] (D.ig [D.agg ([D.bool r31,ao r32,ao r33]),D.int .i64 r34]):=by
 unfold qp at h;refine .of Go.Proofs.Tryz.func29 rfl (by kernel_rfl) rfl rfl rfl rfl rfl rfl (fun A w0 L b=>?_);show Ok PP _ [(0,D.agg ([D.bool a1,ao a2,ao a3])),(1,D.int .i64 a4)] [] _ _;refine .al (.iP rfl rfl<|.fN ([D.bool false,ao 0,ao 0]) aI ⟨.refl _,bj,bj,trivial⟩ rfl<|.aq rfl<|.nil) rfl ?_;refine .sq ?_;refine .block ?_;by_cases c5:(decide (a4<0))=true
 ·replace h:=ab c5 h;refine .al (.mv rfl<|.cm rfl rfl rfl<|.mv rfl<|.gk c5<|.gk c5<|.aX rfl c5 rfl<|.aq rfl<|.nil) rfl ?_;refine .cl rfl rfl ?_;refine .al (.n_ ([D.bool false,ao 0,ao 0]) [] aI cY trivial trivial ⟨.refl _,bj,bj,trivial⟩<|.cU ([D.bool false,ao 0,ao 0]) rfl rfl rfl ae rfl rfl rfl<|.aq rfl<|.nil) rfl ?_;cases h;refine .aO (fun _ _ hb=>hb) rfl (.cons (.agg rfl rfl ae rfl) (.t1 (.tmp rfl))) (.refl _) trivial trivial
 ·replace h:=aa c5 h;refine .al (.mv rfl<|.cm rfl rfl rfl<|.mv rfl<|.gz c5<|.mv rfl<|.gz c5<|.cm rfl rfl rfl<|.aT rfl c5 rfl<|.aq rfl<|.nil) rfl ?_;by_cases c6:(decide (a4>64))=true
  ·replace h:=ab c6 h;refine .cl rfl c6 ?_;refine .al (.n_ ([D.bool false,ao 0,ao 0]) [] aI cY trivial trivial ⟨.refl _,bj,bj,trivial⟩<|.cU ([D.bool false,ao 0,ao 0]) rfl rfl rfl ae rfl rfl rfl<|.aq rfl<|.nil) rfl ?_;cases h;refine .aO (fun _ _ hb=>hb) rfl (.cons (.agg rfl rfl ae rfl) (.t1 (.tmp rfl))) (.refl _) trivial trivial
  ·replace h:=aa c6 h;refine .cq rfl c6 ?_;obtain⟨v7,e8,h⟩:=bind_some h;refine .al (.ck ([D.bool a1,ao a2,ao a3]) rfl rfl ae rfl rfl<|.ag (xS e8) ⟨rfl,trivial⟩ trivial trivial<|.cm rfl rfl rfl<|.aq rfl<|.nil) rfl ?_;by_cases c9:(decide (v7<0))=true
   ·replace h:=ab c9 h;refine .cl rfl c9 ?_;refine .al (.n_ ([D.bool false,ao 0,ao 0]) [] aI cY trivial trivial ⟨.refl _,bj,bj,trivial⟩<|.cU ([D.bool false,ao 0,ao 0]) rfl rfl rfl ae rfl rfl rfl<|.aq rfl<|.nil) rfl ?_;cases h;refine .aO (fun _ _ hb=>hb) rfl (.cons (.agg rfl rfl ae rfl) (.t1 (.tmp rfl))) (.refl _) trivial trivial
   ·replace h:=aa c9 h;refine .cq rfl c9 ?_;refine .skip (Ok.on ?_);obtain⟨v10,e11,h⟩:=bind_some h;obtain⟨v12,e13,h⟩:=bind_some h;obtain⟨⟨v14,v15⟩,e16,h⟩:=bind_some h;refine .cZ cf (.fa rfl ct<|.fa rfl aU<|.bu (ao a2) rfl rfl bg rfl<|.mv rfl<|.ar rfl rfl rfl<|.ag (DM e11) ⟨rfl,rfl,trivial⟩ trivial trivial<|.ck ([D.bool a1,ao a2,ao a3]) rfl rfl ae rfl rfl<|.ag (i7 e13) ⟨rfl,trivial⟩ trivial trivial<|.ag (rT e16) ⟨rfl,rfl,trivial⟩ trivial trivial<|.mv rfl<|.ext rfl rfl<|.ext rfl rfl<|.aq rfl<|.aq rfl<|.nil) rfl (by kernel_rfl) ?_;obtain⟨v17,e18,h⟩:=bind_some h;obtain⟨⟨⟨v19,v20⟩,v21⟩,e22,h⟩:=bind_some h;obtain⟨⟨⟨v23,v24⟩,v25⟩,e26,h⟩:=bind_some h;obtain⟨⟨⟨v27,v28⟩,v29⟩,e30,h⟩:=bind_some h;refine .al (.mv rfl<|.ag (Hu e18) ⟨rfl,trivial⟩ trivial trivial<|.n_ ([D.bool false,ao v17]) [(1,_,ao v17,[ao v17])] eo ik ⟨rfl,rfl,.one rfl,rfl,trivial⟩ ⟨rfl,trivial⟩ ⟨.refl _,.refl _,trivial⟩<|.ag (DP e22) ⟨rfl,trivial⟩ trivial trivial<|.mv rfl<|.ag (HJ e26) ⟨rfl,trivial⟩ trivial trivial<|.ag (yT e30) ⟨rfl,rfl,trivial⟩ trivial trivial<|.cU ([D.bool v27,ao v28,ao v29]) rfl rfl rfl ae rfl rfl rfl<|.aq rfl<|.nil) rfl ?_;cases h;refine .aO (fun _ _ hb=>hb) rfl (.cons (.agg rfl rfl ae rfl) (.t1 (.tmp rfl))) (.refl _) trivial trivial
end
end Go.Am
namespace Go.Am
open Go.RowKit
theorem dh{x y m n:Nat}(h:bN x<=m)(k:bN y<=n):bN (x*y)<=m+n:=by
 rw[ir]at*;rw[Nat.pow_add];exact Nat.mul_lt_mul'' h k
theorem kD{x y:Int}{n:Nat}(h:bN x.natAbs<=n)(k:bN y.natAbs<=n):bN (x+y).natAbs<=n+1:=
 Nat.le_trans (dI (Int.natAbs_add_le x y)) (qu h k)
def sg(neg:Bool)(n:Nat):Int:=if neg then-(n:Int)else n
theorem FM(z:Int):sg (decide (z<0)) z.natAbs=z:=by
 unfold sg;by_cases h:z<0
 ·rw[decide_eq_true h,if_pos rfl];omega
 ·rw[decide_eq_false h,if_neg (by decide)];omega
theorem oj(neg:Bool)(n:Nat):(sg neg n).natAbs=n:=by unfold sg;split<;>omega
theorem zO(z w:Int):sg (!(decide (z<0)==decide (w<0))) (z.natAbs*w.natAbs)=z*w:=by
 unfold sg;rcases Int.lt_or_le z 0 with h|h<;>rcases Int.lt_or_le w 0 with k|k
 ·rw[decide_eq_true h,decide_eq_true k,if_neg (by decide)];rw[Int.natCast_mul,Int.ofNat_natAbs_of_nonpos (Int.le_of_lt h),Int.ofNat_natAbs_of_nonpos (Int.le_of_lt k),Int.neg_mul_neg]
 ·rw[decide_eq_true h,decide_eq_false (by omega),if_pos (by decide)];rw[Int.natCast_mul,Int.ofNat_natAbs_of_nonpos (Int.le_of_lt h),Int.natAbs_of_nonneg k,Int.neg_mul,Int.neg_neg]
 ·rw[decide_eq_false (by omega),decide_eq_true k,if_pos (by decide)];rw[Int.natCast_mul,Int.natAbs_of_nonneg h,Int.ofNat_natAbs_of_nonpos (Int.le_of_lt k),Int.mul_neg,Int.neg_neg]
 ·rw[decide_eq_false (by omega),decide_eq_false (by omega),if_neg (by decide)];rw[Int.natCast_mul,Int.natAbs_of_nonneg h,Int.natAbs_of_nonneg k]
theorem F9(z:Int)(d:Nat):sg (decide (z<0)) (z.natAbs*d)=z*d:=by
 have:=zO z d;rw[show decide ((d:Int)<0)=false from decide_eq_false (by omega)]at this;rw[←this];cases decide (z<0)<;>rfl
theorem Eo(z:Int):sg (!decide (z<0)) z.natAbs=-z:=by
 unfold sg;by_cases h:z<0
 ·rw[decide_eq_true h,if_neg (by decide)];omega
 ·rw[decide_eq_false h,if_pos (by decide)];omega
theorem ob(n:Nat):decide (((aL n).length:Int)>0)=decide (n≠0):=by
 by_cases h:n=0
 ·subst h;rw[dA];rfl
 ·have:=dn h;rw[decide_eq_true (by omega),decide_eq_true h]
theorem qR(n:Nat):(((aL n).length:Int)==0)=decide (n=0):=by
 by_cases h:n=0
 ·subst h;rw[dA];rfl
 ·have:=dn h;rw[decide_eq_false h,beq_eq_false_iff_ne];omega
theorem dZ(neg:Bool)(n:Nat):dc neg n=some (decide (sg neg n<0),(sg neg n).natAbs):=by
 unfold dc;rw[oj,ob];cases neg
 ·rw[if_neg (by decide)];unfold sg;rw[if_neg (by decide),decide_eq_false (by omega)]
 ·rw[if_pos rfl];unfold sg;rw[if_pos rfl];by_cases h:n=0
  ·subst h;rfl
  ·rw[decide_eq_true h,decide_eq_true (by omega)]
theorem ve(z:Int):jI (decide (z<0)) z.natAbs=some (if z<0 then-1 else if z=0 then 0 else 1):=by
 unfold jI;rw[qR];by_cases h:z<0
 ·rw[if_pos (decide_eq_true h),if_pos h]
 ·rw[if_neg (by simpa using h),if_neg h];by_cases h0:z=0
  ·subst h0;rfl
  ·rw[if_neg (by simpa using h0),if_neg h0]
theorem w_(z w:Int)(hz:sm z.natAbs)(hw:sm w.natAbs):kg (decide (z<0)) z.natAbs (decide (w<0)) w.natAbs=some (decide (z+w<0),(z+w).natAbs):=by
 unfold kg;have e1:∀(neg:Bool) (n:Nat),sg neg n=z+w->dc neg n=some (decide (z+w<0),(z+w).natAbs):=fun neg n h=>by rw[dZ,h]
 by_cases hs:(decide (z<0)==decide (w<0))=true
 ·rw[if_pos hs,qi hz hw,Option.bind_some,e1]
  ·rfl
  ·unfold sg;rw[beq_iff_eq]at hs;by_cases h:z<0
   ·rw[decide_eq_true h]at*;have hs:=of_decide_eq_true hs.symm;rw[if_pos rfl];omega
   ·rw[decide_eq_false h]at*;have hs:=of_decide_eq_false hs.symm;rw[if_neg (by decide)];omega
 ·rw[if_neg hs,qd hz hw,Option.bind_some];have hs2:(z<0/\0<=w)\/(0<=z/\w<0):=by
   rw[beq_iff_eq]at hs;by_cases h:z<0<;>by_cases k:w<0
   ·rw[decide_eq_true h,decide_eq_true k]at hs;exact absurd rfl hs
   ·left;omega
   ·right;omega
   ·rw[decide_eq_false h,decide_eq_false k]at hs;exact absurd rfl hs
  by_cases hc:w.natAbs<=z.natAbs
  ·rw[if_pos (decide_eq_true (qz hc)),uo hc hz,Option.bind_some,e1]
   ·rfl
   ·unfold sg;split<;>rename_i h<;>simp only[decide_eq_true_eq]at h<;>omega
  ·have:fI z.natAbs w.natAbs=-1:=by unfold fI;rw[if_pos (by omega)]
   rw[this,if_neg (by decide),uo (by omega) hw,Option.bind_some,e1]
   ·rfl
   ·unfold sg;split<;>rename_i h<;>simp only[decide_eq_true_eq]at h<;>omega
theorem jO(z:Int)(d:Nat)(hz:sm z.natAbs)(hd:sm d):eW (decide (z<0)) z.natAbs d=some (decide (z*d<0),(z*d).natAbs):=by
 unfold eW;rw[lV hz hd,Option.bind_some,dZ,F9];rfl
def B0(z w:Int):Int:=if z<w then-1 else if w<z then 1 else 0
theorem w8(z w:Int)(hz:sm z.natAbs)(hw:sm w.natAbs):kv (decide (z<0)) z.natAbs (decide (w<0)) w.natAbs=some (B0 z w):=by
 unfold kv B0;by_cases h:z<0<;>by_cases k:w<0
 ·rw[decide_eq_true h,decide_eq_true k,if_neg (by decide),if_pos rfl,qd hw hz];simp only[Option.bind_some,fI];congr 1;split<;>split<;>(try split)<;>(try split)<;>omega
 ·rw[decide_eq_true h,decide_eq_false k,if_pos (by decide),if_pos rfl,if_pos (by omega)]
 ·rw[decide_eq_false h,decide_eq_true k,if_pos (by decide),if_neg (by decide),if_neg (by omega),if_pos (by omega)]
 ·rw[decide_eq_false h,decide_eq_false k,if_neg (by decide),if_neg (by decide),qd hz hw];simp only[Option.bind_some,fI];congr 1;split<;>split<;>(try split)<;>(try split)<;>omega
theorem tQ(z:Int)(d:Nat)(h0:d≠0)(hz:sm z.natAbs)(hd:sm d):iX (decide (z<0)) z.natAbs d=some (decide (z/d<0),(z/d).natAbs):=by
 unfold iX;rw[jJ h0 hz hd,Option.bind_some];simp only;have hm:=Nat.div_add_mod z.natAbs d;have hlt:=Nat.mod_lt z.natAbs (Nat.pos_of_ne_zero h0);have hq:sm (z.natAbs/d):=nu (Nat.div_le_self _ _) hz;have e1:m_ (1:Int)=some 1:=kW (n:=1) (by omega);rw[e1,ob];have hsm1:sm 1:=jC (by omega);by_cases h:z<0
 ·rw[decide_eq_true h,if_pos rfl];by_cases hr:z.natAbs%d=0
  ·rw[if_neg (by simpa using hr),Option.bind_some,dZ];have:sg true (z.natAbs/d)=z/d:=by
    unfold sg;rw[if_pos rfl]
    symm;apply Int.ediv_eq_of_eq_mul_left (by omega)
    rw[Int.neg_mul,←Int.natCast_mul,Nat.mul_comm];omega
   rw[this];rfl
  ·rw[if_pos (by simpa using hr),Option.bind_some,qi hq hsm1,Option.bind_some,Option.bind_some,dZ];have:sg true (z.natAbs/d+1)=z/d:=by
    unfold sg;rw[if_pos rfl]
    symm
    have e:z=(((d-z.natAbs%d:Nat)):Int)+(d:Int)*(-((z.natAbs/d+1:Nat):Int)):=by
     have:((d*(z.natAbs/d):Nat):Int)=(d:Int)*((z.natAbs/d:Nat):Int):=Int.natCast_mul _ _;rw[Int.mul_neg,Int.natCast_add,Int.mul_add];omega
    rw[e,Int.add_mul_ediv_left _ _ (by omega),Int.ediv_eq_zero_of_lt (by omega) (by omega)];rw[←e];omega
   rw[this];rfl
 ·rw[decide_eq_false h,if_neg (by decide),Option.bind_some,dZ];have:sg false (z.natAbs/d)=z/d:=by
   unfold sg;rw[if_neg (by decide),Int.natCast_ediv];congr 1;omega
  rw[this];rfl
theorem nn(n:Int)(h:fm n):il n=some n.natAbs:=by
 unfold il;obtain⟨h0,h1⟩:=h;by_cases hn:n<0
 ·have e1:IntKind.u64.wrap (0-IntKind.u64.wrap n)=((n.natAbs:Nat):Int):=by
   rw[IntKind.wrap_u64,IntKind.wrap_u64];omega
  rw[if_pos (decide_eq_true hn),e1,kW (by omega)];rfl
 ·have e1:IntKind.u64.wrap n=((n.natAbs:Nat):Int):=by rw[IntKind.wrap_u64];omega
  rw[if_neg (by simpa using hn),e1,kW (by omega)];rfl
end Go.Am
namespace Go.Am
open Go.RowKit
abbrev rp(x:Rat):(Bool×Nat)×Nat:=((decide (x.num<0),x.num.natAbs),x.den-1)
theorem DX{g:Nat}(h:g≠0):ix (aL g) 0=some (g%4294967296):=by
 rw[lD h];rfl
theorem uz(z:Int)(d:Nat)(hd:d≠0):(mkRat z d).num=z/((Nat.gcd z.natAbs d:Nat):Int)/\(mkRat z d).den=d/Nat.gcd z.natAbs d:=by
 rw[Rat.num_mkRat,Rat.den_mkRat,if_neg hd,if_neg hd,Nat.gcd_comm];exact⟨rfl,rfl⟩
theorem El(z:Int)(g:Nat)(hg:g∣z.natAbs):sg (decide (z<0)) (z.natAbs/g)=z/(g:Int):=by
 obtain⟨k,hk⟩:=hg;rcases Nat.eq_zero_or_pos g with h0|h0
 ·subst h0;rw[Nat.zero_mul]at hk;have:z=0:=by omega
  subst this;rfl
 rw[hk,Nat.mul_div_cancel_left _ h0];unfold sg;by_cases h:z<0
 ·rw[decide_eq_true h,if_pos rfl]
  symm;apply Int.ediv_eq_of_eq_mul_right (by omega)
  rw[Int.mul_neg,←Int.natCast_mul];omega
 ·rw[decide_eq_false h,if_neg (by decide)]
  symm;apply Int.ediv_eq_of_eq_mul_right (by omega)
  rw[←Int.natCast_mul];omega
theorem kk(z:Int)(d:Nat)(hd:d≠0)(hz:sm z.natAbs)(hs:sm d):fl (decide (z<0)) z.natAbs d=some (rp (mkRat z d)):=by
 obtain⟨e1,e2⟩:=uz z d hd;unfold fl rp;rw[DA hz hs,Option.bind_some,e1,e2];have hg0:Nat.gcd z.natAbs d≠0:=fun h=>hd (Nat.eq_zero_of_gcd_eq_zero_right h);have hgd:Nat.gcd z.natAbs d∣d:=Nat.gcd_dvd_right _ _;have hgs:sm (Nat.gcd z.natAbs d):=nu (Nat.le_of_dvd (Nat.pos_of_ne_zero hd) hgd) hs;have hsg:=El z _ (Nat.gcd_dvd_left z.natAbs d);have hq1:d/Nat.gcd z.natAbs d≠0:=Nat.pos_iff_ne_zero.1 (Nat.div_pos (Nat.le_of_dvd (Nat.pos_of_ne_zero hd) hgd) (Nat.pos_of_ne_zero hg0));have hq2:sm (d/Nat.gcd z.natAbs d):=nu (Nat.div_le_self _ _) hs;generalize Nat.gcd z.natAbs d=g at*;have du:(if(((aL g).length:Int) !=1)=true then(lT z.natAbs g).bind fun(v9,v10)=>(lT d g).bind fun(v12,v13)=>some ((v12,v9))else(ix (aL g) 0).bind fun v15=>(if((v15:Int) !=1)=true then(lT z.natAbs g).bind fun(v18,v19)=>(lT d g).bind fun(v21,v22)=>some ((v21,v18))else some ((d,z.natAbs))))=some (d/g,z.natAbs/g):=by
  by_cases h1:(((aL g).length:Int) !=1)=true
  ·rw[if_pos h1,jJ hg0 hz hgs,Option.bind_some];dsimp only;rw[jJ hg0 hs hgs,Option.bind_some]
  ·rw[if_neg h1,DX hg0,Option.bind_some];by_cases h2:(((g%4294967296:Nat):Int) !=1)=true
   ·rw[if_pos h2,jJ hg0 hz hgs,Option.bind_some];dsimp only;rw[jJ hg0 hs hgs,Option.bind_some]
   ·rw[if_neg h2];have h3:(aL g).length=1:=by
     have:((aL g).length:Int)=1:=by simpa using h1
     omega
    have:=mi (x:=g);rw[h3]at this;have h4:g%4294967296=1:=by simp at h2;omega
    have:g=1:=by omega
    subst this;rw[Nat.div_one,Nat.div_one]
 rw[du,Option.bind_some];simp only;rw[dZ,hsg,Option.bind_some];simp only;have e3:m_ (1:Int)=some 1:=kW (n:=1) (by omega);rw[e3,Option.bind_some,uo (by omega) hq2];rfl
def qw(x:Rat):Prop:=sz x<=2000000000000
theorem jS{x:Rat}(h:di x):qw x:=Nat.le_trans h (by omega)
theorem pD{x:Rat}(h:qw x):bN x.num.natAbs<=2000000000000:=Nat.le_trans (Nat.le_max_left _ _) h
theorem pA{x:Rat}(h:qw x):bN x.den<=2000000000000:=Nat.le_trans (Nat.le_max_right _ _) h
theorem fZ{x n:Nat}(h:bN x<=n)(k:n<=4398046511104):sm x:=Nat.le_trans h k
theorem fT{x:Rat}(h:qw x):sm x.num.natAbs:=fZ (pD h) (by omega)
theorem eJ{x:Rat}(h:qw x):sm x.den:=fZ (pA h) (by omega)
theorem mC{a b:Rat}(h:qw a)(k:qw b):bN (a.num*b.den).natAbs<=4000000000000:=by
 rw[Int.natAbs_mul];exact Nat.le_trans (dh (pD h) (pA k)) (by omega)
theorem A2{a b:Rat}(h:qw a)(k:qw b):bN (a.den*b.den)<=4000000000000:=Nat.le_trans (dh (pA h) (pA k)) (by omega)
theorem G4{a b:Rat}(h:qw a)(k:qw b):bN (a.num*b.num).natAbs<=4000000000000:=by
 rw[Int.natAbs_mul];exact Nat.le_trans (dh (pD h) (pD k)) (by omega)
theorem gP(a:Rat)(neg:Bool)(n:Nat)(h:qw a):fK neg n (a.den-1)=some a.den:=by
 unfold fK;have e3:m_ (1:Int)=some 1:=kW (n:=1) (by omega);have:=a.den_pos;rw[e3,Option.bind_some,qi (nu (Nat.sub_le _ _) (eJ h)) (jC (by omega)),Nat.sub_add_cancel this];rfl
theorem yp(a b:Rat)(h:qw a)(k:qw b):qA (decide (a.num<0)) a.num.natAbs (a.den-1) (decide (b.num<0)) b.num.natAbs (b.den-1)=some (rp (a+b)):=by
 unfold qA;rw[gP a _ _ h,Option.bind_some,gP b _ _ k,Option.bind_some,jO _ _ (fT h) (eJ k),Option.bind_some];simp only;rw[jO _ _ (fT k) (eJ h),Option.bind_some];simp only;rw[w_ _ _ (fZ (mC h k) (by omega)) (fZ (mC k h) (by omega)),Option.bind_some];simp only;rw[lV (eJ h) (eJ k),Option.bind_some,kk _ _ (Nat.mul_ne_zero a.den_nz b.den_nz) (fZ (kD (mC h k) (mC k h)) (by omega)) (fZ (A2 h k) (by omega)),←Rat.add_def']
 rfl
theorem yn(a:Rat):p9 (decide (a.num<0)) a.num.natAbs (a.den-1)=some (rp (-a)):=by
 unfold p9 rp;rw[dZ,Eo,Rat.neg_num,Rat.neg_den];rfl
theorem Dn(a:Rat):qw (-a)=qw a:=by unfold qw sz;rw[Rat.neg_num,Rat.neg_den,Int.natAbs_neg]
theorem E2(a b:Rat)(h:qw a)(k:qw b):s6 (decide (a.num<0)) a.num.natAbs (a.den-1) (decide (b.num<0)) b.num.natAbs (b.den-1)=some (rp (a-b)):=by
 unfold s6;rw[yn,Option.bind_some];simp only;rw[yp a (-b) h (by rw[Dn];exact k),←Rat.sub_eq_add_neg];rfl
theorem Ef(a b:Rat)(h:qw a)(k:qw b):sV (decide (a.num<0)) a.num.natAbs (a.den-1) (decide (b.num<0)) b.num.natAbs (b.den-1)=some (rp (a*b)):=by
 unfold sV;rw[lV (fT h) (fT k),Option.bind_some,dZ,zO,Option.bind_some];simp only;rw[gP a _ _ h,Option.bind_some,gP b _ _ k,Option.bind_some,lV (eJ h) (eJ k),Option.bind_some,kk _ _ (Nat.mul_ne_zero a.den_nz b.den_nz) (fZ (G4 h k) (by omega)) (fZ (A2 h k) (by omega)),←Rat.mul_def']
 rfl
theorem zE(a b:Rat)(hb:b≠0):a/b=mkRat (sg (!(decide (a.num<0)==decide (b.num<0))) (a.num.natAbs*b.den)) (a.den*b.num.natAbs):=by
 have hn:b.num≠0:=fun h=>hb (Rat.num_eq_zero.1 h);have e:a/b=Rat.divInt (a.num*b.den) (a.den*b.num):=by
  have ea:=Rat.num_divInt_den a;rw[Rat.div_def,Rat.inv_def]
  conv=>lhs;rw[←ea]
  rw[Rat.divInt_mul_divInt]
 rw[e];have hden:((a.den*b.num.natAbs:Nat):Int)=(a.den:Int)*(b.num.natAbs:Int):=Int.natCast_mul _ _;rw[←Rat.divInt_ofNat,hden];have hnum:((a.num.natAbs*b.den:Nat):Int)=(a.num.natAbs:Int)*(b.den:Int):=Int.natCast_mul _ _;rcases Int.lt_or_le b.num 0 with h|h
 ·have h1:(b.num.natAbs:Int)=-b.num:=Int.ofNat_natAbs_of_nonpos (Int.le_of_lt h);rw[h1,Int.mul_neg,Rat.divInt_neg']
  congr 1
  unfold sg;rw[decide_eq_true h];rcases Int.lt_or_le a.num 0 with k|k
  ·rw[decide_eq_true k,if_neg (by decide),hnum,Int.ofNat_natAbs_of_nonpos (Int.le_of_lt k),Int.neg_mul,Int.neg_neg]
  ·rw[decide_eq_false (by omega),if_pos (by decide),hnum,Int.natAbs_of_nonneg k,Int.neg_neg]
 ·have h1:(b.num.natAbs:Int)=b.num:=Int.natAbs_of_nonneg h;rw[h1]
  congr 1
  unfold sg;rw[decide_eq_false (p:=b.num<0) (by omega)];rcases Int.lt_or_le a.num 0 with k|k
  ·rw[decide_eq_true k,if_pos (by decide),hnum,Int.ofNat_natAbs_of_nonpos (Int.le_of_lt k),Int.neg_mul,Int.neg_neg]
  ·rw[decide_eq_false (by omega),if_neg (by decide),hnum,Int.natAbs_of_nonneg k]
theorem wy(a b:Rat)(hb:b≠0)(h:qw a)(k:qw b):mU (decide (a.num<0)) a.num.natAbs (a.den-1) (decide (b.num<0)) b.num.natAbs (b.den-1)=some (rp (a/b)):=by
 have hn:b.num.natAbs≠0:=fun h=>hb (Rat.num_eq_zero.1 (by omega));unfold mU;rw[gP b _ _ k,Option.bind_some,lV (fT h) (eJ k),Option.bind_some,dZ,Option.bind_some];simp only;rw[gP a _ _ h,Option.bind_some,lV (eJ h) (fT k),Option.bind_some,kk _ _ (Nat.mul_ne_zero a.den_nz hn) (by rw[oj];exact fZ (dh (pD h) (pA k)) (by omega)) (fZ (dh (pA h) (pD k)) (by omega)),←zE a b hb]
 rfl
theorem Bk(a:Rat):(if a.num<0 then(-1:Int)else if a.num=0 then 0 else 1)=wJ a:=by
 unfold wJ;have h1:a.num<0↔a<0:=by
  rw[Rat.lt_iff];simp
 have h2:a.num=0↔a=0:=Rat.num_eq_zero;simp only[h1,h2]
theorem vw(a:Rat)(d:Nat):nS (decide (a.num<0)) a.num.natAbs d=some (wJ a):=by
 unfold nS;rw[ve,Bk];rfl
theorem ED(a:Rat):s8 (decide (a.num<0)) a.num.natAbs (a.den-1)=some (rp (if a<0 then-a else a)):=by
 have h1:a.num<0↔a<0:=by rw[Rat.lt_iff];simp
 unfold s8 rp;rw[dZ,Option.bind_some];have e1:decide (sg false a.num.natAbs<0)=false:=by unfold sg;rw[if_neg (by decide)];exact decide_eq_false (by omega)
 rw[e1,oj];by_cases h:a<0
 ·have:=h1.2 h;rw[if_pos h,Rat.neg_num,Rat.neg_den,Int.natAbs_neg,decide_eq_false (p:=-a.num<0) (by omega)]
 ·have:=fun k=>h (h1.1 k);rw[if_neg h,decide_eq_false (p:=a.num<0) this]
theorem AB(a b:Rat):B0 (a.num*b.den) (b.num*a.den)=iL a b:=by
 unfold B0 iL;simp only[Rat.lt_iff]
theorem DE(a b:Rat)(h:qw a)(k:qw b):sS (decide (a.num<0)) a.num.natAbs (a.den-1) (decide (b.num<0)) b.num.natAbs (b.den-1)=some (iL a b):=by
 unfold sS;rw[gP b _ _ k,Option.bind_some,jO _ _ (fT h) (eJ k),Option.bind_some];simp only;rw[gP a _ _ h,Option.bind_some,jO _ _ (fT k) (eJ h),Option.bind_some];simp only;rw[w8 _ _ (fZ (mC h k) (by omega)) (fZ (mC k h) (by omega)),AB];rfl
theorem HU(z:Int):rp (z:Rat)=((decide (z<0),z.natAbs),0):=by
 unfold rp;rw[Rat.num_intCast,Rat.den_intCast]
theorem EO(z:Int):vm (decide (z<0)) z.natAbs=some (rp (z:Rat)):=by rw[HU];rfl
theorem Ab(n:Nat):vm false n=some (rp (n:Rat)):=by
 have:=EO n;rw[decide_eq_false (by omega)]at this;exact this
theorem C7(a:Rat)(neg:Bool)(n:Nat)(h:qw a):sJ neg n (a.den-1)=some (rp (a.den:Rat)):=by
 unfold sJ;rw[gP a _ _ h,Option.bind_some,Ab];rfl
theorem z7(a:Rat)(h:qw a):oI (decide (a.num<0)) a.num.natAbs (a.den-1)=some (rp (a.floor:Rat)):=by
 unfold oI;rw[gP a _ _ h,Option.bind_some,tQ _ _ a.den_nz (fT h) (eJ h),Option.bind_some];simp only;rw[EO,Rat.floor_def];rfl
end Go.Am
namespace Go.Am
open Go.RowKit
theorem EJ:m_ (1:Int)=some 1:=kW (n:=1) (by omega)
theorem HC(n:Int)(h:fm n):Aw n=some (rp (n:Rat)):=by
 unfold Aw;rw[nn n h,Option.bind_some,dZ,FM,Option.bind_some];dsimp only;rw[EO];rfl
theorem wO{n:Int}(h:fm n):sm n.natAbs:=jC (by unfold fm at h;omega)
theorem GC(a b:Int)(hb:b≠0):(a:Rat)/(b:Rat)=mkRat (sg (!(decide (a<0)==decide (b<0))) a.natAbs) b.natAbs:=by
 have h1:(b:Rat)≠0:=fun h=>hb (by rw[←Rat.intCast_zero,Rat.intCast_inj]at h;exact h);have:=zE a b h1;rw[Rat.num_intCast,Rat.num_intCast,Rat.den_intCast,Rat.den_intCast,Nat.mul_one,Nat.one_mul]at this;exact this
theorem I1(n d:Int)(h:fm n)(k:fm d):FW n d=some (if d=0 then(rp 0,9)else(rp ((n:Rat)/(d:Rat)),0)):=by
 unfold FW;by_cases h0:d=0
 ·subst h0;rfl
 ·rw[if_neg (by rw[beq_iff_eq];exact h0),if_neg h0,nn n h,Option.bind_some,dZ,Option.bind_some];dsimp only;rw[nn d k,Option.bind_some,kk _ _ (by omega) (by rw[oj];exact wO h) (wO k),←GC n d h0]
  rfl
theorem oP(z:Int)(d:Nat):(mkRat z d).num.natAbs<=z.natAbs:=by
 rw[Rat.num_mkRat]
 split
 ·exact Nat.zero_le _
 ·rename_i h;rw[Int.natAbs_ediv_of_dvd]
  ·exact Nat.div_le_self _ _
  ·rw[Int.ofNat_dvd_left];exact Nat.gcd_dvd_right _ _
theorem j2(z:Int)(d:Nat)(h:d≠0):(mkRat z d).den<=d:=by
 rw[Rat.den_mkRat,if_neg h];exact Nat.div_le_self _ _
theorem iK{x:Rat}{n:Nat}:sz x<=n↔bN x.num.natAbs<=n/\bN x.den<=n:=Nat.max_le
theorem nH:bN 1=1:=rfl
theorem kC(a b:Rat):sz (a+b)<=sz a+sz b+1:=by
 rw[Rat.add_def'];have ha:=iK.1 (Nat.le_refl (sz a));have hb:=iK.1 (Nat.le_refl (sz b));refine iK.2 ⟨Nat.le_trans (dI (oP _ _)) (kD ?_ ?_),Nat.le_trans (dI (j2 _ _ (Nat.mul_ne_zero a.den_nz b.den_nz))) ?_⟩
 ·rw[Int.natAbs_mul];exact dh ha.1 hb.2
 ·rw[Int.natAbs_mul,Nat.add_comm];exact dh hb.1 ha.2
 ·exact Nat.le_trans (dh ha.2 hb.2) (by omega)
theorem l5(a:Rat):sz (-a)=sz a:=by unfold sz;rw[Rat.neg_num,Rat.neg_den,Int.natAbs_neg]
theorem px(a b:Rat):sz (a-b)<=sz a+sz b+1:=by
 rw[Rat.sub_eq_add_neg,←l5 b];exact kC a (-b)
theorem gW(a b:Rat):sz (a*b)<=sz a+sz b:=by
 rw[Rat.mul_def'];have ha:=iK.1 (Nat.le_refl (sz a));have hb:=iK.1 (Nat.le_refl (sz b));refine iK.2 ⟨Nat.le_trans (dI (oP _ _)) ?_,Nat.le_trans (dI (j2 _ _ (Nat.mul_ne_zero a.den_nz b.den_nz))) ?_⟩
 ·rw[Int.natAbs_mul];exact dh ha.1 hb.1
 ·exact dh ha.2 hb.2
theorem Ic(a b:Rat)(h:b≠0):sz (a/b)<=sz a+sz b:=by
 rw[zE a b h];have hn:b.num.natAbs≠0:=fun h'=>h (Rat.num_eq_zero.1 (by omega));have ha:=iK.1 (Nat.le_refl (sz a));have hb:=iK.1 (Nat.le_refl (sz b));refine iK.2 ⟨Nat.le_trans (dI (oP _ _)) ?_,Nat.le_trans (dI (j2 _ _ (Nat.mul_ne_zero a.den_nz hn))) ?_⟩
 ·rw[oj];exact dh ha.1 hb.2
 ·exact dh ha.2 hb.1
theorem q7(z:Int):sz (z:Rat)<=bN z.natAbs+1:=by
 rw[iK,Rat.num_intCast,Rat.den_intCast,nH];omega
theorem yy(a:Rat):sz (a.floor:Rat)<=sz a+1:=by
 have ha:=iK.1 (Nat.le_refl (sz a));refine Nat.le_trans (q7 _) (Nat.succ_le_succ (Nat.le_trans (dI ?_) ha.1));rw[Rat.floor_def];exact Int.natAbs_ediv_le_natAbs _ _
theorem Hv(a:Rat):sz (if a<0 then-a else a)=sz a:=by split<;>simp[l5]
theorem Ae(a:Rat):sz (a.den:Rat)<=sz a+1:=by
 have ha:=iK.1 (Nat.le_refl (sz a));have:=q7 (a.den:Int);rw[Int.natAbs_natCast]at this;exact Nat.le_trans this (by omega)
end Go.Am
namespace Go.Am
open Go.RowKit
theorem yq(a:Rat):decide (((aL (a.den-1)).length:Int)>0)=decide (a.den≠1):=by
 have:=a.den_pos;rw[ob];by_cases h:a.den=1
 ·rw[decide_eq_false (by omega),decide_eq_false (by omega)]
 ·rw[decide_eq_true (by omega),decide_eq_true h]
theorem nR{x n:Nat}(h:bN x<=n):(iN x).length<=n+1:=by
 unfold iN
 split
 ·simp
 ·unfold bytesOf;rw[List.length_map,List.length_reverse];exact Nat.le_trans (Ai n x (pI h)) (by omega)
theorem y6{a:Nat}(h:sm a):AI a=some (iN a):=cC h rfl
theorem GJ(a:Rat)(h:di a):qI (decide (a.num<0)) a.num.natAbs (a.den-1)=some (ID a):=by
 have h1:(iN a.num.natAbs).length<=400000000001:=nR (iK.1 h).1;have h2:(iN a.den).length<=400000000001:=nR (iK.1 h).2;unfold qI ID;rw[y6 (fT (jS h)),Option.bind_some,yq];have e1:(if decide (a.num<0)=true then cj (([45]:List UInt8).length+(iN a.num.natAbs).length<=9223372036854775807) (some ((([45]:List UInt8)++iN a.num.natAbs)))else some (iN a.num.natAbs))=some ((if a.num<0 then [45]else [])++iN a.num.natAbs):=by
  by_cases h:a.num<0
  ·rw[if_pos (decide_eq_true h),if_pos h];exact cC (by simp only[List.length_cons,List.length_nil];omega) rfl
  ·rw[if_neg (by simpa using h),if_neg h];rfl
 rw[e1,Option.bind_some];have h3:((if a.num<0 then [45]else [])++iN a.num.natAbs:List UInt8).length<=400000000002:=by
  rw[List.length_append];split<;>simp only[List.length_cons,List.length_nil]<;>omega
 generalize ((if a.num<0 then [45]else [])++iN a.num.natAbs:List UInt8)=t at*;by_cases hd:a.den=1
 ·rw[if_neg (by simpa using hd),if_pos hd,List.append_nil];rfl
 ·rw[if_pos (decide_eq_true hd),if_neg hd,gP a _ _ (jS h),Option.bind_some,y6 (eJ (jS h)),Option.bind_some];rw[aQ (by simp only[List.length_cons,List.length_nil];omega),aQ (by simp only[List.length_append,List.length_cons,List.length_nil];omega)]
  rfl
theorem AN(k:Nat):((2^k:Nat):Rat)=2^k:=by rw[Rat.natCast_pow];rfl
theorem Gr(k:Int)(h:0<=k/\k<=100000):rG k=some (rp ((2:Rat)^k.toNat)):=by
 obtain⟨n,rfl⟩:∃n:Nat,k=n:=⟨k.toNat,by omega⟩;unfold rG;rw[EJ,Option.bind_some,uu (jC (by omega)) (by omega),Option.bind_some,Nat.one_mul,Ab,Int.toNat_natCast,AN]
 rfl
theorem zM{x m:Nat}(h:bN x<=2*m):bN (eU x)<=m:=by
 rw[ir]at*;apply Classical.byContradiction;intro hc;have h1:=Nat.mul_le_mul (Nat.le_of_not_lt hc) (Nat.le_of_not_lt hc);have h2:=qV x;rw[←Nat.pow_add,show m+m=2*m from by omega]at h1;omega
def GR(a:Rat)(k:Nat):Rat:=((eU (a.num.natAbs*2^(2*k)/a.den):Nat):Rat)/2^k
def Cz(a:Rat)(k:Int):Option (Rat×Int):=cj (di a/\fm k) (some (if k<0\/64<k then(0,3)else if a<0 then(0,8)else(GR a k.toNat,0)))
theorem Io(k:Nat):sz ((2:Rat)^k)<=k+1:=by
 rw[←AN,iK,Rat.num_natCast,Rat.den_natCast,Int.natAbs_natCast,nH];exact⟨tR (Nat.lt_succ_self k),by omega⟩
theorem Iv(k:Nat)(h:k<=100000):qw ((2:Rat)^k):=by
 have:=Io k;unfold qw;generalize sz ((2:Rat)^k)=t at*;omega
theorem Hq(k:Nat):(2:Rat)^k≠0:=by
 have:(0:Rat)<2^k:=Rat.pow_pos (by decide);intro h;rw[h]at this;exact Rat.lt_irrefl this
theorem FC{x n:Nat}(hx:bN x<=400000000000)(hn:n<=64):bN (x*2^(2*n))<=400000000129:=by
 have h1:2*n<129:=by omega
 exact Nat.le_trans (dh hx (tR h1)) (by decide)
theorem BG(N d n:Nat)(hn:n<=64)(hd:d≠0)(hN:sm N)(hsd:sm d)(hb:bN (N*2^(2*n))<=400000000129)(hq:bN (N*2^(2*n)/d)<=400000000130):
  (wq N (IntKind.i64.wrap (2*(n:Int)))).bind (fun v10=>(lT v10 d).bind fun(v14,_)=>za v14)=some (eU (N*2^(2*n)/d)):=by
 have ew:IntKind.i64.wrap (2*(n:Int))=((2*n:Nat):Int):=by rw[wrap_small (by omega) (by omega)];omega
 have hk:2*n<35184372088832:=by omega
 rw[ew,uu hN hk,Option.bind_some];generalize N*2^(2*n)=X at*;rw[jJ hd (fZ hb (by omega)) hsd,Option.bind_some];dsimp only;exact cC (Nat.le_trans hq (by omega)) rfl
theorem Gv(X:Nat)(h:bN X<=400000000130):qw ((eU X:Nat):Rat):=by
 have h2:bN (eU X)<=200000000065:=zM h;refine iK.2 ⟨?_,by rw[Rat.den_natCast,nH];omega⟩;rw[Rat.num_natCast,Int.natAbs_natCast];exact Nat.le_trans h2 (by omega)
theorem Df(X n:Nat)(hn:n<=64)(hq:bN X<=400000000130):((vm false (eU X)).bind fun((v19,v20),v21)=>(rG (n:Int)).bind fun((v23,v24),v25)=>(mU v19 v20 v21 v23 v24 v25).bind fun((v27,v28),v29)=>some (((v27,v28),v29),(0:Int)))=some (rp (((eU X:Nat):Rat)/2^n),0):=by
 have hf:=Gr (n:Int) ⟨by omega,by omega⟩;have hw:=Iv n (by omega);have hne:=Hq n;rw[Int.toNat_natCast]at hf;rw[hf,Ab];simp only[Option.bind_some,rp];rw[wy _ _ hne (Gv _ hq) hw]
 rfl
theorem Fx(a:Rat)(k:Int)(h:di a):qp (decide (a.num<0)) a.num.natAbs (a.den-1) k=some (if k<0\/64<k then(rp 0,3)else if a<0 then(rp 0,8)else(rp (GR a k.toNat),0)):=by
 unfold qp;by_cases h0:k<0
 ·rw[if_pos (decide_eq_true h0),if_pos (.inl h0)];rfl
 rw[if_neg (by simpa using h0)];by_cases h1:64<k
 ·rw[if_pos (decide_eq_true h1),if_pos (.inr h1)];rfl
 obtain⟨n,rfl⟩:∃n:Nat,k=n:=⟨k.toNat,by omega⟩;have hn64:n<=64:=by omega
 rw[if_neg (by simpa using h1),if_neg (by omega),vw,Option.bind_some];by_cases hn:a<0
 ·rw[if_pos (by unfold wJ;rw[if_pos hn];decide),if_pos hn];rfl
 rw[if_neg (by unfold wJ;rw[if_neg hn];split<;>decide),if_neg hn];have hb:=FC (iK.1 h).1 hn64;have hq:=Nat.le_trans (Nat.le_trans (dI (Nat.div_le_self (a.num.natAbs*2^(2*n)) a.den)) hb) (show 400000000129<=400000000130 by decide);have hc:=BG a.num.natAbs a.den n hn64 a.den_nz (fT (jS h)) (eJ (jS h)) hb hq;obtain⟨v10,e10,hc⟩:=bind_some hc;obtain⟨⟨v14,v15⟩,e14,hc⟩:=bind_some hc;rw[e10,Option.bind_some,gP a _ _ (jS h),Option.bind_some,e14,Option.bind_some];dsimp only at hc|-;rw[hc,Option.bind_some];exact Df _ n hn64 hq
theorem kK{a1:Int}{r2:Rat}(h:fY a1=some r2):bf PP 40 [] [D.int .i64 a1] [] (qD r2):=by
 obtain⟨h0,h⟩:=av h;injection h with h;subst h;exact IG (HC a1 h0)
theorem JB{a1:Int}{a2:Int}{r3:Rat}{r4:Int}(h:Gq a1 a2=some (r3,r4)):bf PP 36 [] [D.int .i64 a1,D.int .i64 a2] [] (D.ig [qD r3,D.int .i64 r4]):=by
 obtain⟨h0,h⟩:=av h;have e:=I1 a1 a2 h0.1 h0.2;injection h with h;by_cases hd:a2=0
 ·rw[if_pos hd]at h e;injection h with h1 h2;subst h1;subst h2;exact Jc e
 ·rw[if_neg hd]at h e;injection h with h1 h2;subst h1;subst h2;exact Jc e
theorem mL{a1:Rat}{a2:Rat}{r3:Rat}(h:jj a1 a2=some r3):bf PP 42 [] [qD a1,qD a2] [] (qD r3):=by
 obtain⟨h0,h⟩:=av h;injection h with h;subst h;exact A7 (yp a1 a2 (jS h0.1) (jS h0.2))
theorem rX{a1:Rat}{a2:Rat}{r3:Rat}(h:ks a1 a2=some r3):bf PP 44 [] [qD a1,qD a2] [] (qD r3):=by
 obtain⟨h0,h⟩:=av h;injection h with h;subst h;exact FH (E2 a1 a2 (jS h0.1) (jS h0.2))
theorem lE{a1:Rat}{a2:Rat}{r3:Rat}(h:fh a1 a2=some r3):bf PP 46 [] [qD a1,qD a2] [] (qD r3):=by
 obtain⟨h0,h⟩:=av h;injection h with h;subst h;exact GH (Ef a1 a2 (jS h0.1) (jS h0.2))
theorem lh{a1:Rat}{a2:Rat}{r3:Rat}(h:fV a1 a2=some r3):bf PP 164 [] [qD a1,qD a2] [] (qD r3):=by
 obtain⟨h0,h⟩:=av h;injection h with h;subst h;exact yT (wy a1 a2 h0.1 (jS h0.2.1) (jS h0.2.2))
theorem EL{a1:Rat}{r2:Rat}(h:pg a1=some r2):bf PP 48 [] [qD a1] [] (qD r2):=by
 injection h with h;subst h;exact AW (yn a1)
theorem GY{a1:Rat}{r2:Rat}(h:Ba a1=some r2):bf PP 50 [] [qD a1] [] (qD r2):=by
 injection h with h;subst h;exact FF (ED a1)
theorem vY{a1:Rat}{a2:Rat}{r3:Int}(h:lJ a1 a2=some r3):bf PP 35 [] [qD a1,qD a2] [] (D.int .i64 r3):=by
 obtain⟨h0,h⟩:=av h;injection h with h;subst h;exact Fw (DE a1 a2 (jS h0.1) (jS h0.2))
theorem iv{a1:Rat}{r2:Int}(h:cW a1=some r2):bf PP 24 [] [qD a1] [] (D.int .i64 r2):=by
 injection h with h;subst h;exact xS (vw a1 _)
theorem Dl{a1:Rat}{r2:Rat}(h:uQ a1=some r2):bf PP 76 [] [qD a1] [] (qD r2):=by
 obtain⟨h0,h⟩:=av h;injection h with h;subst h;exact FD (C7 a1 _ _ (jS h0))
theorem AK{a1:Rat}{r2:Rat}(h:qo a1=some r2):bf PP 78 [] [qD a1] [] (qD r2):=by
 obtain⟨h0,h⟩:=av h;injection h with h;subst h;exact BO (z7 a1 (jS h0))
theorem DQ{a1:Rat}{r2:List UInt8}(h:rv a1=some r2):bf PP 33 [] [qD a1] [] (cu r2):=by
 obtain⟨h0,h⟩:=av h;exact DD ((GJ a1 h0).trans h)
theorem Hj{a1:Rat}{a2:Int}{r3:Rat}{r4:Int}(h:Cz a1 a2=some (r3,r4)):bf PP 29 [] [qD a1,D.int .i64 a2] [] (D.ig [qD r3,D.int .i64 r4]):=by
 obtain⟨h0,h⟩:=av h;have e:=Fx a1 a2 h0.1;injection h with h;by_cases hd:a2<0\/64<a2
 ·rw[if_pos hd]at h e;injection h with h1 h2;subst h1;subst h2;exact tE e
 ·rw[if_neg hd]at h e;by_cases hn:a1<0
  ·rw[if_pos hn]at h e;injection h with h1 h2;subst h1;subst h2;exact tE e
  ·rw[if_neg hn]at h e;injection h with h1 h2;subst h1;subst h2;exact tE e
end Go.Am
