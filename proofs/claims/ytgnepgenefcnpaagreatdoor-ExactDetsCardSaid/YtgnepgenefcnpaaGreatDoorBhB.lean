/- Part 2 of 7 of what the laws of layer 1 share: contracts of functions of the program, each for every argument of its description; no condition beyond it. -/
import Derived.Test.YtgnepgenefcnpaaGreatDoorBhA
import Derived.Laws.BytesString
import Derived.Laws.Bits64b
set_option linter.unusedVariables false
set_option linter.unusedSimpArgs false
namespace Go.Am
open Go.RowKit
section
variable {P:Program} {os:List Oper} {c:Ctx} {T T':List (Nat×D)} {H H':List (Nat×Hp)} {sps:List Spec}
variable {ops:Array Oper} {dst:Option Nat} {ty:TypeId} {pos:String} {aft:Array Edge} {Q:Exit->Act->World->Prop} {x y:Code}
theorem an.KN{α:Type}{e:ak α}{t te:TypeId}{r:Nat}{parts:List (Nat×Operand)}{m bt n:Nat}{z:List D}(xs:List α)(q:List (Nat×Operand×D×List D))(hm:nF P t=some (te,m,bt,z))(hmn:m=e.n)(hs:Nat.ble (n*m) 16777216=true)(hn0:Nat.blt 0 n=true)(hq:jt (CI m 0 n) (n*m) parts q)(he:∀x∈qs q,ev T x.1=some x.2)
  (hle:over (List.replicate n z).flatten q=flat e xs)(hln:xs.length=n)(hf:ah H r=none)
  (hr:an P ops c os ((r,.own r)::T) ((r,aY e te xs)::H) sps T' H'):
  an P ops c (⟨some r,.buildSlice t n parts.toArray,ty,pos,aft,none⟩::os) T H (rws (qs q) r (aY e te xs)::sps) T' H':=by
 subst hmn;subst hln;refine .cons (sp:=rws (qs q) r (aY e te xs)) ?_ (fm he) trivial ⟨hf,trivial⟩ hr;intro hd T0 H0 hi _ hnew a w ⟨ε,φ,hs'⟩ Q K hK;rw[if_pos (bp rfl _)];have hx:∀x∈qs q,ga T0 (eW x.1 x.2):=dk hi;obtain⟨i,v,hu,hinf,hzv,hsz,_,ez,hv1,hvs,hm0⟩:=iv hm;obtain⟨hpl,hg⟩:=kq hq;have hn1:0<xs.length:=by simpa using hn0
 have hcs:=fF hvs hm0 xs.length;have hz0:cr ε w (al c H0 φ) (List.replicate xs.length z).flatten (madeCells v.cells (xs.length*e.n)).toList:=by rw[hcs,ez];exact gr (jP _ _ _ _) _
 have hzl:(List.replicate xs.length z).flatten.length=xs.length*e.n:=by
  have h1:v.cells.toList.length=e.n:=by rw[Array.length_toList,hvs]
  rw[ij,ez,List.length_map,h1]
 obtain⟨cs',hfl,hA,hO⟩:=mB (a:=a) (place:=fun i=>some (i*e.n,e.n)) hpl (fun k u x hu' hx=>by
  have:=hg k u x hu' hx;have h2:=sZ e.n 0 xs.length u.1 _ this.2.1;simp only[Prod.mk.injEq,Nat.zero_add]at h2;exact⟨this.1,by rw[h2.1,h2.2],this.2.2.1,by rw[hzl];exact this.2.2.2⟩) hz0 (by
   intro u hu';rw[hcs]at hu';simp only[List.mem_flatten,List.mem_replicate]at hu';obtain⟨l',⟨_,rfl⟩,hu'⟩:=hu';exact hv1 u hu') (fun x hxm=>(hs'.ev (hx (x.2.1,x.2.2.1) (List.mem_map.2 ⟨x,hxm,rfl⟩)) (ay (he (x.2.1,x.2.2.1) (List.mem_map.2 ⟨x,hxm,rfl⟩))).2).1)
 have hlim:¬(xs.length*e.n>2^24):=by have:=Nat.le_of_ble_eq_true hs;omega
 have hf':Instr.fill (fun i=>some (i*e.n,e.n)) (madeCells v.cells (xs.length*e.n)) (parts.map fun x=>(x.1,a.eval x.2))=some cs':=hfl;have h0:¬(xs.length*e.n=0):=by
  intro h;rcases Nat.mul_eq_zero.1 h with h|h<;>omega
 have hrun:(execOp a.eval ⟨some r,.buildSlice t xs.length parts.toArray,ty,pos,aft,none⟩).run P w=.ok (.value (.slice (some ⟨w.heap.size,0,none⟩) xs.length xs.length)) (w.alloc (.cells cs' te)):=by
  simp only[execOp,Instr.buildSlice,run_underlying hu,Sem.run_bind,Result.andThen_ok,sizeOf,typeInfo,run_program,hinf,Sem.run_pure,hsz];simp[hlim,h0,zeroValue,typeInfo,hinf,hzv,newRow];rw[show(Array.map (fun x=>v.cells[x%v.cells.size]!) (Array.range (xs.length*e.n)))=madeCells v.cells (xs.length*e.n)from rfl,hf'];simp
 simp only[Oper.wp,hrun,Oper.upon];rw[hle]at hA;have hlen:=aU hA;have hmx:xs.length<=maxLen:=by
  have h1:=Nat.le_of_ble_eq_true hs;have h2:xs.length*1<=xs.length*e.n:=Nat.mul_le_mul_left _ hm0;unfold maxLen;omega
 have hA':cr (dH ε r (.slice (some ⟨w.heap.size,0,none⟩) xs.length xs.length)) (w.alloc (.cells cs' te)) (Am.al c (bu H0 [(r,aY e te xs)]) (dH φ r (only w.heap.size))) (flat e xs) cs'.toList:=by
  refine cb (fun k hk hlt=>⟨⟨hk.1,fun r' hr'=>?_⟩,Below.heap_alloc _ _ _ hlt⟩) hA (by rw[dM];intro r' hr';cases hr');rw[bJ]at hr';by_cases e':r'=r
  ·subst e';rw[au];intro hf';simp only[only]at hf';omega
  ·rw[aK _ _ e']at hr'|-;exact hk.2 r' hr'
 have hN:=hs'.lU (x:=aY e te xs) (b:=.slice (some ⟨w.heap.size,0,none⟩) xs.length xs.length) (F:=only w.heap.size) (w':=w.alloc (.cells cs' te)) (r:=r) hnew.1 ((Below.refl _ _).alloc (Nat.le_refl _) _)
  (fun k hk=>by simp only[only]at hk;subst hk;simp)
  (.inr ⟨w.heap.size,xs.length,xs.length,cs'.toList,[],rfl,rfl,by rw[iU,List.append_nil],hO,by rw[List.append_nil,hlen,bK],hmx,bK e xs,hA'⟩) (fun r' hr'=>by cases hr')
 exact hK _ _ ⟨_,_,hN.put (dst:=some r) (d:=.own r) (du hd) ⟨(au _ _ _).symm,rfl⟩ (by simp[D.own,bJ,au])⟩
theorem rR{ε:Env}{w:World}{S:cX}{d:D}:∀{l:List D} {vs:List Value} {i:Nat} {v:Value},cr ε w S l vs->vs[i]?=some v->d.p ε w S v->cr ε w S (l.set i d) vs
 |[],[],_,_,_,h,_=>by simp at h
 |d0::l,v0::vs,0,v,h,hi,hd=>by simp at hi;subst hi;exact⟨hd,h.2⟩
 |d0::l,v0::vs,i+1,v,h,hi,hd=>⟨h.1,rR h.2 (by simpa using hi) hd⟩
 |[],_::_,_,_,h,_,_=>h.elim
 |_::_,[],_,_,h,_,_=>h.elim
theorem rT{l:List D}{d:D}{i r:Nat}(h:r∈bW (l.set i d)):r∈bW l\/r∈d.nm:=by
 obtain⟨d',hd',hr⟩:=b9.1 h;rcases List.mem_or_eq_of_mem_set hd' with h|rfl
 ·exact .inl (b9.2 ⟨d',h,hr⟩)
 ·exact .inr hr
theorem cS.tell{T0:Nat->Option D}{H0:Nat->Option Hp}{a:Act}{w:World}{ε:Env}{φ:Nat->cX}(hs:cS c T0 H0 a w ε φ){r0:Nat}{x y:Hp}(hr:H0 r0=some x)(hy:y.p ε w (Am.al c H0 φ) (ε r0) (φ r0))(hn:∀r'∈y.nm,H0 r'≠none):cS c T0 (bu H0 [(r0,y)]) a w ε φ:=
 hs.tU hr rfl rfl rfl rfl (fun _ _=>rfl) hy hn
theorem Ok.JL{α:Type}(e:ak α)(r0 off r te:Nat){tb:TypeId}{l:List D}(l':List D)(hh:ah H r0=some (.box tb l))(hd:l[off]?=some .nil)(hf:ah H r=none)(hl:l.set off (.own r)=l')
  (h:Ok P c T ((r0,.box tb l')::(r,aY e te [])::H) x Q):Ok P c T H x Q:=by
 intro a w ⟨ε,φ,hs⟩;subst hl;have hN:=hs.lU (x:=aY e te []) (b:=.slice none 0 0) (F:=noBlocks) (r:=r) hf (Below.refl _ _) (fun k hk=>hk.elim) (.inl ⟨rfl,rfl,rfl⟩) (fun r' hr'=>by cases hr');have hne:r0≠r:=fun e=>by subst e;rw[hh]at hf;cases hf
 have hr0:bu (ah H) [(r,aY e te [])] r0=some (.box tb l):=by rw[bJ,aK _ _ hne];exact hh
 obtain⟨eF,cs,hb,h1,hc⟩:=hN.h r0 _ hr0;obtain⟨v,hv,hp⟩:=gS hc hd;have hS:=hN.tell (y:=.box tb (l.set off (.own r))) hr0 ⟨eF,cs,hb,h1,rR hc hv ⟨by rw[show v=_ from hp,au],by rw[show v=_ from hp];rfl⟩⟩ (fun r' hr'=>by
  rcases rT (show r'∈bW (l.set off (.own r))from hr')with h|h
  ·exact hN.hn r0 _ hr0 r' h
  ·have:r'=r:=by simpa [D.own]using h
   subst this;rw[bJ,au];simp)
 refine h a w (Sat.ext (T:=ba T) (H:=bu (bu (ah H) [(r,aY e te [])]) [(r0,.box tb (l.set off (.own r)))]) ⟨_,_,hS⟩ (fun _=>rfl) (fun r'=>?_));rw[bE,bE];rfl
theorem Ok.IU{α:Type}{e:ak α}{te:TypeId}{xs:List α}(r0 off:Nat){r:Nat}{tb:TypeId}{l:List D}(l':List D)(hh:ah H r0=some (.box tb l))(hd:l[off]?=some (.own r))(hr:ah H r=some (aY e te xs))(hm:Nat.blt 0 e.n=true)(hl:l.set off (ai e xs)=l')
  (h:Ok P c T ((r0,.box tb l')::(r,.dead)::H) x Q):Ok P c T H x Q:=by
 intro a w ⟨ε,φ,hs⟩;subst hl;have hne:r0≠r:=fun e=>by subst e;rw[hh]at hr;injection hr with hr;exact absurd (congrArg Hp.nm hr) (by intro hq;have:=List.getElem?_eq_some_iff.1 hd;have hx:r0∈bW l:=b9.2 ⟨.own r0,List.mem_of_getElem? hd,by simp[D.own]⟩;rw[show bW l=[]from hq]at hx;cases hx)
 have hm0:0<e.n:=by simpa using hm
 have hG:=vp hs hr;have hr0:ah ((r,Hp.dead)::H) r0=some (.box tb l):=by
  simp only[ah]
  cases hb:Nat.beq r0 r with
  |true=>exact absurd (Nat.eq_of_beq_eq_true hb) hne
  |false=>exact hh
 obtain⟨eF,cs,hb,h1,hc⟩:=hG.h r0 _ hr0;obtain⟨v,hv,hp⟩:=gS hc hd;have hev:v=ε r:=hp.1;have hrow:=hs.h r _ hr;have hslc:(ai e xs).p ε w (Am.al c (ah ((r,Hp.dead)::H)) (dH φ r noBlocks)) v:=by
  have hH:ah ((r,Hp.dead)::H)=dH (ah H) r (some .dead):=by rw[←bJ,bE];rfl
  have hliv:∀r',r'≠r->ah ((r,Hp.dead)::H) r'≠none->ah H r'≠none:=by
   intro r' e' hr';rw[hH,aK _ _ e']at hr';exact hr'
  rcases hrow with⟨e0,eb,_⟩|⟨g,n',cap,cs,rest,eb,eF',hg,h1',hcap,_,hln,hcs⟩
  ·have h0:=bK e xs;rw[e0]at h0;have:xs.length=0:=by rcases Nat.mul_eq_zero.1 h0.symm with h|h<;>omega
   exact⟨none,0,by rw[hev,eb,this],by omega,bK e xs,.inl this⟩
  ·have hn':n'=xs.length:=Nat.eq_of_mul_eq_mul_right hm0 (hln.symm.trans (bK e xs));subst hn';have hlo:=hs.lo r (by simp[hr]) g (by rw[eF'];rfl);have hSg:Am.al c (ah ((r,Hp.dead)::H)) (dH φ r noBlocks) g:=by
    refine⟨.inr hlo.1,fun r' hr'=>?_⟩;by_cases e':r'=r
    ·subst e';rw[au];exact fun h=>h
    ·rw[aK _ _ e'];exact hs.dj r r' (by simp[hr]) (hliv r' e' hr') (Ne.symm e') g (by rw[eF'];rfl)
   refine⟨some ⟨g,0,none⟩,cap,by rw[hev,eb],?_,bK e xs,.inr ⟨g,0,rfl,hSg,(cs++rest).toArray,te,(0,0),cs,hg,fun j u hj=>?_,h1',?_⟩⟩
   ·have hle:xs.length*e.n<=cap*e.n:=by rw[←hcap,List.length_append,aU hcs,bK];omega
    exact Nat.le_of_mul_le_mul_right hle hm0
   ·rw[Nat.zero_add];simp only[List.getElem?_toArray];rw[List.getElem?_append_left (List.getElem?_eq_some_iff.1 hj).1];exact hj
   ·refine cb (fun k hk _=>⟨⟨hk.1,fun r' hr'=>?_⟩,rfl⟩) hcs (by rw[dM];intro r' hr';cases hr');by_cases e':r'=r
    ·subst e';rw[au];exact fun h=>h
    ·rw[aK _ _ e'];exact hk.2 r' (hliv r' e' hr')
 have hS:=hG.tell (y:=.box tb (l.set off (ai e xs))) hr0 ⟨eF,cs,hb,h1,rR hc hv hslc⟩ (fun r' hr'=>by
  rcases rT (show r'∈bW (l.set off (ai e xs))from hr')with h|h
  ·exact hG.hn r0 _ hr0 r' h
  ·cases h)
 refine h a w (Sat.ext (T:=ba T) (H:=bu (ah ((r,Hp.dead)::H)) [(r0,.box tb (l.set off (ai e xs)))]) ⟨_,_,hS⟩ (fun _=>rfl) (fun r'=>?_));rw[bE];rfl
theorem cS.uw{α:Type}{T0:Nat->Option D}{H0:Nat->Option Hp}{a:Act}{w:World}{ε:Env}{φ:Nat->cX}{e:ak α}{te:TypeId}{xs:List α}{r:Nat}(hs:cS c T0 H0 a w ε φ)(hh:H0 r=some (aY e te xs))(hm0:0<e.n):
  cS c T0 (dH H0 r (some .dead)) a w ε (dH φ r noBlocks)/\(ai e xs).p ε w (Am.al c (dH H0 r (some .dead)) (dH φ r noBlocks)) (ε r):=by
 have hl2:∀r',dH H0 r (some .dead) r'≠none↔H0 r'≠none:=by
  intro r';by_cases e':r'=r
  ·subst e';simp[au,hh]
  ·rw[aK _ _ e']
 have hreg:∀k,Am.al c H0 φ k->k<w.heap.size->Am.al c (dH H0 r (some .dead)) (dH φ r noBlocks) k/\w.heap[k]?=w.heap[k]?:=by
  intro k hk _;refine⟨⟨hk.1,fun r' hr'=>?_⟩,rfl⟩;by_cases e':r'=r
  ·subst e';rw[au];exact fun h=>h
  ·rw[aK _ _ e'];exact hk.2 r' ((hl2 r').1 hr')
 refine⟨?_,?_⟩
 ·constructor
  ·exact fun t d ht=>d.mono (hs.t t d ht) (fun _ _=>rfl) hreg
  ·exact fun t d ht r' hr'=>(hl2 r').2 (hs.tn t d ht r' hr')
  ·intro r' y hy;by_cases e':r'=r
   ·subst e';rw[au]at hy;injection hy with hy;subst hy;rw[au];rfl
   ·rw[aK _ _ e']at hy;rw[aK _ _ e'];exact y.mono (hs.h r' y hy) (fun _ _=>rfl) hreg (fun _ _=>rfl)
  ·intro r' y hy r2 h2;by_cases e':r'=r
   ·subst e';rw[au]at hy;injection hy with hy;subst hy;cases h2
   ·rw[aK _ _ e']at hy;exact(hl2 r2).2 (hs.hn r' y hy r2 h2)
  ·intro r' hr' k hk;by_cases e':r'=r
   ·subst e';rw[au]at hk;exact hk.elim
   ·rw[aK _ _ e']at hk;exact hs.lo r' ((hl2 r').1 hr') k hk
  ·intro ra rb ha hb hne k hk;by_cases ea:ra=r
   ·subst ea;rw[au]at hk;exact hk.elim
   ·by_cases eb:rb=r
    ·subst eb;rw[au];exact fun h=>h
    ·rw[aK _ _ ea]at hk;rw[aK _ _ eb];exact hs.dj ra rb ((hl2 ra).1 ha) ((hl2 rb).1 hb) hne k hk
  ·exact hs.sb
  ·exact hs.bs
  ·exact hs.sz
  ·exact hs.df
 ·rcases hs.h r _ hh with⟨e0,eb,_⟩|⟨g,n',cap,cs,rest,eb,eF',hg,h1',hcap,_,hln,hcs⟩
  ·have h0:=bK e xs;rw[e0]at h0;have:xs.length=0:=by rcases Nat.mul_eq_zero.1 h0.symm with h|h<;>omega
   exact⟨none,0,by rw[eb,this],by omega,bK e xs,.inl this⟩
  ·have hn':n'=xs.length:=Nat.eq_of_mul_eq_mul_right hm0 (hln.symm.trans (bK e xs));subst hn';have hlo:=hs.lo r (by simp[hh]) g (by rw[eF'];rfl);have hSg:Am.al c (dH H0 r (some .dead)) (dH φ r noBlocks) g:=by
    refine⟨.inr hlo.1,fun r' hr'=>?_⟩;by_cases e':r'=r
    ·subst e';rw[au];exact fun h=>h
    ·rw[aK _ _ e'];exact hs.dj r r' (by simp[hh]) ((hl2 r').1 hr') (Ne.symm e') g (by rw[eF'];rfl)
   refine⟨some ⟨g,0,none⟩,cap,eb,?_,bK e xs,.inr ⟨g,0,rfl,hSg,(cs++rest).toArray,te,(0,0),cs,hg,fun j u hj=>?_,h1',?_⟩⟩
   ·have hle:xs.length*e.n<=cap*e.n:=by rw[←hcap,List.length_append,aU hcs,bK];omega
    exact Nat.le_of_mul_le_mul_right hle hm0
   ·rw[Nat.zero_add];simp only[List.getElem?_toArray];rw[List.getElem?_append_left (List.getElem?_eq_some_iff.1 hj).1];exact hj
   ·refine cb (fun k hk _=>⟨⟨hk.1,fun r' hr'=>?_⟩,rfl⟩) hcs (by rw[dM];intro r' hr';cases hr');by_cases e':r'=r
    ·subst e';rw[au];exact fun h=>h
    ·rw[aK _ _ e'];exact hk.2 r' ((hl2 r').1 hr')
theorem an.gv{α:Type}{o:Oper}{sp:Spec}{r t:Nat}{e:ak α}{te:TypeId}{xs:List α}{T1:List (Nat×D)}{H1:List (Nat×Hp)}(h:an P ops c [o] T H [sp] T1 H1)(hd:o.dst=some t)(ho:sp.out=.own r)(hh:ah sp.dE r=some (aY e te xs))(hm:Nat.blt 0 e.n=true)
  (hr:an P ops c os ((t,ai e xs)::T) ((r,.dead)::sp.dE++H) sps T' H'):
  an P ops c (o::os) T H ({sp with out:=ai e xs,dE:=(r,.dead)::sp.dE}::sps) T' H':=by
 cases h with
 |cons hst hi hhi hn _=>
  refine .cons (sp:={sp with out:=ai e xs,dE:=(r,.dead)::sp.dE}) ?_ hi hhi hn (by rw[hd];exact hr);intro hdst T0 H0 hi0 hh0 hn0 a w hsat Q K hK;refine hst hdst T0 H0 hi0 hh0 hn0 a w hsat Q K (fun a' w' hs'=>hK a' w' ?_);obtain⟨ε,φ,hs'⟩:=hs';have hu:bu H0 sp.dE r=some (aY e te xs):=by simp only[bu,hh]
  obtain⟨hG,hp⟩:=hs'.uw hu (by simpa using hm);have eH:dH (bu H0 sp.dE) r (some .dead)=bu H0 ((r,.dead)::sp.dE):=by
   funext r'
   simp only[dH,bu,ah];by_cases e':r'=r
   ·subst e';simp
   ·have:Nat.beq r' r=false:=by
     cases hb:Nat.beq r' r with
     |false=>rfl
     |true=>exact absurd (Nat.eq_of_beq_eq_true hb) e'
    simp[e',this]
  rw[eH]at hG hp;have hv:a'.tmps.getD t undef=ε r:=by
   have:=hs'.t t (.own r) (by simp only[ie,hd,if_true,ho]);exact this.1
  refine⟨ε,_,{hG with t:=?_,tn:=?_}⟩
  ·intro t' d hd';simp only[ie,hd]at hd';by_cases e':t'=t
   ·rw[if_pos e']at hd';injection hd' with hd';subst hd';rw[e',hv];exact hp
   ·rw[if_neg e']at hd';exact hG.t t' d (by simp only[ie,hd];rw[if_neg e'];exact hd')
  ·intro t' d hd' r' hr';simp only[ie,hd]at hd';by_cases e':t'=t
   ·rw[if_pos e']at hd';injection hd' with hd';subst hd';cases hr'
   ·rw[if_neg e']at hd';exact hG.tn t' d (by simp only[ie,hd];rw[if_neg e'];exact hd') r' hr'
theorem aT{id:Nat}{Q:Exit->Act->World->Prop}{a:Act}{w:World}(h:Q .normal a w):Exit.inBlock id Q (.exit id) a w:=by simp only[Exit.inBlock,if_true];exact h
def JM(P:Program)(s:TypeId)(k:Nat):Option TypeId:=
 match P.underlying s with
 |some (.struct fs)=>(fs[k]?).map (·.type)
 |_=>none
theorem Ep{s k t:Nat}(h:JM P s k=some t):∀fs f,P.underlying s=some (.struct fs)->fs[k]?=some f->f.type=t:=by
 intro fs f hu hf;simp only[JM,hu,hf,Option.map_some,Option.some.injEq]at h;exact h
theorem an.Kx{s k o t:Nat}{x:Operand}{l:List D}{d:D}(hx:ev T x=some (.agg l))(hf:xk P s k=some o)(ht:JM P s k=some t)(hl:lay P t=some none)(hd:l[o]?=some d)
  (hr:an P ops c os (bC T dst d) H sps T' H'):
  an P ops c (⟨dst,.field s x k,ty,pos,aft,none⟩::os) T H (ps [(x,.agg l)] d::sps) T' H':=
 .KU hx hf (fun fs f hu hfk=>by rw[Ep ht fs f hu hfk];exact hl) hd hr
def ub(ρ:Nat->Nat):List D->List D->Prop
 |[],[]=>True
 |d::l,d'::l'=>tZ ρ d d'/\ub ρ l l'
 |_,_=>False
theorem ub.all{ρ:Nat->Nat}{ε:Env}{w:World}{S:cX}:∀{l l':List D} {vs:List Value},ub ρ l l'->cr ε w S l vs->cr (fun r=>ε (ρ r)) w S l' vs
 |[],[],[],_,_=>trivial
 |[],[],_::_,_,h=>h.elim
 |_::_,_::_,[],_,h=>h.elim
 |_::_,_::_,_::_,h,ha=>⟨h.1.1 _ _ _ _ ha.1,ub.all h.2 ha.2⟩
 |[],_::_,_,h,_=>h.elim
 |_::_,[],_,h,_=>h.elim
theorem ub.bW{ρ:Nat->Nat}:∀{l l':List D},ub ρ l l'->∀r∈bW l',ρ r∈Am.bW l
 |[],[],_,r,h=>by cases h
 |d::l,d'::l',h,r,hr=>by
  simp only[Am.bW,List.mem_append]at hr|-;exact hr.imp (h.1.2 r) (ub.bW h.2 r)
 |[],_::_,h,_,_=>h.elim
 |_::_,[],h,_,_=>h.elim
theorem xv.box{ρ:Nat->Nat}{ty:TypeId}{l l':List D}(h:ub ρ l l'):xv ρ (.box ty l) (.box ty l'):=⟨fun _ _ _ _ _ ⟨e,cs,hb,h1,ha⟩=>⟨e,cs,hb,h1,h.all ha⟩,fun r hr=>h.bW r hr⟩
theorem tZ.xb{ρ:Nat->Nat}{r:Nat}{b:Value}:tZ ρ (.pinned (ρ r) b) (.pinned r b):=⟨fun _ _ _ _ h=>h,fun r' hr'=>by simp[D.pinned]at hr'|-;rw[hr']⟩
end
end Go.Am
namespace Go.Am
open Go.RowKit
theorem bh.Ab{P:Program}{f:FuncId}{Hi Ho Hi' Ho':List (Nat×Hp)}{ds ds':List D}{d d':D}(h:bh P f Hi ds Ho d)(ρ σ:Nat->Nat)(hσ:(names Ho).all (fun r=>Nat.beq (σ (ρ r)) r)=true)
  (hHi:nH ρ Hi' Hi)(hni:names Hi'=(names Hi).map ρ)(hds:ub ρ ds' ds)(hHo:nH σ Ho Ho')(hno:names Ho'=(names Ho).map ρ)(hd:tZ σ d d')
  (w1:dh Hi' (bW ds')=true)(w2:dh Hi' (kE Hi')=true)(w3:dh Ho' (kE Ho')=true)(w4:dh Ho' d'.nm=true)(w5:dh Ho' (names Hi')=true):bh P f Hi' ds' Ho' d' where
 ok:=h.ok
 H6:=w1
 IC:=w2
 H4:=w3
 Gk:=w4
 tN:=w5
 calls:=by
  intro A w ε φ vs hlo hdj hp hv;have inv:∀r,ah Ho r≠none->σ (ρ r)=r:=fun r hr=>Nat.eq_of_beq_eq_true (List.all_eq_true.1 hσ r (cJ.1 hr));have hio:∀r,ah Hi r≠none->ah Ho r≠none:=fun r hr=>dL h.tN r (cJ.1 hr);have toI:∀r,ah Hi r≠none->ah Hi' (ρ r)≠none:=fun r hr=>cJ.2 (by rw[hni];exact List.mem_map.2 ⟨r,cJ.1 hr,rfl⟩);have ofI:∀r',ah Hi' r'≠none->∃r,ah Hi r≠none/\ρ r=r':=fun r' hr'=>by
   have:=cJ.1 hr';rw[hni]at this;obtain⟨r,hr,e⟩:=List.mem_map.1 this;exact⟨r,cJ.2 hr,e⟩
  have ofO:∀r',ah Ho' r'≠none->∃r,ah Ho r≠none/\ρ r=r':=fun r' hr'=>by
   have:=cJ.1 hr';rw[hno]at this;obtain⟨r,hr,e⟩:=List.mem_map.1 this;exact⟨r,cJ.2 hr,e⟩
  have toO:∀r,ah Ho r≠none->ah Ho' (ρ r)≠none:=fun r hr=>cJ.2 (by rw[hno];exact List.mem_map.2 ⟨r,cJ.1 hr,rfl⟩);have inj:∀r r',ah Ho r≠none->ah Ho r'≠none->r≠r'->ρ r≠ρ r':=fun r r' hr hr' hne e=>hne (by rw[←inv r hr,←inv r' hr',e]);have hL:nM Hi (fun r=>φ (ρ r))=nM Hi' φ:=by
   funext k
   apply propext
   constructor
   ·rintro⟨r,hr,hf⟩;exact⟨ρ r,toI r hr,hf⟩
   ·rintro⟨r',hr',hf⟩;obtain⟨r,hr,rfl⟩:=ofI r' hr';exact⟨r,hr,hf⟩
  refine(h.calls A w (fun r=>ε (ρ r)) (fun r=>φ (ρ r)) vs (fun r hr=>hlo (ρ r) (toI r hr)) (fun r r' hr hr' hne=>hdj (ρ r) (ρ r') (toI r hr) (toI r' hr') (inj r r' (hio r hr) (hio r' hr') hne)) (fun r x hr=>?_) (hds.all hv)).mono ?_
  ·obtain⟨y,hy,hle⟩:=mQ hHi r x hr;exact hle.1 _ _ _ _ _ (hp (ρ r) y hy)
  rintro e w' ⟨v,ε2,φ2,rfl,hε,hb1,hb2,hb3,hb4,hb5⟩;rw[hL]at hb1 hb2 hb3 hb5;have hreg:∀k,al ⟨A,w.heap.size,w,0,nM Hi' φ⟩ (ah Ho) φ2 k->k<w'.heap.size->al ⟨A,w.heap.size,w,0,nM Hi' φ⟩ (ah Ho') (fun r=>φ2 (σ r)) k/\w'.heap[k]?=w'.heap[k]?:=by
   intro k hk _;refine⟨⟨hk.1,fun r' hr'=>?_⟩,rfl⟩;obtain⟨r,hr,rfl⟩:=ofO r' hr';show¬φ2 (σ (ρ r)) k;rw[inv r hr];exact hk.2 r hr
  have hB:Co ⟨A,w.heap.size,w,0,nM Hi' φ⟩ Ho' d' (fun r=>ε2 (σ r)) w' (fun r=>φ2 (σ r)) v:=by
   refine⟨d'.mono (hd.1 _ _ _ _ hb1) (fun _ _=>rfl) hreg,fun r' x' hr'=>?_,fun r' hr' k hk=>?_,fun r1 r2 h1 h2 hne k hk=>?_,hb5⟩
   ·obtain⟨x,hx,hle⟩:=mQ hHo r' x' hr';exact x'.mono (hle.1 _ _ _ _ _ (hb2 (σ r') x hx)) (fun _ _=>rfl) hreg (fun _ _=>rfl)
   ·obtain⟨r,hr,rfl⟩:=ofO r' hr';simp only[inv r hr]at hk;exact hb3 r hr k hk
   ·obtain⟨ra,hra,rfl⟩:=ofO r1 h1;obtain⟨rb,hrb,rfl⟩:=ofO r2 h2;simp only[inv ra hra,inv rb hrb]at hk|-;exact hb4 ra rb hra hrb (fun e=>hne (by rw[e])) k hk
  refine⟨v,fun r=>ε2 (σ r),fun r=>φ2 (σ r),rfl,fun r' hr'=>?_,hB⟩;obtain⟨r,hr,rfl⟩:=ofI r' hr';show ε2 (σ (ρ r))=_;rw[inv r (hio r hr),hε r hr]
section
variable {P:Program} {os:List Oper} {c:Ctx} {T T':List (Nat×D)} {H H':List (Nat×Hp)} {sps:List Spec}
variable {ops:Array Oper} {dst:Option Nat} {ty:TypeId} {pos:String} {aft:Array Edge} {Q:Exit->Act->World->Prop} {x y:Code}
def Kj(P:Program)(s d:TypeId):Bool:=
 match P.underlying s,P.underlying d with
 |some (.slice e),some .string=>match P.underlying e with|some (.int .u8)=>true|_=>false
 |_,_=>false
def bytesOf(l:List Int):List UInt8:=l.map fun n=>UInt8.ofNat n.toNat
theorem rj:∀(ns:List Int) (s:ByteArray),ns.foldl (fun r n=>r.push (UInt8.ofNat n.toNat)) s=⟨(s.data.toList++bytesOf ns).toArray⟩
 |[],s=>by simp[bytesOf]
 |n::ns,s=>by
  rw[List.foldl_cons,rj ns];simp[bytesOf,ByteArray.push]
theorem xA(k:IntKind):∀l:List Int,flat (ak.int k) l=l.map (D.int k)
 |[]=>rfl
 |n::l=>by
  have:=xA k l;simp only[flat,List.flatMap_cons]at this|-;rw[this];rfl
theorem vY{k:IntKind}{ε:Env}{w:World}{S:cX}:∀{l:List Int} {vs:List Value},cr ε w S (l.map (D.int k)) vs->vs=l.map (Value.int k)
 |[],[],_=>rfl
 |n::l,v::vs,h=>by rw[List.map_cons,←vY h.2,show v=_ from h.1]
 |[],_::_,h=>h.elim
 |_::_,[],h=>h.elim
theorem an.KC{s d:TypeId}{x:Operand}{l:List Int}(hx:ev T x=some (ai (ak.int .u8) l))(ht:Kj P s d=true)(hr:an P ops c os (bC T dst (cw (bytesOf l))) H sps T' H'):
  an P ops c (⟨dst,.convert s d x,ty,pos,aft,none⟩::os) T H (ps [(x,ai (ak.int .u8) l)] (cw (bytesOf l))::sps) T' H':=
 .pure [(x,ai (ak.int .u8) l)] rfl (by simpa using hx) (kz rfl) (fun ε w S a ha=>by
  obtain⟨A,cap,h1,_,hln,hA⟩:=ha (x,ai (ak.int .u8) l) (by simp);dsimp only at h1;unfold Kj at ht
  split at ht<;>try cases ht
  rename_i e hs hd
  split at ht<;>try cases ht
  rename_i he;have hc:∀a':Option Addr,(convert s d (.slice a' l.length cap)).run P w=(Conv.bytesToString (.slice a' l.length cap)).run P w:=fun a'=>run_convert_bytes_string w s d e a' l.length cap hs he hd;refine⟨.string ⟨(bytesOf l).toArray⟩,?_,rfl⟩;rcases hA with h0|⟨b,o,rfl,_,hl⟩
  ·have:l=[]:=List.eq_nil_of_length_eq_zero h0;subst this;have hz:(Conv.bytesToString (.slice A 0 cap)).run P w=.ok (.string ⟨#[]⟩) w:=by
    cases A with
    |none=>rfl
    |some a0=>
     have hq:=run_loadCells_list (P:=P) w a0 [] (fun j v hv=>by simp at hv);have:=run_bytesToString (P:=P) w a0 0 cap [] hq;rw[rj]at this;exact this
   have hc0:(convert s d (.slice A 0 cap)).run P w=_:=(hc A).trans hz;simp only[execOp,h1,Sem.run_bind,List.length_nil,hc0,Result.andThen_ok];rfl
  ·obtain⟨vs,h3,h4,h5⟩:=o_ hl;rw[xA]at h5;have hvs:=vY h5;subst hvs;have hld:=run_loadCells_list (P:=P) w ⟨b,o,none⟩ (l.map (Value.int .u8)) (fun j v hv=>by rw[iN];exact h3 j v hv);rw[List.length_map]at hld;have:=run_bytesToString (P:=P) w ⟨b,o,none⟩ l.length cap l hld;rw[rj]at this;simp only[execOp,h1,hc,Sem.run_bind,this,Result.andThen_ok]
   rfl) hr
end
end Go.Am
namespace Go.Am
open Go.RowKit
theorem wrap_u32{z:Int}{n:Nat}(h:z=n):IntKind.u32.wrap z=((n%4294967296:Nat):Int):=by rw[IntKind.wrap_u32];omega
theorem wrap_u64{z:Int}{n:Nat}(h:z=n)(hn:n<18446744073709551616):IntKind.u64.wrap z=(n:Int):=by rw[IntKind.wrap_u64];omega
theorem iI{z:Int}{n:Nat}(h:z=n)(hn:n<9223372036854775808):IntKind.i64.wrap z=(n:Int):=by rw[IntKind.wrap_i64];omega
theorem yW{k:IntKind}{n:Nat}(hk:32<=k.bits):ym .shr k (n:Int) 32=some ((n/4294967296:Nat):Int):=by
 have:min (32:Int).toNat k.bits=32:=by simp;omega
 unfold ym;rw[if_neg (by omega)];simp only[this]
 congr 1
 rw[Int.fdiv_eq_ediv_of_nonneg _ (by decide)];omega
theorem jX(n:Nat):IntKind.u32.wrap (n:Int)=((n%4294967296:Nat):Int):=wrap_u32 rfl
theorem cg{n:Nat}(hn:n<18446744073709551616):IntKind.u64.wrap (n:Int)=(n:Int):=wrap_u64 rfl hn
theorem gV{n:Nat}(hn:n<4294967296):IntKind.u32.wrap (n:Int)=(n:Int):=by rw[jX];omega
theorem vE{n m:Nat}(hn:n+m<9223372036854775808):IntKind.i64.wrap ((n:Int)+(m:Int))=((n+m:Nat):Int):=iI (by omega) hn
theorem eP{m:Nat}{ty:TypeId}{l l':List D}{hl:bW l=[]}{hl':bW l'=[]}(h:l=l'):Hp.row m ty l hl=Hp.row m ty l' hl':=by subst h;rfl
theorem HU.of_eq{d d':Hp}(h:d=d'):HU d d':=h▸.refl d
theorem dO{T:List (Nat×D)}:∀{l:List (Nat×D)},l.map (fun x=>ba T x.1)=l.map (fun x=>some x.2)->jo T l
 |[],_=>trivial
 |(t,d)::l,h=>by simp only[List.map_cons,List.cons.injEq]at h;exact⟨⟨d,h.1,.refl d⟩,dO h.2⟩
theorem jU{H:List (Nat×Hp)}:∀{l:List (Nat×Hp)},l.map (fun x=>ah H x.1)=l.map (fun x=>some x.2)->l5 H l
 |[],_=>trivial
 |(t,d)::l,h=>by simp only[List.map_cons,List.cons.injEq]at h;exact⟨⟨d,h.1,.refl d⟩,jU h.2⟩
theorem int_eq{k:IntKind}{a b:Int}(h:a=b):Le (.int k a) (.int k b):=.of_eq (by rw[h])
theorem ta(n:Nat)(hn:n<18446744073709551616):ml PP 145 [.int .u64 n] (ao n):=by
 refine .of Go.Proofs.Tryz.func145 rfl (by kernel_rfl) rfl rfl rfl (fun A w0=>?_);refine .al (.aq rfl .nil) rfl ?_;have hl:dF [n%4294967296,n/4294967296]:=by intro d hd;simp at hd;omega
 have hv:val [n%4294967296,n/4294967296]=n:=by simp only[val];omega
 refine .al (.mv rfl<|.cv rfl mz (jX n)<|.mv rfl<|.sh rfl rfl (yW (by decide))<|.cv rfl mz (gV (by omega))<|
  .bl (hl:=rfl) [(0,_,.int .u32 (n%4294967296:Nat),[.int .u32 (n%4294967296:Nat)]),(1,_,.int .u32 (n/4294967296:Nat),[.int .u32 (n/4294967296:Nat)])] Eh rfl rfl ⟨rfl,rfl,.one rfl,rfl,rfl,rfl,.one rfl,rfl,trivial⟩ (by simp[qs,ev,ba,bC]) rfl rfl<|
  .call (nf [n%4294967296,n/4294967296] hl (by simp)) ⟨rfl,trivial⟩<|.aq rfl .nil) rfl ?_
 refine .ri rfl (.tmp rfl) (.of_eq ?_) rfl;rw[hv]
theorem eE(l:List Nat)(i:Nat):val (l.take (i+1))=val (l.take i)+4294967296^i*l.getD i 0:=by
 by_cases h:i<l.length
 ·rw[eZ (List.getElem?_eq_getElem h)];simp[h]
 ·rw[List.take_of_length_le (by omega),List.take_of_length_le (by omega)];simp[List.getD,List.getElem?_eq_none (show l.length<=i by omega)]
theorem gB{l:List Nat}{i:Nat}(h:i<l.length)(d:Nat):val ((l.set i d).take (i+1))=val (l.take i)+4294967296^i*d:=by
 rw[eE]
 congr 1
 ·rw[List.take_set_of_le (Nat.le_refl i)]
 ·simp[h]
theorem jn{l:List Nat}(h:dF l){d:Nat}(hd:d<4294967296)(i:Nat):dF (l.set i d):=fun x hx=>(List.mem_or_eq_of_mem_set hx).elim (h x) (fun e=>e▸hd)
theorem cz{l:List Nat}(h:dF l)(i:Nat):l.getD i 0<4294967296:=by
 by_cases hi:i<l.length
 ·simp[hi];exact h _ (List.getElem_mem hi)
 ·simp[List.getElem?_eq_none (show l.length<=i by omega)]
theorem jb(n:Nat):dF (List.replicate n 0):=fun d hd=>by rw[List.eq_of_mem_replicate hd];omega
theorem nr(n:Nat):List.replicate n (D.int .u32 0)=bZ (List.replicate n 0):=by simp[bZ]
theorem fA(l:List Nat)(i d:Nat):(bZ l).set ((i:Int).toNat*1) (.int .u32 (d:Nat))=bZ (l.set i d):=by rw[Int.toNat_natCast,Nat.mul_one,Df]
theorem C1{p c d e:Nat}{v va vb:Nat}(h:v+p*c=va+vb):v+p*((c+d+e)%4294967296)+p*4294967296*((c+d+e)/4294967296)=va+p*d+(vb+p*e):=by
 have:p*((c+d+e)%4294967296)+p*4294967296*((c+d+e)/4294967296)=p*c+p*d+p*e:=by
  rw[Nat.mul_assoc,←Nat.mul_add,Nat.mod_add_div,Nat.mul_add,Nat.mul_add]
 omega
theorem HJ(a b:List Nat)(ha:dF a)(hb:dF b)(hla:a.length<=1099511627776)(hlb:b.length<=1099511627776){s:Nat}(hv0:val a+val b=s):ml PP 212 [d_ a,d_ b] (ao s):=by
 refine .of Go.Proofs.Tryz.func212 rfl (by kernel_rfl) rfl rfl rfl (fun A w0=>?_);refine .al (.aq rfl<|.nil) rfl ?_;refine .tw (ι:={p:List Nat×List Nat//dF p.1/\dF p.2/\p.1.length<=1099511627776/\p.2.length<=p.1.length/\val p.1+val p.2=s}) (fun p=>[(0,d_ p.1.1),(1,d_ p.1.2)]) (fun _=>[]) ?_ ?_
 ·by_cases h:a.length<b.length
  ·refine .al (.mv rfl<|.ln rfl mw<|.mv rfl<|.ln rfl mw<|.cm rfl rfl (b:=true) (by simp[dY,h])<|.nil) rfl ?_;refine .cT rfl (.region (.mv rfl<|.mv rfl<|.aq rfl<|.aq rfl<|.nil) rfl fun _ _ hs=>?_);exact hs.to ⟨(b,a),hb,ha,hlb,Nat.le_of_lt h,(Nat.add_comm _ _).trans hv0⟩ (dO rfl) trivial rfl rfl
  ·refine .al (.mv rfl<|.ln rfl mw<|.mv rfl<|.ln rfl mw<|.cm rfl rfl (b:=false) (by simp[dY];omega)<|.nil) rfl ?_;exact .cF rfl (.skip fun _ _ hs=>hs.to ⟨(a,b),ha,hb,hla,Nat.le_of_not_lt h,hv0⟩ (dO rfl) trivial rfl rfl)
 rintro⟨⟨a',b'⟩,ha',hb',hl,hle,hval⟩;simp only at ha' hb' hl hle hval;clear hv0 ha hb hla hlb;show Ok PP _ [(0,d_ a'),(1,d_ b')] [] _ _;refine .al (.mv rfl<|.ln rfl mw<|.ar rfl rfl (congrArg some (vE (n:=a'.length) (m:=1) (by omega)))<|.Is rfl rfl Eh rfl (by omega) (by omega) rfl<|.aq rfl<|.nil) rfl ?_;refine .al (.aq rfl<|.nil) rfl ?_;refine .tw (ι:={p:List Nat×Nat//p.1.length=a'.length+1/\dF p.1/\p.2<=1/\val (p.1.take a'.length)+4294967296^a'.length*p.2=s})
  (fun p=>[(0,d_ a'),(1,d_ b'),(18,.own 18),(5,.own 18),(6,.int .u64 p.1.2)]) (fun p=>[(18,.row 1 230 (bZ p.1.1) (a_ _))]) ?_ ?_
 ·refine .al (.mv rfl<|.ln rfl mw<|.mv rfl<|.nil) rfl ?_;refine .block (.loop (ι:={p:List Nat×Nat×Nat//p.1.length=a'.length+1/\dF p.1/\p.2.1<=1/\p.2.2<=a'.length/\val (p.1.take p.2.2)+4294967296^p.2.2*p.2.1=val (a'.take p.2.2)+val (b'.take p.2.2)})
   (fun p=>[(0,d_ a'),(1,d_ b'),(18,.own 18),(5,.own 18),(6,.int .u64 p.1.2.1),(20,.int .i64 a'.length),(21,.int .i64 p.1.2.2)]) (fun p=>[(18,.row 1 230 (bZ p.1.1) (a_ _))])
   (fun p=>a'.length-p.1.2.2) ⟨(List.replicate (a'.length+1) 0,0,0),by simp,jb _,by simp,Nat.zero_le _,by simp[val]⟩
   (dO rfl) ⟨⟨_,rfl,.of_eq (eP (nr _))⟩,trivial⟩ rfl rfl ?_)
  rintro⟨⟨zs,c,i⟩,hzl,hzs,hc,hi,hv⟩;simp only at hzl hzs hc hi hv;show Ok PP _ [(0,d_ a'),(1,d_ b'),(18,.own 18),(5,.own 18),(6,.int .u64 c),(20,.int .i64 a'.length),(21,.int .i64 i)] [(18,.row 1 230 (bZ zs) (a_ _))] _ _;by_cases hlt:i<a'.length
  ·refine .al (.cm rfl rfl (b:=true) (by simp[dY,hlt])<|.nil) rfl (.sq ?_);refine .cT rfl (.skip (Ok.on ?_));refine .tw (ι:={q:List Nat×Nat//q.1.length=a'.length+1/\dF q.1/\q.2<=1/\val (q.1.take (i+1))+4294967296^(i+1)*q.2=val (a'.take (i+1))+val (b'.take (i+1))})
    (fun p=>[(0,d_ a'),(1,d_ b'),(18,.own 18),(5,.own 18),(6,.int .u64 p.1.2),(20,.int .i64 a'.length),(21,.int .i64 i)]) (fun p=>[(18,.row 1 230 (bZ p.1.1) (a_ _))]) ?_ ?_
   ·have hx:a'[i]?=some (a'.getD i 0):=by simp[hlt]
    have hdl:=cz ha' i;have hel:=cz hb' i;have hst:=eE a' i;have hst':=eE b' i;generalize a'.getD i 0=d at hx hdl hst;refine .block (.al (.mv rfl<|.aq rfl<|.nil) rfl ?_);refine .al (.mv rfl<|.mv rfl<|.mv rfl<|.qp rfl rfl pF (by omega) (by omega) (bH hx)<|.i4 rfl rC<|.cv rfl nL (cg (by omega))<|
     .ar rfl rfl (congrArg some (wrap_u64 (n:=c+d) (by omega) (by omega)))<|.aq rfl<|.nil) rfl ?_
    refine .cut [(0,d_ a'),(1,d_ b'),(18,.own 18),(5,.own 18),(6,.int .u64 (c+d+b'.getD i 0:Nat)),(7,.int .i64 i),(20,.int .i64 a'.length),(21,.int .i64 i)] [(18,.row 1 230 (bZ zs) (a_ _))] ?_ ?_
    ·by_cases hb:i<b'.length
     ·have hy:b'[i]?=some (b'.getD i 0):=by simp[hb]
      generalize b'.getD i 0=e at hy hel hst';refine .al (.mv rfl<|.mv rfl<|.ln rfl mw<|.cm rfl rfl (b:=true) (by simp[dY,hb])<|.nil) rfl ?_;refine .cT rfl (.region (.mv rfl<|.mv rfl<|.mv rfl<|.qp rfl rfl pF (by omega) (by omega) (bH hy)<|.i4 rfl rC<|.cv rfl nL (cg (by omega))<|
       .ar rfl rfl (congrArg some (wrap_u64 (n:=c+d+e) (by omega) (by omega)))<|.aq rfl<|.nil) rfl fun _ _ hs=>?_)
      exact hs.sub (dO rfl) (jU rfl) rfl rfl
     ·have he:b'.getD i 0=0:=by simp[List.getElem?_eq_none (show b'.length<=i by omega)]
      refine .al (.mv rfl<|.mv rfl<|.ln rfl mw<|.cm rfl rfl (b:=false) (by simp[dY];omega)<|.nil) rfl ?_;refine .cF rfl (.skip fun _ _ hs=>?_);exact hs.sub ⟨⟨_,rfl,.refl _⟩,⟨_,rfl,.refl _⟩,⟨_,rfl,.refl _⟩,⟨_,rfl,.refl _⟩,⟨_,rfl,int_eq (by omega)⟩,⟨_,rfl,.refl _⟩,⟨_,rfl,.refl _⟩,⟨_,rfl,.refl _⟩,trivial⟩ (jU rfl) rfl rfl
    generalize b'.getD i 0=e at hel hst';refine .al (.mv rfl<|.mv rfl<|.mv rfl<|.cv rfl mz (jX _)<|.q6 (n:=a'.length+1) (m':=1) rfl rfl rfl pF (by rw[bT,hzl];omega) rfl rfl (by omega) (by omega)<|.A2 rfl rfl rfl rC rfl rfl (by simp[bT,hzl];try omega)<|.nil) rfl ?_;refine .region (.mv rfl<|.sh rfl rfl (yW (by decide))<|.aq rfl<|.nil) rfl fun _ _ hs=>?_;refine hs.to ⟨(zs.set i ((c+d+e)%4294967296),(c+d+e)/4294967296),by simpa using hzl,jn hzs (Nat.mod_lt _ (by omega)) i,?_,?_⟩
     (dO rfl) ⟨⟨_,rfl,.of_eq (eP (fA ..))⟩,trivial⟩ rfl rfl
    ·simp only;omega
    ·simp only;rw[gB (by omega),hst,hst',Nat.pow_succ];exact C1 hv
   ·rintro⟨⟨zs',c'⟩,h1,h2,h3,h4⟩;simp only at h1 h2 h3 h4;show Ok PP _ [(0,d_ a'),(1,d_ b'),(18,.own 18),(5,.own 18),(6,.int .u64 c'),(20,.int .i64 a'.length),(21,.int .i64 i)] [(18,.row 1 230 (bZ zs') (a_ _))] _ _;refine .region (.ar rfl rfl (congrArg some (vE (n:=i) (m:=1) (by omega)))<|.mv rfl<|.nil) rfl fun _ _ hs=>?_;exact hs.round (m:=a'.length-i) ⟨(zs',c',i+1),h1,h2,h3,hlt,h4⟩ (by simp only;omega) (dO rfl) (jU rfl) rfl rfl
  ·have:i=a'.length:=by omega
   subst this;refine .al (.cm rfl rfl (b:=false) (by simp[dY])<|.nil) rfl (.sq ?_);refine .cF rfl (.exit fun _ _ hs=>?_);refine hs.to ⟨(zs,c),hzl,hzs,hc,?_⟩ (dO rfl) (jU rfl) rfl rfl;rw[←hval];simpa [List.take_of_length_le hle]using hv
 rintro⟨⟨zs,c⟩,hzl,hzs,hc,hv⟩;simp only at hzl hzs hc hv;show Ok PP _ [(0,d_ a'),(1,d_ b'),(18,.own 18),(5,.own 18),(6,.int .u64 c)] [(18,.row 1 230 (bZ zs) (a_ _))] _ _;refine .al (.mv rfl<|.mv rfl<|.ln rfl mw<|.mv rfl<|.cv rfl mz (gV (by omega))<|.q6 (n:=a'.length+1) (m':=1) rfl rfl rfl pF (by rw[bT,hzl];omega) rfl rfl (by omega) (by omega)<|.A2 rfl rfl rfl rC rfl rfl (by simp[bT,hzl];try omega)<|.nil) rfl ?_;refine .uw (n:=a'.length+1) (m':=1) 5 rfl rfl (by simp[bT,hzl]) rfl rfl ?_;have hset:(bZ zs).set ((a'.length:Int).toNat*1) (.int .u32 c)=bZ (zs.set a'.length c):=fA ..;have hlv:val (zs.set a'.length c)=s:=by
  have:=gB (l:=zs) (i:=a'.length) (by omega) c;rw[List.take_of_length_le (by simp;omega)]at this;rw[this,hv]
 rw[←hlv];refine .sub [(5,d_ (zs.set a'.length c))] [] ⟨⟨_,rfl,.of_eq (nS (by simp[hzl]) hset)⟩,trivial⟩ trivial rfl rfl ?_;refine .al (.mv rfl<|.call (nf _ (jn hzs (by omega) _) (by simp;omega)) ⟨rfl,trivial⟩<|.aq rfl<|.nil) rfl ?_;exact .ri rfl (.tmp rfl) (.refl _) rfl
end Go.Am
namespace Go.Am
open Go.RowKit
section
variable {P:Program} {os:List Oper} {c:Ctx} {T T':List (Nat×D)} {H H':List (Nat×Hp)} {sps:List Spec}
variable {ops:Array Oper} {dst:Option Nat} {ty:TypeId} {pos:String} {aft:Array Edge}
theorem an.Kk{xt:TypeId}{x:Operand}{k:IntKind}{n r:Int}(hx:ev T x=some (.int k n))(h:bits .xor k (if k.signed then-1 else k.max) n=r)(hr:an P ops c os (bC T dst (.int k r)) H sps T' H'):
  an P ops c (⟨dst,.unOp .xor xt x,ty,pos,aft,none⟩::os) T H (ps [(x,.int k n)] (.int k r)::sps) T' H':=
 .pure [(x,.int k n)] rfl (by simpa using hx) (kz rfl) (fun ε w S a ha=>by
  have h1:a.eval x=.int k n:=ha (x,.int k n) (by simp);subst h;exact⟨_,by simp only[execOp,h1,Op.unary,Sem.run_bind,Sem.run_pure];rfl,rfl⟩) hr
end
theorem kh(a b:Nat)(ha:a<4294967296)(hb:b<4294967296):bits .and .u32 (a:Int) (b:Int)=((a&&&b:Nat):Int)/\bits .or .u32 (a:Int) (b:Int)=((a|||b:Nat):Int)/\bits .xor .u32 (a:Int) (b:Int)=((a^^^b:Nat):Int):=by
 have h1:(BitVec.ofInt 32 (a:Int)).toNat=a:=by
  rw[BitVec.ofInt_natCast,BitVec.toNat_ofNat];exact Nat.mod_eq_of_lt (by omega)
 have h2:(BitVec.ofInt 32 (b:Int)).toNat=b:=by
  rw[BitVec.ofInt_natCast,BitVec.toNat_ofNat];exact Nat.mod_eq_of_lt (by omega)
 have x1:a&&&b<2^32:=Nat.and_lt_two_pow _ (by omega);have x2:a|||b<2^32:=Nat.or_lt_two_pow (by omega) (by omega);have x3:a^^^b<2^32:=Nat.xor_lt_two_pow (by omega) (by omega);refine⟨?_,?_,?_⟩
 ·show IntKind.u32.wrap ((BitVec.ofInt 32 (a:Int)&&&BitVec.ofInt 32 (b:Int)).toNat:Int)=_;rw[BitVec.toNat_and,h1,h2,gV (by omega)]
 ·show IntKind.u32.wrap ((BitVec.ofInt 32 (a:Int)|||BitVec.ofInt 32 (b:Int)).toNat:Int)=_;rw[BitVec.toNat_or,h1,h2,gV (by omega)]
 ·show IntKind.u32.wrap ((BitVec.ofInt 32 (a:Int)^^^BitVec.ofInt 32 (b:Int)).toNat:Int)=_;rw[BitVec.toNat_xor,h1,h2,gV (by omega)]
theorem I5{n:Nat}(h:n<4294967296):n/2147483648=if n.testBit 31 then 1 else 0:=by
 rw[Nat.testBit_eq_decide_div_mod_eq];simp only[decide_eq_true_eq]
 split<;>omega
theorem Ix{n:Nat}(h:n<4294967296):n.testBit 31=decide (2147483648<=n):=by
 rw[Nat.testBit_eq_decide_div_mod_eq];by_cases h1:2147483648<=n
 ·simp only[h1,decide_true,decide_eq_true_eq];omega
 ·simp only[h1,decide_false,decide_eq_false_iff_not];omega
theorem I9:(4294967295:Nat).testBit 31=true:=by decide
theorem zb{x y b:Nat}(hx:x<4294967296)(hy:y<4294967296)(hb:b<=1):
  (((4294967295^^^x)&&&y)|||((4294967295^^^(x^^^y))&&&((x+(8589934592-y-b))%4294967296)))/2147483648=if x<y+b then 1 else 0:=by
 have hd:(x+(8589934592-y-b))%4294967296<4294967296:=Nat.mod_lt _ (by omega);generalize hdd:(x+(8589934592-y-b))%4294967296=d at hd;have h1:(4294967295^^^x)&&&y<2^32:=Nat.and_lt_two_pow _ (by omega);have h2:(4294967295^^^(x^^^y))&&&d<2^32:=Nat.and_lt_two_pow _ (by omega);rw[I5 (Nat.or_lt_two_pow h1 h2)];simp only[Nat.testBit_or,Nat.testBit_and,Nat.testBit_xor,I9,Ix hx,Ix hy,Ix hd];by_cases c1:2147483648<=x<;>by_cases c2:2147483648<=y<;>by_cases c3:2147483648<=d<;>simp[c1,c2,c3]<;>omega
theorem wV(x y b:Nat)(hx:x<4294967296)(hy:y<4294967296)(hb:b<=1):ml PP 247 [.int .u32 x,.int .u32 y,.int .u32 b]
  (.ig [.int .u32 ((x+(8589934592-y-b))%4294967296:Nat),.int .u32 (if x<y+b then 1 else 0:Nat)]):=by
 refine .of Go.Proofs.Tryz.func247 rfl (by kernel_rfl) rfl rfl rfl (fun A w0=>?_);have hd:(x+(8589934592-y-b))%4294967296<4294967296:=Nat.mod_lt _ (by omega);have hbor:=zb hx hy hb;generalize hdd:(x+(8589934592-y-b))%4294967296=d at hd hbor;have h1:(4294967295^^^x)<2^32:=Nat.xor_lt_two_pow (by omega) (by omega);have h2:x^^^y<2^32:=Nat.xor_lt_two_pow (by omega) (by omega);have h3:4294967295^^^(x^^^y)<2^32:=Nat.xor_lt_two_pow (by omega) h2;have h4:(4294967295^^^x)&&&y<2^32:=Nat.and_lt_two_pow _ (by omega);have h5:(4294967295^^^(x^^^y))&&&d<2^32:=Nat.and_lt_two_pow _ (by omega);have h6:IntKind.u32.wrap (IntKind.u32.wrap ((x:Int)-y)-b)=(d:Int):=by
  rw[IntKind.wrap_u32,IntKind.wrap_u32];omega
 refine .al (.aq rfl<|.aq rfl<|.nil) rfl ?_;refine .al (.mv rfl<|.mv rfl<|.ar rfl rfl rfl<|.mv rfl<|.ar rfl rfl (congrArg some h6)<|.aq rfl<|.nil) rfl ?_;refine .al (.mv rfl<|.Kk rfl (kh 4294967295 x (by omega) hx).2.2<|.mv rfl<|.ar rfl rfl (congrArg some (kh _ _ h1 hy).1)<|.mv rfl<|.mv rfl<|.ar rfl rfl (congrArg some (kh x y hx hy).2.2)<|
  .Kk rfl (kh 4294967295 _ (by omega) h2).2.2<|.mv rfl<|.ar rfl rfl (congrArg some (kh _ _ h3 hd).1)<|.ar rfl rfl (congrArg some (kh _ _ h4 h5).2.1)<|.sh rfl rfl rfl<|.aq rfl<|.nil) rfl ?_
 refine .F7 rfl (.tmp rfl) (.tmp rfl) (.of_eq ?_) rfl;rw[←hbor];show D.ig [_,.int .u32 (Int.fdiv _ _)]=_;rw[Int.fdiv_eq_ediv_of_nonneg _ (by decide)]
 rfl
theorem Fg(x y c:Nat)(hx:x<4294967296)(hy:y<4294967296)(hc:c<=1):ml PP 251 [.int .u32 x,.int .u32 y,.int .u32 c]
  (.ig [.int .u32 ((x+y+c)%4294967296:Nat),.int .u32 ((x+y+c)/4294967296:Nat)]):=by
 refine .of Go.Proofs.Tryz.func251 rfl (by kernel_rfl) rfl rfl rfl (fun A w0=>?_);refine .al (.aq rfl<|.aq rfl<|.nil) rfl ?_;refine .al (.mv rfl<|.cv rfl nL (cg (by omega))<|.mv rfl<|.cv rfl nL (cg (by omega))<|.ar rfl rfl (congrArg some (wrap_u64 (n:=x+y) (by omega) (by omega)))<|
  .mv rfl<|.cv rfl nL (cg (by omega))<|.ar rfl rfl (congrArg some (wrap_u64 (n:=x+y+c) (by omega) (by omega)))<|.aq rfl<|.nil) rfl ?_
 refine .al (.mv rfl<|.cv rfl mz (jX _)<|.aq rfl<|.nil) rfl ?_;refine .al (.mv rfl<|.sh rfl rfl (yW (by decide))<|.cv rfl mz (gV (by omega))<|.aq rfl<|.nil) rfl ?_;exact .F7 rfl (.tmp rfl) (.tmp rfl) (.refl _) rfl
def bO(x:Nat):Nat:=if x=0 then 0 else Nat.log2 x+1
def q8:ByteArray:=⟨((List.range 256).map fun n=>UInt8.ofNat (bO n)).toArray⟩
theorem oy{x:Nat}(h:x≠0):bO x=Nat.log2 x+1:=by simp[bO,h]
theorem nh(x:Nat):x<2^bO x:=by
 by_cases h:x=0
 ·subst h;decide
 ·rw[oy h];exact Nat.lt_log2_self
theorem w_{x:Nat}(h:x≠0):2^(bO x-1)<=x:=by
 rw[oy h];exact Nat.log2_self_le h
theorem FG{x n:Nat}(h1:2^n<=x)(h2:x<2^(n+1)):bO x=n+1:=by
 have h0:x≠0:=by have:=Nat.two_pow_pos n;omega
 rw[oy h0,(Nat.log2_eq_iff h0).2 ⟨h1,h2⟩]
theorem qP{x:Nat}(k:Nat)(h:2^k<=x):bO (x/2^k)+k=bO x:=by
 have hp:=Nat.two_pow_pos k;have hx:x≠0:=by omega
 have hq:x/2^k≠0:=by have:=Nat.div_pos h hp;omega
 have h1:=w_ hq;have h2:=nh (x/2^k);rw[oy hq]at h1 h2|-
 symm
 rw[show Nat.log2 (x/2^k)+1+k=(Nat.log2 (x/2^k)+k)+1 by omega];apply FG
 ·rw[Nat.pow_add];exact(Nat.le_div_iff_mul_le hp).1 h1
 ·rw[show Nat.log2 (x/2^k)+k+1=(Nat.log2 (x/2^k)+1)+k by omega,Nat.pow_add];exact(Nat.div_lt_iff_lt_mul hp).1 h2
theorem zP{n:Nat}(h:n<256):q8[n]?=some (UInt8.ofNat (bO n)):=by
 have hs:q8.size=256:=by simp[q8,ByteArray.size]
 rw[getElem?_pos q8 n (by rw[hs];exact h)];simp[q8,ByteArray.getElem_eq_getElem_data]
end Go.Am
namespace Go.Am
open Go.RowKit
theorem gh(l:List Nat)(i:Nat):val (l.drop i)=l.getD i 0+4294967296*val (l.drop (i+1)):=by
 by_cases h:i<l.length
 ·rw[List.drop_eq_getElem_cons h,val];simp[h]
 ·rw[List.drop_of_length_le (by omega),List.drop_of_length_le (by omega)];simp[val,List.getElem?_eq_none (show l.length<=i by omega)]
theorem fx(l:List Nat)(i:Nat)(h:i<=l.length):val l=val (l.take i)+4294967296^i*val (l.drop i):=by
 conv=>lhs;rw[←List.take_append_drop i l]
 rw[lI,List.length_take,Nat.min_eq_left h]
theorem fD{l:List Nat}(h:dF l)(i:Nat):val (l.take i)<4294967296^i:=by
 have h1:=pA (mR h i);have h2:(l.take i).length<=i:=by simp;omega
 exact Nat.lt_of_lt_of_le h1 (Nat.pow_le_pow_right (by omega) h2)
theorem l_{x:Nat}:x<4294967296^(aL x).length:=by
 have:=pA (dq x);rwa [eJ]at this
theorem dv{x:Nat}(h:x≠0):0<(aL x).length:=by rw[lF h];simp
theorem sY{x:Nat}(h:x≠0):4294967296^((aL x).length-1)<=x:=by
 induction x using Nat.strongRecOn with
 |_ x ih=>
  rw[lF h];simp only[List.length_cons,Nat.add_sub_cancel];by_cases h0:x/4294967296=0
  ·rw[h0,dC];simp;omega
  ·have:=ih _ (Nat.div_lt_self (by omega) (by omega)) h0;have hl:=dv h0;obtain⟨n,hn⟩:∃n,(aL (x/4294967296)).length=n+1:=⟨_,(Nat.succ_pred (by omega)).symm⟩;rw[hn]at this|-;simp only[Nat.add_sub_cancel]at this;rw[Nat.pow_succ];omega
theorem kb{x y:Nat}(h:x<=y):(aL x).length<=(aL y).length:=by
 by_cases h0:x=0
 ·subst h0;rw[dC];simp
 ·have h1:=sY h0;have h2:=l_ (x:=y);have h3:4294967296^((aL x).length-1)<4294967296^(aL y).length:=by omega
  have h4:=(Nat.pow_lt_pow_iff_right (by omega)).1 h3;have:=dv h0;omega
theorem vX{x y:Nat}(h:(aL x).length<(aL y).length):x<y:=by
 apply Nat.lt_of_not_le;intro h';have:=kb h';omega
theorem fC{x n:Nat}(h:x<4294967296^n):(aL x).length<=n:=by
 by_cases h0:x=0
 ·subst h0;rw[dC];simp
 ·have h1:=sY h0;have h3:4294967296^((aL x).length-1)<4294967296^n:=by omega
  have h4:=(Nat.pow_lt_pow_iff_right (by omega)).1 h3;have:=dv h0;omega
def fK(x y:Nat):Int:=if x<y then-1 else if y<x then 1 else 0
theorem uL{a b:List Nat}{i:Nat}(ha:dF a)(hi:i<=a.length)(hj:i<=b.length)(hlt:val (a.drop i)<val (b.drop i)):val a<val b:=by
 rw[fx a i hi,fx b i hj];have h1:=fD ha i;have h2:4294967296^i*(val (a.drop i)+1)<=4294967296^i*val (b.drop i):=Nat.mul_le_mul (Nat.le_refl _) hlt;rw[Nat.mul_add,Nat.mul_one]at h2;omega
theorem J2{a b:Int}(h:a=b):dY .eql a b=some true:=by simp[dY,h]
theorem IK{a b:Int}(h:a≠b):dY .eql a b=some false:=by simp[dY,h]
theorem Af{a b:Int}(h:a<b):dY .lss a b=some true:=by simp[dY,h]
theorem zN{a b:Int}(h:b<=a):dY .lss a b=some false:=by simp[dY];omega
theorem HW{a b:Int}(h:b<a):dY .gtr a b=some true:=by simp[dY,h]
theorem Hu{a b:Int}(h:a<=b):dY .gtr a b=some false:=by simp[dY];omega
theorem H8{a b:Int}(h:b<=a):dY .geq a b=some true:=by simp[dY,h]
theorem Fv{a b:Int}(h:a<b):dY .geq a b=some false:=by simp[dY];omega
theorem DT{n d:Nat}(hd:d≠0)(hn:n<18446744073709551616):pH .quo .u64 (n:Int) (d:Int)=some ((n/d:Nat):Int):=by
 unfold pH;simp only[Int.natCast_eq_zero,hd,if_false];rw[show(n:Int).tdiv (d:Int)=((n/d:Nat):Int)from rfl,cg (Nat.lt_of_le_of_lt (Nat.div_le_self _ _) hn)]
theorem wU{k:IntKind}{n d:Nat}(hd:d≠0):pH .rem k (n:Int) (d:Int)=some ((n%d:Nat):Int):=by
 unfold pH;simp only[Int.natCast_eq_zero,hd,if_false]
 rfl
theorem wW{n d:Nat}(hd:d≠0)(hn:n<9223372036854775808):pH .quo .i64 (n:Int) (d:Int)=some ((n/d:Nat):Int):=by
 unfold pH;simp only[Int.natCast_eq_zero,hd,if_false];rw[show(n:Int).tdiv (d:Int)=((n/d:Nat):Int)from rfl,iI rfl (Nat.lt_of_le_of_lt (Nat.div_le_self _ _) hn)]
theorem AP{n:Nat}(hn:n<4294967296):ym .shl .u64 (n:Int) 32=some ((n*4294967296:Nat):Int):=by
 unfold ym;rw[if_neg (by omega)];simp only[show min (32:Int).toNat IntKind.u64.bits=32 by decide];rw[show(n:Int)*2^32=((n*4294967296:Nat):Int)by rw[Int.natCast_mul];rfl,cg (by omega)]
theorem xm{n d:Nat}(hn:n<4294967296)(hd:d<4294967296):pH .or .u64 ((n*4294967296:Nat):Int) (d:Int)=some ((n*4294967296+d:Nat):Int):=by
 show some (bits .or .u64 _ _)=_;rw[bits_or_u64_nat _ _ (by omega) (by omega)];have:=Nat.two_pow_add_eq_or_of_lt (i:=32) (b:=d) (by omega) n;rw[show n*4294967296=2^32*n by omega,←this]
theorem sH{n d:Nat}(h:n*d<18446744073709551616):pH .mul .u64 (n:Int) (d:Int)=some ((n*d:Nat):Int):=by
 show some (IntKind.u64.wrap _)=_;rw[←Int.natCast_mul,cg h]
theorem sL{n d:Nat}(h:n+d<18446744073709551616):pH .add .u64 (n:Int) (d:Int)=some ((n+d:Nat):Int):=congrArg some (wrap_u64 (by omega) h)
theorem eG{n d:Nat}(h:n+d<9223372036854775808):pH .add .i64 (n:Int) (d:Int)=some ((n+d:Nat):Int):=congrArg some (iI (by omega) h)
theorem qv{n d:Nat}(h:d<=n)(h':n<9223372036854775808):pH .sub .i64 (n:Int) (d:Int)=some ((n-d:Nat):Int):=congrArg some (iI (by omega) (by omega))
theorem kW{n:Nat}(h':n<9223372036854775808):pH .sub .i64 (n:Int) 1=some ((n:Int)-1):=congrArg some (wrap_i64 (by omega) (by omega))
theorem gI{n:Nat}(h':n+1<9223372036854775808):pH .add .i64 (n:Int) 1=some ((n+1:Nat):Int):=eG (d:=1) h'
theorem Le.nil{m:Nat}:Le .nil (.jS 0 m [] rfl):=⟨fun _ _ _ _ h=>⟨none,0,h,Nat.le_refl _,by simp,.inl rfl⟩,fun _ h=>h⟩
theorem bm:Le .nil (ao 0):=by
 have:ao 0=.jS 0 1 [] rfl:=dg_eq' (by rw[dC]);rw[this];exact .nil
where dg_eq' {xs:List Nat} (h:xs=[]):d_ xs=.jS 0 1 [] rfl:=by subst h;rfl
end Go.Am
namespace Go.Am
open Go.RowKit
theorem th{n k:Nat}(hk:k<=32):ym .shr .u32 (n:Int) (k:Int)=some ((n/2^k:Nat):Int):=by
 unfold ym;rw[if_neg (by omega)];have:min (k:Int).toNat IntKind.u32.bits=k:=by rw[Int.toNat_natCast,show IntKind.u32.bits=32 by decide];omega
 simp only[this];rw[Int.fdiv_eq_ediv_of_nonneg _ (by exact_mod_cast Nat.zero_le _)]
 congr 1
theorem eO{x n:Nat}(h:x<2^n):bO x<=n:=by
 by_cases h0:x=0
 ·subst h0;exact Nat.zero_le _
 ·have h1:=w_ h0;have:=(Nat.pow_lt_pow_iff_right (a:=2) (by omega)).1 (Nat.lt_of_le_of_lt h1 h);rw[oy h0]at this|-;omega
theorem A5(x:Nat)(hx:x<4294967296):ml PP 231 [.int .u32 x] (.int .i64 (bO x:Nat)):=by
 refine .of Go.Proofs.Tryz.func231 rfl (by kernel_rfl) rfl rfl rfl (fun A w0=>?_);refine .al (.aq rfl<|.nil) rfl ?_;refine .tw (ι:={p:Nat×Nat//p.1<65536/\p.2<=16/\bO p.1+p.2=bO x}) (fun p=>[(0,.int .u32 (p.1.1:Nat)),(2,.int .i64 (p.1.2:Nat))]) (fun _=>[]) ?_ ?_
 ·by_cases h:65536<=x
  ·refine .al (.mv rfl<|.cm rfl rfl (b:=true) (by simp[dY];try omega)<|.nil) rfl ?_;refine .cT rfl (.al (.mv rfl<|.sh rfl rfl (th (k:=16) (by omega))<|.aq rfl<|.nil) rfl ?_);refine .region (.aq rfl<|.nil) rfl fun _ _ hs=>?_;exact hs.to ⟨(x/65536,16),by omega,Nat.le_refl _,qP 16 h⟩ (dO rfl) trivial rfl rfl
  ·refine .al (.mv rfl<|.cm rfl rfl (b:=false) (by simp[dY];try omega)<|.nil) rfl ?_;exact .cF rfl (.skip fun _ _ hs=>hs.to ⟨(x,0),Nat.lt_of_not_le h,by omega,rfl⟩ (dO rfl) trivial rfl rfl)
 rintro⟨⟨y,n⟩,hy,hn,he⟩;simp only at hy hn he;show Ok PP _ [(0,.int .u32 (y:Nat)),(2,.int .i64 (n:Nat))] [] _ _;rw[←he];clear he hx x;refine .tw (ι:={p:Nat×Nat//p.1<256/\p.2<=24/\bO p.1+p.2=bO y+n}) (fun p=>[(0,.int .u32 (p.1.1:Nat)),(2,.int .i64 (p.1.2:Nat))]) (fun _=>[]) ?_ ?_
 ·by_cases h:256<=y
  ·refine .al (.mv rfl<|.cm rfl rfl (b:=true) (by simp[dY];try omega)<|.nil) rfl ?_;refine .cT rfl (.al (.mv rfl<|.sh rfl rfl (th (k:=8) (by omega))<|.aq rfl<|.nil) rfl ?_);refine .region (.mv rfl<|.ar rfl rfl (eG (n:=n) (d:=8) (by omega))<|.aq rfl<|.nil) rfl fun _ _ hs=>?_;refine hs.to ⟨(y/256,n+8),by simp only;omega,by simp only;omega,?_⟩ (dO rfl) trivial rfl rfl;have:bO (y/256)+8=bO y:=qP (x:=y) 8 h;simp only at this|-;omega
  ·refine .al (.mv rfl<|.cm rfl rfl (b:=false) (by simp[dY];try omega)<|.nil) rfl ?_;exact .cF rfl (.skip fun _ _ hs=>hs.to ⟨(y,n),Nat.lt_of_not_le h,by simp only;omega,rfl⟩ (dO rfl) trivial rfl rfl)
 rintro⟨⟨z,k⟩,hz,hk,he⟩;simp only at hz hk he;show Ok PP _ [(0,.int .u32 (z:Nat)),(2,.int .i64 (k:Nat))] [] _ _;rw[←he];have hb:bO z<=8:=eO (by omega);have hw:IntKind.i64.wrap ((UInt8.ofNat (bO z)).toNat:Int)=((bO z:Nat):Int):=by
  rw[show(UInt8.ofNat (bO z)).toNat=bO z by rw[UInt8.toNat_ofNat'];omega];exact iI rfl (by omega)
 refine .al (.mv rfl<|.mv rfl<|.cv rfl sB (r:=(z:Int)) (by rw[IntKind.wrap_u8];omega)<|.JY (s:=q8) (by kernel_rfl) rfl dg (by omega) (zP (by omega))<|.cv rfl w9 hw<|
  .ar rfl rfl (eG (by omega))<|.aq rfl<|.nil) rfl ?_
 refine .ri rfl (.tmp rfl) (int_eq ?_) rfl;omega
theorem rG(x:Nat)(hx:x<4294967296):ml PP 226 [.int .u32 x] (.int .i64 ((32-bO x:Nat):Int)):=by
 refine .of Go.Proofs.Tryz.func226 rfl (by kernel_rfl) rfl rfl rfl (fun A w0=>?_);refine .al (.aq rfl<|.nil) rfl ?_;refine .al (.mv rfl<|.call (A5 x hx) ⟨rfl,trivial⟩<|.ar rfl rfl (qv (n:=32) (eO (n:=32) (by omega)) (by omega))<|.aq rfl<|.nil) rfl ?_;exact .ri rfl (.tmp rfl) (.refl _) rfl
theorem w6{x y:Nat}(h:x<y):fK x y=-1:=by simp[fK,h]
theorem Bk{x y:Nat}(h:y<x):fK x y=1:=by simp[fK,h];omega
theorem GK(x:Nat):fK x x=0:=by simp[fK]
theorem Ef(x y:Nat)(hx:(aL x).length<=1099511627776)(hy:(aL y).length<=1099511627776):ml PP 224 [ao x,ao y] (.int .i64 (fK x y)):=by
 show ml PP _ [d_ (aL x),d_ (aL y)] _;refine .of Go.Proofs.Tryz.func224 rfl (by kernel_rfl) rfl rfl rfl (fun A w0=>?_);refine .al (.aq rfl<|.nil) rfl ?_;refine .sq ?_;by_cases hl:(aL x).length=(aL y).length
 ·refine .al (.mv rfl<|.ln rfl aw<|.mv rfl<|.ln rfl aw<|.cm rfl rfl (b:=false) (by simp[dY,hl])<|.nil) rfl ?_;refine .cF rfl (.skip (Ok.on (.sq ?_)));refine .al (.mv rfl<|.ln rfl aw<|.ar rfl rfl (kW (by omega))<|.aq rfl<|.nil) rfl ?_;refine .block (.loop (ι:={j:Nat//j<=(aL x).length/\val ((aL x).drop j)=val ((aL y).drop j)}) (fun j=>[(0,d_ (aL x)),(1,d_ (aL y)),(5,.int .i64 ((j.1:Nat)-1))]) (fun _=>[]) (fun j=>j.1)
   ⟨(aL x).length,Nat.le_refl _,by rw[List.drop_length,hl,List.drop_length]⟩ (dO rfl) trivial rfl rfl ?_)
  rintro⟨j,hj,hv⟩;show Ok PP _ [(0,d_ (aL x)),(1,d_ (aL y)),(5,.int .i64 ((j:Nat)-1))] [] _ _;refine .sq ?_
  cases j with
  |zero=>
   refine .al (.mv rfl<|.cm rfl rfl (b:=false) (by simp[dY])<|.nil) rfl ?_;refine .cF rfl (.exit (Ok.on ?_));refine .al (.aq rfl<|.nil) rfl ?_;simp only[List.drop_zero,eJ]at hv;subst hv;exact .ri rfl (.tmp rfl) (int_eq (GK x).symm) rfl
  |succ i=>
   have hxi:(aL x)[i]?=some ((aL x).getD i 0):=by simp[show i<(aL x).length by omega]
   have hyi:(aL y)[i]?=some ((aL y).getD i 0):=by simp[show i<(aL y).length by omega]
   have hdx:=gh (aL x) i;have hdy:=gh (aL y) i;generalize (aL x).getD i 0=d at hxi hdx;generalize (aL y).getD i 0=e at hyi hdy;refine .al (.mv rfl<|.cm rfl rfl (b:=true) (by simp[dY];try omega)<|.nil) rfl ?_;refine .cT rfl (.skip (Ok.on (.sq (.block ?_))));have hi:((i+1:Nat):Int)-1=i:=by omega
   rw[hi];by_cases hde:d=e
   ·refine .c_ cj (.mv rfl<|.mv rfl<|.qp rfl rfl aB (by omega) (by omega) (bH hxi)<|.i4 rfl bf<|.mv rfl<|.mv rfl<|.qp rfl rfl aB (by omega) (by omega) (bH hyi)<|.i4 rfl bf<|
     .cm rfl rfl (b:=false) (by simp[dY,hde])<|.nil) rfl (by kernel_rfl) ?_
    refine .cF rfl (.skip (Ok.on ?_));refine .region (.mv rfl<|.ar rfl rfl (kW (by omega))<|.aq rfl<|.nil) rfl fun _ _ hs=>?_;exact hs.round (m:=i+1) ⟨i,by omega,by rw[hdx,hdy,hv,hde]⟩ (by simp) (dO rfl) trivial rfl rfl
   ·refine .c_ cj (.mv rfl<|.mv rfl<|.qp rfl rfl aB (by omega) (by omega) (bH hxi)<|.i4 rfl bf<|.mv rfl<|.mv rfl<|.qp rfl rfl aB (by omega) (by omega) (bH hyi)<|.i4 rfl bf<|
     .cm rfl rfl (b:=true) (by simp[dY];try omega)<|.nil) rfl (by kernel_rfl) ?_
    refine .cT rfl (.sq ?_);by_cases hlt:d<e
    ·refine .c_ cj (.mv rfl<|.mv rfl<|.qp rfl rfl aB (by omega) (by omega) (bH hxi)<|.i4 rfl bf<|.mv rfl<|.mv rfl<|.qp rfl rfl aB (by omega) (by omega) (bH hyi)<|.i4 rfl bf<|
      .cm rfl rfl (b:=true) (by simp[dY];try omega)<|.nil) rfl (by kernel_rfl) ?_
     refine .cT rfl (.al (.aq rfl<|.nil) rfl ?_);have:x<y:=by
      have:=uL (a:=aL x) (b:=aL y) (i:=i) (dq x) (by omega) (by omega) (by omega);simpa [eJ]using this
     exact .rA (fun _ _ h=>h) rfl (.tmp rfl) (int_eq (w6 this).symm) rfl
    ·refine .c_ cj (.mv rfl<|.mv rfl<|.qp rfl rfl aB (by omega) (by omega) (bH hxi)<|.i4 rfl bf<|.mv rfl<|.mv rfl<|.qp rfl rfl aB (by omega) (by omega) (bH hyi)<|.i4 rfl bf<|
      .cm rfl rfl (b:=false) (by simp[dY];try omega)<|.nil) rfl (by kernel_rfl) ?_
     refine .cF rfl (.skip (Ok.on ?_));refine .al (.aq rfl<|.nil) rfl ?_;have:y<x:=by
      have:=uL (a:=aL y) (b:=aL x) (i:=i) (dq y) (by omega) (by omega) (by omega);simpa [eJ]using this
     exact .rA (fun _ _ h=>h) rfl (.tmp rfl) (int_eq (Bk this).symm) rfl
 ·refine .al (.mv rfl<|.ln rfl aw<|.mv rfl<|.ln rfl aw<|.cm rfl rfl (b:=true) (by simp[dY];try omega)<|.nil) rfl ?_;refine .cT rfl (.sq ?_);by_cases hlt:(aL x).length<(aL y).length
  ·refine .al (.mv rfl<|.ln rfl aw<|.mv rfl<|.ln rfl aw<|.cm rfl rfl (b:=true) (by simp[dY];try omega)<|.nil) rfl ?_;refine .cT rfl (.al (.aq rfl<|.nil) rfl ?_);have hxy:x<y:=vX hlt;exact .rA (fun _ _ h=>h) rfl (.tmp rfl) (int_eq (w6 hxy).symm) rfl
  ·refine .al (.mv rfl<|.ln rfl aw<|.mv rfl<|.ln rfl aw<|.cm rfl rfl (b:=false) (by simp[dY];try omega)<|.nil) rfl ?_;refine .cF rfl (.skip (Ok.on ?_));refine .al (.aq rfl<|.nil) rfl ?_;have hxy:y<x:=vX (by omega);exact .rA (fun _ _ h=>h) rfl (.tmp rfl) (int_eq (Bk hxy).symm) rfl
end Go.Am
namespace Go.Am
open Go.RowKit
theorem El{p d e o w w' v va vb:Nat}(h:v+vb=va+p*w)(ho:o+e+w=d+4294967296*w'):v+p*o+(vb+p*e)=va+p*d+p*4294967296*w':=by
 have:p*(o+e+w)=p*(d+4294967296*w'):=by rw[ho]
 rw[Nat.mul_add,Nat.mul_add,Nat.mul_add,←Nat.mul_assoc]at this;omega
theorem Jb(x y:Nat)(hyx:y<=x)(hx:(aL x).length<=1099511627776):ml PP 215 [ao x,ao y] (ao (x-y)):=by
 show ml PP _ [d_ (aL x),d_ (aL y)] _;have hly:=kb hyx;have hvx:=eJ x;have hvy:=eJ y;have hlx:=dq x;have hlwy:=dq y;generalize aL x=a at*;generalize aL y=b at*;refine .of Go.Proofs.Tryz.func215 rfl (by kernel_rfl) rfl rfl rfl (fun A w0=>?_);refine .al (.aq rfl<|.nil) rfl ?_;refine .al (.mv rfl<|.ln rfl aw<|.Is rfl rfl eC rfl (by omega) (by omega) rfl<|.aq rfl<|.nil) rfl ?_;refine .al (.aq rfl<|.nil) rfl (.sq ?_);refine .al (.mv rfl<|.ln rfl aw<|.mv rfl<|.nil) rfl ?_;refine .block (.loop (ι:={p:List Nat×Nat×Nat//p.1.length=a.length/\dF p.1/\p.2.1<=1/\p.2.2<=a.length/\val (p.1.take p.2.2)+val (b.take p.2.2)=val (a.take p.2.2)+4294967296^p.2.2*p.2.1})
  (fun p=>[(0,d_ a),(1,d_ b),(11,.own 11),(5,.own 11),(6,.int .u32 p.1.2.1),(13,.int .i64 a.length),(14,.int .i64 p.1.2.2)]) (fun p=>[(11,.row 1 230 (bZ p.1.1) (a_ _))])
  (fun p=>a.length-p.1.2.2) ⟨(List.replicate a.length 0,0,0),by simp,jb _,by simp,Nat.zero_le _,by simp[val]⟩
  (dO rfl) ⟨⟨_,rfl,.of_eq (eP (nr _))⟩,trivial⟩ rfl rfl ?_)
 rintro⟨⟨zs,c,i⟩,hzl,hzs,hc,hi,hv⟩;simp only at hzl hzs hc hi hv;show Ok PP _ [(0,d_ a),(1,d_ b),(11,.own 11),(5,.own 11),(6,.int .u32 c),(13,.int .i64 a.length),(14,.int .i64 i)] [(11,.row 1 230 (bZ zs) (a_ _))] _ _;by_cases hlt:i<a.length
 ·refine .al (.cm rfl rfl (b:=true) (by simp[dY,hlt])<|.nil) rfl (.sq ?_);refine .cT rfl (.skip (Ok.on (.sq (.block ?_))));have hxi:a[i]?=some (a.getD i 0):=by simp[hlt]
  have hdl:=cz hlx i;have hel:=cz hlwy i;have hst:=eE a i;have hst':=eE b i;generalize a.getD i 0=d at hxi hdl hst;refine .al (.mv rfl<|.aq rfl<|.nil) rfl ?_;refine .al (.aq rfl<|.nil) rfl ?_;refine .cut [(0,d_ a),(1,d_ b),(11,.own 11),(5,.own 11),(6,.int .u32 c),(7,.int .i64 i),(8,.int .u32 (b.getD i 0:Nat)),(13,.int .i64 a.length),(14,.int .i64 i)] [(11,.row 1 230 (bZ zs) (a_ _))] ?_ ?_
  ·by_cases hb:i<b.length
   ·have hy:b[i]?=some (b.getD i 0):=by simp[hb]
    generalize b.getD i 0=e at hy;refine .al (.mv rfl<|.mv rfl<|.ln rfl aw<|.cm rfl rfl (b:=true) (by simp[dY,hb])<|.nil) rfl ?_;refine .cT rfl (.region (.mv rfl<|.mv rfl<|.qp rfl rfl aB (by omega) (by omega) (bH hy)<|.i4 rfl bf<|.aq rfl<|.nil) rfl fun _ _ hs=>?_);exact hs.sub (dO rfl) (jU rfl) rfl rfl
   ·have he:b.getD i 0=0:=by simp[List.getElem?_eq_none (show b.length<=i by omega)]
    rw[he];refine .al (.mv rfl<|.mv rfl<|.ln rfl aw<|.cm rfl rfl (b:=false) (by simp[dY];omega)<|.nil) rfl ?_;exact .cF rfl (.skip fun _ _ hs=>hs.sub (dO rfl) (jU rfl) rfl rfl)
  generalize b.getD i 0=e at hel hst';refine .region (.mv rfl<|.mv rfl<|.mv rfl<|.mv rfl<|.qp rfl rfl aB (by omega) (by omega) (bH hxi)<|.i4 rfl bf<|.mv rfl<|.mv rfl<|.call (wV d e c hdl hel hc) ⟨rfl,rfl,rfl,trivial⟩<|.mv rfl<|.ext rfl rfl<|.ext rfl rfl<|
   .q6 (n:=a.length) (m':=1) rfl rfl rfl aB (by rw[bT,hzl];omega) rfl rfl (by omega) (by omega)<|.A2 rfl rfl rfl bf rfl rfl (by simp[bT,hzl];try omega)<|.aq rfl<|.nil) rfl fun _ _ hs=>?_
  refine Ok.on ?_ _ _ hs;refine .region (.ar rfl rfl (gI (by omega))<|.mv rfl<|.nil) rfl fun _ _ hs=>?_;refine hs.round (m:=a.length-i) ⟨(zs.set i ((d+(8589934592-e-c))%4294967296),if d<e+c then 1 else 0,i+1),by simpa using hzl,jn hzs (Nat.mod_lt _ (by omega)) i,?_,hlt,?_⟩ (by simp only;omega)
   (dO rfl) ⟨⟨_,rfl,.of_eq (eP (fA ..))⟩,trivial⟩ rfl rfl
  ·simp only;split<;>omega
  ·simp only;rw[gB (by omega),hst,hst',Nat.pow_succ];refine El hv ?_
   split<;>omega
 ·have:i=a.length:=by omega
  subst this;refine .al (.cm rfl rfl (b:=false) (by simp[dY])<|.nil) rfl (.sq ?_);refine .cF rfl (.exit (Ok.on ?_));rw[List.take_length,List.take_of_length_le (by omega),List.take_of_length_le hly]at hv;have hz:=pA hzs;have hc0:c=0:=by
   rcases(show c=0\/c=1 by omega)with h|h
   ·exact h
   ·subst h;rw[hzl]at hz;omega
  subst hc0;have hlv:val zs=x-y:=by omega
  refine .uw (n:=a.length) (m':=1) 5 rfl rfl (by simp[bT,hzl]) rfl rfl ?_;refine .sub [(5,d_ zs)] [] ⟨⟨_,rfl,.of_eq (nS hzl.symm rfl)⟩,trivial⟩ trivial rfl rfl ?_;refine .al (.mv rfl<|.call (nf _ hzs (by omega)) ⟨rfl,trivial⟩<|.aq rfl<|.nil) rfl ?_;exact .ri rfl (.tmp rfl) (.of_eq (by rw[hlv])) rfl
theorem AM(x d:Nat)(hd0:d≠0)(hd:d<4294967296)(hx:(aL x).length<=1099511627776):ml PP 225 [ao x,.int .u32 d] (.ig [ao (x/d),ao (x%d)]):=by
 show ml PP _ [d_ (aL x),.int .u32 d] _;have hvx:=eJ x;have hlx:=dq x;generalize aL x=a at*;refine .of Go.Proofs.Tryz.func225 rfl (by kernel_rfl) rfl rfl rfl (fun A w0=>?_);refine .al (.aq rfl<|.aq rfl<|.nil) rfl ?_;refine .al (.mv rfl<|.ln rfl aw<|.Is rfl rfl eC rfl (by omega) (by omega) rfl<|.aq rfl<|.nil) rfl ?_;refine .al (.aq rfl<|.nil) rfl (.sq ?_);refine .al (.mv rfl<|.ln rfl aw<|.ar rfl rfl (kW (by omega))<|.aq rfl<|.nil) rfl ?_;refine .block (.loop (ι:={p:List Nat×Nat×Nat//p.1.length=a.length/\dF p.1/\p.2.1<d/\p.2.2<=a.length/\val (a.drop p.2.2)=val (p.1.drop p.2.2)*d+p.2.1})
  (fun p=>[(0,d_ a),(1,.int .u32 d),(11,.own 11),(6,.own 11),(7,.int .u64 p.1.2.1),(8,.int .i64 ((p.1.2.2:Nat)-1))]) (fun p=>[(11,.row 1 230 (bZ p.1.1) (a_ _))])
  (fun p=>p.1.2.2) ⟨(List.replicate a.length 0,0,a.length),by simp,jb _,by simp only;omega,Nat.le_refl _,by simp[val]⟩
  (dO rfl) ⟨⟨_,rfl,.of_eq (eP (nr _))⟩,trivial⟩ rfl rfl ?_)
 rintro⟨⟨zs,c,j⟩,hzl,hzs,hc,hj,hv⟩;simp only at hzl hzs hc hj hv;show Ok PP _ [(0,d_ a),(1,.int .u32 d),(11,.own 11),(6,.own 11),(7,.int .u64 c),(8,.int .i64 ((j:Nat)-1))] [(11,.row 1 230 (bZ zs) (a_ _))] _ _;refine .sq ?_
 cases j with
 |zero=>
  refine .al (.mv rfl<|.cm rfl rfl (b:=false) (by simp[dY])<|.nil) rfl ?_;refine .cF rfl (.exit (Ok.on ?_));simp only[List.drop_zero]at hv;have hq:val zs=x/d:=by
   rw[←hvx,hv,Nat.mul_comm,Nat.mul_add_div (by omega),Nat.div_eq_of_lt hc];omega
  have hr:c=x%d:=by
   rw[←hvx,hv,Nat.mul_comm,Nat.mul_add_mod,Nat.mod_eq_of_lt hc]
  refine .uw (n:=a.length) (m':=1) 6 rfl rfl (by simp[bT,hzl]) rfl rfl ?_;refine .sub [(6,d_ zs),(7,.int .u64 c)] [] ⟨⟨_,rfl,.of_eq (nS hzl.symm rfl)⟩,⟨_,rfl,.refl _⟩,trivial⟩ trivial rfl rfl ?_;refine .al (.mv rfl<|.call (nf _ hzs (by omega)) ⟨rfl,trivial⟩<|.mv rfl<|.call (ta c (by omega)) ⟨rfl,trivial⟩<|.aq rfl<|.aq rfl<|.nil) rfl ?_;exact .F7 rfl (.tmp rfl) (.tmp rfl) (.of_eq (by rw[hq,hr])) rfl
 |succ i=>
  have hxi:a[i]?=some (a.getD i 0):=by simp[show i<a.length by omega]
  have hel:=cz hlx i;have hdr:=gh a i;have hdz:=gh (zs.set i ((c*4294967296+a.getD i 0)/d)) i;generalize a.getD i 0=e at hxi hel hdr hdz;refine .al (.mv rfl<|.cm rfl rfl (b:=true) (by simp[dY];try omega)<|.nil) rfl ?_;refine .cT rfl (.skip (Ok.on (.sq (.block ?_))));rw[show((i+1:Nat):Int)-1=i by omega];have hs0:c*4294967296+e<d*4294967296:=by omega
  have hq1:(c*4294967296+e)/d<4294967296:=by rw[Nat.div_lt_iff_lt_mul (by omega)];omega
  refine .al (.mv rfl<|.sh rfl rfl (AP (n:=c) (by omega))<|.mv rfl<|.mv rfl<|.qp rfl rfl aB (by omega) (by omega) (bH hxi)<|.i4 rfl bf<|.cv rfl bI (cg (by omega))<|.ar rfl rfl (xm (by omega) hel)<|.aq rfl<|.nil) rfl ?_;refine .al (.mv rfl<|.mv rfl<|.mv rfl<|.mv rfl<|.cv rfl bI (cg (by omega))<|.ar rfl rfl (DT hd0 (by omega))<|.cv rfl fe (gV hq1)<|
   .q6 (n:=a.length) (m':=1) rfl rfl rfl aB (by rw[bT,hzl];omega) rfl rfl (by omega) (by omega)<|.A2 rfl rfl rfl bf rfl rfl (by simp[bT,hzl];try omega)<|.nil) rfl ?_
  refine .region (.mv rfl<|.mv rfl<|.cv rfl bI (cg (by omega))<|.ar rfl rfl (wU hd0)<|.aq rfl<|.nil) rfl fun _ _ hs=>?_;refine Ok.on ?_ _ _ hs;refine .region (.mv rfl<|.ar rfl rfl (kW (by omega))<|.aq rfl<|.nil) rfl fun _ _ hs=>?_;refine hs.round (m:=i+1) ⟨(zs.set i ((c*4294967296+e)/d),(c*4294967296+e)%d,i),by simpa using hzl,jn hzs hq1 i,Nat.mod_lt _ (by omega),by simp only;omega,?_⟩ (by simp)
   (dO rfl) ⟨⟨_,rfl,.of_eq (eP (fA ..))⟩,trivial⟩ rfl rfl
  simp only;have hg:(zs.set i ((c*4294967296+e)/d)).getD i 0=(c*4294967296+e)/d:=by simp[show i<zs.length by omega]
  have hds:(zs.set i ((c*4294967296+e)/d)).drop (i+1)=zs.drop (i+1):=List.drop_set_of_lt (Nat.lt_succ_self i);rw[hg,hds]at hdz;rw[hdr,hdz,hv];have hdm:=Nat.div_add_mod (c*4294967296+e) d;generalize (c*4294967296+e)/d=q at*;generalize (c*4294967296+e)%d=r at*;generalize val (zs.drop (i+1))=Z at*;rw[Nat.add_mul,Nat.mul_assoc,Nat.mul_add,Nat.mul_comm q d];omega
end Go.Am
namespace Go.Am
open Go.RowKit
theorem CT{p q c x y o vz vb:Nat}{v:Nat}(h:v+p*q*c=vz+p*x*vb):
  v+p*q*((c+(x*y+o))%4294967296)+p*q*4294967296*((c+(x*y+o))/4294967296)=vz+p*q*o+p*x*(vb+q*y):=by
 have:p*q*((c+(x*y+o))%4294967296)+p*q*4294967296*((c+(x*y+o))/4294967296)=p*q*c+(p*q*(x*y)+p*q*o):=by
  rw[Nat.mul_assoc (p*q),←Nat.mul_add,Nat.mod_add_div,Nat.mul_add,Nat.mul_add]
 have e:p*q*(x*y)=p*x*(q*y):=by
  rw[Nat.mul_assoc,Nat.mul_assoc,Nat.mul_left_comm q x y]
 rw[Nat.mul_add];omega
theorem BD{x y c o:Nat}(hx:x<4294967296)(hy:y<4294967296)(hc:c<4294967296)(ho:o<4294967296):x*y+o<18446744073709551616/\c+(x*y+o)<18446744073709551616:=by
 have:x*y<=4294967295*4294967295:=Nat.mul_le_mul (by omega) (by omega);omega
theorem G9(x y:Nat)(hx:(aL x).length<=1099511627776)(hy:(aL y).length<=1099511627776):ml PP 150 [ao x,ao y] (ao (x*y)):=by
 show ml PP _ [d_ (aL x),d_ (aL y)] _;have hvx:=eJ x;have hvy:=eJ y;have hlx:=dq x;have hly:=dq y;generalize aL x=a at*;generalize aL y=b at*;refine .of Go.Proofs.Tryz.func150 rfl (by kernel_rfl) rfl rfl rfl (fun A w0=>?_);refine .al (.aq rfl<|.nil) rfl ?_;refine .al (.mv rfl<|.ln rfl aw<|.mv rfl<|.ln rfl aw<|.ar rfl rfl (eG (by omega))<|.Is rfl rfl eC rfl (by omega) (by omega) rfl<|.aq rfl<|.nil) rfl (.sq ?_);refine .al (.mv rfl<|.ln rfl aw<|.mv rfl<|.nil) rfl ?_;refine .block (.loop (ι:={p:List Nat×Nat//p.1.length=a.length+b.length/\dF p.1/\p.2<=a.length/\val (p.1.take (p.2+b.length))=val (a.take p.2)*val b})
  (fun p=>[(0,d_ a),(1,d_ b),(16,.own 16),(5,.own 16),(17,d_ a),(18,.int .i64 a.length),(19,.int .i64 p.1.2)]) (fun p=>[(16,.row 1 230 (bZ p.1.1) (a_ _))])
  (fun p=>a.length-p.1.2) ⟨(List.replicate (a.length+b.length) 0,0),by simp,jb _,Nat.zero_le _,by
   simp only[Nat.zero_add,List.take_zero,val,Nat.zero_mul,List.take_replicate];exact oH _⟩
  (dO rfl) ⟨⟨_,rfl,.of_eq (eP (nr _))⟩,trivial⟩ rfl rfl ?_)
 rintro⟨⟨zs,i⟩,hzl,hzs,hi,hv⟩;simp only at hzl hzs hi hv;show Ok PP _ [(0,d_ a),(1,d_ b),(16,.own 16),(5,.own 16),(17,d_ a),(18,.int .i64 a.length),(19,.int .i64 i)] [(16,.row 1 230 (bZ zs) (a_ _))] _ _;by_cases hlt:i<a.length
 ·refine .al (.cm rfl rfl (b:=true) (by simp[dY,hlt])<|.nil) rfl (.sq ?_);refine .cT rfl (.skip (Ok.on (.sq (.block ?_))));have hxi:a[i]?=some (a.getD i 0):=by simp[hlt]
  have hdl:=cz hlx i;have hst:=eE a i;generalize a.getD i 0=d at hxi hdl hst;refine .al (.mv rfl<|.qp rfl rfl aB (by omega) (by omega) (bH hxi)<|.i4 rfl bf<|.aq rfl<|.aq rfl<|.nil) rfl ?_;refine .al (.aq rfl<|.nil) rfl (.sq ?_);refine .al (.mv rfl<|.ln rfl aw<|.mv rfl<|.nil) rfl ?_;refine .block (.loop (ι:={p:List Nat×Nat×Nat//p.1.length=a.length+b.length/\dF p.1/\p.2.1<4294967296/\p.2.2<=b.length/\(∀j,i+p.2.2<=j->p.1.getD j 0=zs.getD j 0)/\
    val (p.1.take (i+p.2.2))+4294967296^i*4294967296^p.2.2*p.2.1=val (zs.take (i+p.2.2))+4294967296^i*d*val (b.take p.2.2)})
   (fun p=>[(0,d_ a),(1,d_ b),(16,.own 16),(5,.own 16),(17,d_ a),(18,.int .i64 a.length),(19,.int .i64 i),(6,.int .i64 i),(7,.int .u32 d),(8,.int .u64 p.1.2.1),(24,d_ b),(25,.int .i64 b.length),(26,.int .i64 p.1.2.2)]) (fun p=>[(16,.row 1 230 (bZ p.1.1) (a_ _))])
   (fun p=>b.length-p.1.2.2) ⟨(zs,0,0),hzl,hzs,by simp,Nat.zero_le _,fun _ _=>rfl,by simp[val]⟩
   (dO rfl) (jU rfl) rfl rfl ?_)
  rintro⟨⟨us,c,k⟩,hul,hus,hc,hk,hsame,hu⟩;simp only at hul hus hc hk hsame hu;show Ok PP _ [(0,d_ a),(1,d_ b),(16,.own 16),(5,.own 16),(17,d_ a),(18,.int .i64 a.length),(19,.int .i64 i),(6,.int .i64 i),(7,.int .u32 d),(8,.int .u64 c),(24,d_ b),(25,.int .i64 b.length),(26,.int .i64 k)] [(16,.row 1 230 (bZ us) (a_ _))] _ _;by_cases hkl:k<b.length
  ·refine .al (.cm rfl rfl (b:=true) (by simp[dY,hkl])<|.nil) rfl (.sq ?_);refine .cT rfl (.skip (Ok.on (.sq (.block ?_))));have hyk:b[k]?=some (b.getD k 0):=by simp[hkl]
   have hel:=cz hly k;have hst':=eE b k;have hst2:=eE zs (i+k);have hok:us[i+k]?=some (zs.getD (i+k) 0):=by
    rw[←hsame (i+k) (Nat.le_refl _)];simp[show i+k<us.length by omega]
   have hol:=cz hzs (i+k);generalize b.getD k 0=e at hyk hel hst';generalize zs.getD (i+k) 0=o at hok hol hst2;obtain⟨hm1,hm2⟩:=BD hdl hel hc hol;refine .al (.mv rfl<|.qp rfl rfl aB (by omega) (by omega) (bH hyk)<|.i4 rfl bf<|.aq rfl<|.aq rfl<|.nil) rfl ?_;refine .al (.mv rfl<|.mv rfl<|.cv rfl bI (cg (by omega))<|.mv rfl<|.cv rfl bI (cg (by omega))<|.ar rfl rfl (sH (by omega))<|.mv rfl<|.mv rfl<|.mv rfl<|.ar rfl rfl (eG (by omega))<|
    .q6 (n:=a.length+b.length) (m':=1) rfl rfl rfl aB (by rw[bT,hul];omega) rfl rfl (by omega) (by omega)<|.Aa rfl rfl bf (d:=.int .u32 o) (by rw[Int.toNat_natCast,Nat.mul_one];exact bH hok)<|.cv rfl bI (cg (by omega))<|
    .ar rfl rfl (sL hm1)<|.ar rfl rfl (sL hm2)<|.aq rfl<|.nil) rfl ?_
   refine .al (.mv rfl<|.mv rfl<|.mv rfl<|.ar rfl rfl (eG (by omega))<|.mv rfl<|.cv rfl fe (jX _)<|.q6 (n:=a.length+b.length) (m':=1) rfl rfl rfl aB (by rw[bT,hul];omega) rfl rfl (by omega) (by omega)<|
    .A2 rfl rfl rfl bf rfl rfl (by simp[bT,hul];try omega)<|.nil) rfl ?_
   refine .region (.mv rfl<|.sh rfl rfl (yW (by decide))<|.aq rfl<|.nil) rfl fun _ _ hs=>?_;refine Ok.on ?_ _ _ hs;refine .region (.ar rfl rfl (gI (by omega))<|.mv rfl<|.nil) rfl fun _ _ hs=>?_;refine hs.round (m:=b.length-k) ⟨(us.set (i+k) ((c+(d*e+o))%4294967296),(c+(d*e+o))/4294967296,k+1),by simpa using hul,jn hus (Nat.mod_lt _ (by omega)) _,by simp only;omega,hkl,?_,?_⟩ (by simp only;omega)
    (dO rfl) ⟨⟨_,rfl,.of_eq (eP (fA ..))⟩,trivial⟩ rfl rfl
   ·intro j hj;simp only at hj|-;rw[←hsame j (by omega),List.getD_eq_getElem?_getD,List.getD_eq_getElem?_getD,List.getElem?_set_ne (by omega)]
   ·simp only;rw[←Nat.add_assoc,gB (by omega),hst2,hst',Nat.pow_succ,Nat.pow_add,←Nat.mul_assoc (4294967296^i)];exact CT hu
  ·have hkb:k=b.length:=by omega
   subst hkb;refine .al (.cm rfl rfl (b:=false) (by simp[dY])<|.nil) rfl (.sq ?_);refine .cF rfl (.exit (Ok.on ?_));refine .region (.mv rfl<|.mv rfl<|.mv rfl<|.ln rfl aw<|.ar rfl rfl (eG (by omega))<|.mv rfl<|.cv rfl fe (gV hc)<|.q6 (n:=a.length+b.length) (m':=1) rfl rfl rfl aB (by rw[bT,hul];omega) rfl rfl (by omega) (by omega)<|
    .A2 rfl rfl rfl bf rfl rfl (by simp[bT,hul];try omega)<|.nil) rfl fun _ _ hs=>?_
   refine Ok.on ?_ _ _ hs;refine .region (.ar rfl rfl (gI (by omega))<|.mv rfl<|.nil) rfl fun _ _ hs=>?_;refine hs.round (m:=a.length-i) ⟨(us.set (i+b.length) c,i+1),by simpa using hul,jn hus hc _,hlt,?_⟩ (by simp only;omega)
    (dO rfl) ⟨⟨_,rfl,.of_eq (eP (fA ..))⟩,trivial⟩ rfl rfl
   simp only;rw[show i+1+b.length=i+b.length+1 by omega,gB (by omega),Nat.pow_add,hu,hv,hst,List.take_length,Nat.add_mul]
 ·have:i=a.length:=by omega
  subst this;refine .al (.cm rfl rfl (b:=false) (by simp[dY])<|.nil) rfl (.sq ?_);refine .cF rfl (.exit (Ok.on ?_));rw[List.take_length,List.take_of_length_le (by omega),hvx,hvy]at hv;refine .uw (n:=a.length+b.length) (m':=1) 5 rfl rfl (by simp[bT,hzl]) rfl rfl ?_;refine .sub [(5,d_ zs)] [] ⟨⟨_,rfl,.of_eq (nS hzl.symm rfl)⟩,trivial⟩ trivial rfl rfl ?_;refine .al (.mv rfl<|.call (nf _ hzs (by omega)) ⟨rfl,trivial⟩<|.aq rfl<|.nil) rfl ?_;exact .ri rfl (.tmp rfl) (.of_eq (by rw[hv])) rfl
end Go.Am
namespace Go.Am
open Go.RowKit
theorem Gd{n k:Nat}(hk:k<=64)(h:n*2^k<18446744073709551616):ym .shl .u64 (n:Int) (k:Int)=some ((n*2^k:Nat):Int):=by
 unfold ym;rw[if_neg (by omega)];have:min (k:Int).toNat IntKind.u64.bits=k:=by rw[Int.toNat_natCast,show IntKind.u64.bits=64 by decide];omega
 simp only[this];rw[show(n:Int)*2^k=((n*2^k:Nat):Int)by rw[Int.natCast_mul,Int.natCast_pow];rfl,cg h]
theorem D3{n d k:Nat}(hn:n<2^k)(h:n+d*2^k<18446744073709551616):pH .or .u64 (n:Int) ((d*2^k:Nat):Int)=some ((n+d*2^k:Nat):Int):=by
 show some (bits .or .u64 _ _)=_;rw[bits_or_u64_nat _ _ (by omega) (by omega)];have:=Nat.two_pow_add_eq_or_of_lt hn d;rw[Nat.or_comm,Nat.mul_comm d,←this,Nat.add_comm]
theorem Gv(x:Nat)(hx:(aL x).length<=2):ml PP 185 [ao x] (.int .u64 x):=by
 show ml PP _ [d_ (aL x)] _;have hvx:=eJ x;have hlx:=dq x;generalize aL x=a at*;refine .of Go.Proofs.Tryz.func185 rfl (by kernel_rfl) rfl rfl rfl (fun A w0=>?_);refine .al (.aq rfl<|.nil) rfl ?_;refine .al (.aq rfl<|.nil) rfl (.sq ?_);refine .al (.mv rfl<|.ln rfl aw<|.mv rfl<|.nil) rfl ?_;refine .block (.loop (ι:={i:Nat//i<=a.length}) (fun i=>[(3,.int .u64 (val (a.take i.1):Nat)),(6,d_ a),(7,.int .i64 a.length),(8,.int .i64 i.1)]) (fun _=>[]) (fun i=>a.length-i.1)
  ⟨0,Nat.zero_le _⟩ (dO rfl) trivial rfl rfl ?_)
 rintro⟨i,hi⟩;show Ok PP _ [(3,.int .u64 (val (a.take i):Nat)),(6,d_ a),(7,.int .i64 a.length),(8,.int .i64 i)] [] _ _;by_cases hlt:i<a.length
 ·refine .al (.cm rfl rfl (b:=true) (by simp[dY,hlt])<|.nil) rfl (.sq ?_);refine .cT rfl (.skip (Ok.on (.sq (.block ?_))));have hxi:a[i]?=some (a.getD i 0):=by simp[hlt]
  have hel:=cz hlx i;have hst:=eE a i;have htl:=fD hlx i;generalize a.getD i 0=e at hxi hel hst;have hi1:i=0\/i=1:=by omega
  have hp:(4294967296:Nat)^i=2^(32*i):=by rw[Nat.pow_mul]
  rw[hp]at htl hst;have hb2:val (a.take i)+e*2^(32*i)<18446744073709551616:=by
   rcases hi1 with h|h<;>subst h<;>simp at htl|-<;>omega
  refine .al (.mv rfl<|.qp rfl rfl aB (by omega) (by omega) (bH hxi)<|.i4 rfl bf<|.aq rfl<|.aq rfl<|.nil) rfl ?_;refine .region (.mv rfl<|.mv rfl<|.cv rfl bI (cg (by omega))<|.mv rfl<|.ar rfl rfl (r:=((32*i:Nat):Int)) (congrArg some (iI (by omega) (by omega)))<|.sh rfl rfl (Gd (n:=e) (k:=32*i) (by omega) (by omega))<|
   .ar rfl rfl (D3 htl hb2)<|.aq rfl<|.nil) rfl fun _ _ hs=>?_
  refine Ok.on ?_ _ _ hs;refine .region (.ar rfl rfl (gI (by omega))<|.mv rfl<|.nil) rfl fun _ _ hs=>?_;exact hs.round (m:=a.length-i) ⟨i+1,hlt⟩ (by simp only;omega) ⟨⟨_,rfl,int_eq (by rw[hst,Nat.mul_comm])⟩,⟨_,rfl,.refl _⟩,⟨_,rfl,.refl _⟩,⟨_,rfl,.refl _⟩,trivial⟩ trivial rfl rfl
 ·have:i=a.length:=by omega
  subst this;refine .al (.cm rfl rfl (b:=false) (by simp[dY])<|.nil) rfl (.sq ?_);refine .cF rfl (.exit (Ok.on ?_));refine .al (.mv rfl<|.aq rfl<|.nil) rfl ?_;exact .ri rfl (.tmp rfl) (int_eq (by rw[List.take_length,hvx])) rfl
theorem vu{x n d:Nat}(h:(aL x).length=n+1)(hd:(aL x)[n]?=some d):32*n+bO d=bO x:=by
 have hv:=eZ hd;rw[←h,List.take_length,eJ]at hv;have hx0:x≠0:=by intro e;subst e;rw[dC]at h;simp at h
 have hle:=sY hx0;rw[h,Nat.add_sub_cancel]at hle;have hp:(4294967296:Nat)^n=2^(32*n):=by rw[Nat.pow_mul]
 have hlt:=fD (dq x) n;have hq:x/4294967296^n=d:=by
  rw[hv,Nat.add_mul_div_left _ _ (Nat.pow_pos (by omega)),Nat.div_eq_of_lt hlt,Nat.zero_add]
 rw[hp]at hle hq;have:=qP _ hle;rw[hq]at this;omega
theorem HX(x:Nat)(hx:(aL x).length<=1099511627776):ml PP 186 [ao x] (.int .i64 (bO x:Nat)):=by
 show ml PP _ [d_ (aL x)] _;refine .of Go.Proofs.Tryz.func186 rfl (by kernel_rfl) rfl rfl rfl (fun A w0=>?_);refine .al (.aq rfl<|.nil) rfl (.sq ?_);by_cases h0:x=0
 ·subst h0;refine .al (.mv rfl<|.ln rfl aw<|.cm rfl rfl (b:=true) (by simp[dY,dC])<|.nil) rfl ?_;refine .cT rfl (.al (.aq rfl<|.nil) rfl ?_);exact .rA (fun _ _ h=>h) rfl (.tmp rfl) (int_eq (by rfl)) rfl
 ·have hl:=dv h0;obtain⟨n,hn⟩:∃n,(aL x).length=n+1:=⟨_,(Nat.succ_pred (by omega)).symm⟩;have hxi:(aL x)[n]?=some ((aL x).getD n 0):=by simp[hn]
  have hel:=cz (dq x) n;have hbl:∀d,(aL x)[n]?=some d->32*n+bO d=bO x:=fun d hd=>vu hn hd;generalize (aL x).getD n 0=e at hxi hel;have he:=hbl e hxi;refine .al (.mv rfl<|.ln rfl aw<|.cm rfl rfl (IK (by omega))<|.nil) rfl ?_;refine .cF rfl (.skip (Ok.on ?_));have hb:=eO (x:=e) (n:=32) (by omega);have hd1:IntKind.i64.wrap (((aL x).length:Int)-1)=(n:Int):=iI (by omega) (by omega);have hd2:IntKind.i64.wrap (32*(n:Int))=((32*n:Nat):Int):=iI (by omega) (by omega);refine .al (.mv rfl<|.ln rfl aw<|.ar rfl rfl (congrArg some hd1)<|.ar rfl rfl (congrArg some hd2)<|.mv rfl<|.mv rfl<|.ln rfl aw<|.ar rfl rfl (congrArg some hd1)<|
   .qp rfl rfl aB (by omega) (by omega) (bH hxi)<|.i4 rfl bf<|.call (A5 e hel) ⟨rfl,trivial⟩<|.ar rfl rfl (eG (by omega))<|.aq rfl<|.nil) rfl ?_
  exact .ri rfl (.tmp rfl) (int_eq (by rw[he])) rfl
theorem yS(a:List Nat)(ha:a.length<=1099511627776):BO PP 252 [d_ a] 1 230 (bZ a):=by
 refine .of (hl:=a_ a) Go.Proofs.Tryz.func252 rfl (by kernel_rfl) rfl rfl (fun A w0=>?_);refine .al (.aq rfl<|.nil) rfl (.sq ?_);refine .al (.mv rfl<|.Jy aw rfl rfl<|.nil) rfl ?_;refine .cQ rfl (fun h=>?_) (.skip (Ok.on ?_))
 ·have ha0:a=[]:=List.eq_nil_of_length_eq_zero h;subst ha0;refine .al (.aq rfl<|.nil) rfl ?_;refine .wQ 2 2 1 230 rfl rfl ?_;exact .BR (fun _ _ h=>h) rfl rfl rfl
 ·refine .al (.Jn eC rfl<|.mv rfl<|.JP (n1:=0) rfl rfl rfl eC rfl (by omega) (by omega) rfl<|.aq rfl<|.nil) rfl ?_;exact .BR (fun _ _ h=>h) rfl rfl rfl
end Go.Am
namespace Go.Am
open Go.RowKit
theorem k8{k:Nat}(hk:k<=32):4294967296=2^k*2^(32-k):=by rw[←Nat.pow_add,show k+(32-k)=32 by omega]
theorem Aw{n k:Nat}(hk:k<=32):ym .shl .u32 (n:Int) (k:Int)=some ((n*2^k%4294967296:Nat):Int):=by
 unfold ym;rw[if_neg (by omega)];have:min (k:Int).toNat IntKind.u32.bits=k:=by rw[Int.toNat_natCast,show IntKind.u32.bits=32 by decide];omega
 simp only[this];rw[show(n:Int)*2^k=((n*2^k:Nat):Int)by rw[Int.natCast_mul,Int.natCast_pow];rfl,jX]
theorem Bj{e k:Nat}(hk:k<=32):e*2^(32-k)%4294967296=(e%2^k)*2^(32-k):=by
 conv=>lhs;rhs;rw[k8 hk]
 rw[Nat.mul_mod_mul_right]
theorem HI{n d k:Nat}(hn:n<2^k)(h:n+d*2^k<4294967296):pH .or .u32 (n:Int) ((d*2^k:Nat):Int)=some ((n+d*2^k:Nat):Int):=by
 show some (bits .or .u32 _ _)=_;rw[(kh _ _ (by omega) (by omega)).2.1];have:=Nat.two_pow_add_eq_or_of_lt hn d;rw[Nat.or_comm,Nat.mul_comm d,←this,Nat.add_comm]
theorem FY{n d k:Nat}(hn:n<2^k)(h:n+d*2^k<4294967296):pH .or .u32 ((d*2^k:Nat):Int) (n:Int)=some ((n+d*2^k:Nat):Int):=by
 show some (bits .or .u32 _ _)=_;rw[(kh _ _ (by omega) (by omega)).2.1];have:=Nat.two_pow_add_eq_or_of_lt hn d;rw[Nat.mul_comm d,←this,Nat.add_comm]
theorem vL{d e k:Nat}(hk:k<=32)(hd:d<4294967296):d/2^k<2^(32-k)/\d/2^k+(e%2^k)*2^(32-k)<4294967296:=by
 have hp:=Nat.two_pow_pos k;have hs:=k8 hk;have h1:d/2^k<2^(32-k):=by
  rw[Nat.div_lt_iff_lt_mul hp,Nat.mul_comm,←hs];exact hd
 have h2:=Nat.mod_lt e hp;refine⟨h1,?_⟩;have:(e%2^k+1)*2^(32-k)<=2^k*2^(32-k):=Nat.mul_le_mul_right _ h2;rw[←hs,Nat.add_mul,Nat.one_mul]at this;omega
theorem EF{d R k:Nat}(hk:k<=32):(d+4294967296*R)/2^k=d/2^k+(R%2^k)*2^(32-k)+4294967296*(R/2^k):=by
 have hp:=Nat.two_pow_pos k;have hs:=k8 hk;have h1:(d+4294967296*R)/2^k=d/2^k+2^(32-k)*R:=by
  conv=>lhs;rw[hs]
  rw[Nat.mul_assoc,Nat.add_mul_div_left _ _ hp]
 have h2:=Nat.div_add_mod R (2^k);rw[h1]
 conv=>lhs;rw[←h2]
 rw[Nat.mul_add,←Nat.mul_assoc,Nat.mul_comm (2^(32-k)) (2^k),←hs,Nat.mul_comm (2^(32-k))];omega
theorem E6{e R k:Nat}(hk:k<=32):(e+4294967296*R)%2^k=e%2^k:=by
 rw[k8 hk,Nat.mul_assoc,Nat.add_mul_mod_self_left]
theorem DK{x i:Nat}(h:i<=(aL x).length):val ((aL x).drop i)=x/4294967296^i:=by
 have hs:=fx (aL x) i h;rw[eJ]at hs;have hlt:=fD (dq x) i
 conv=>rhs;rw[hs]
 rw[Nat.add_mul_div_left _ _ (Nat.pow_pos (by omega)),Nat.div_eq_of_lt hlt,Nat.zero_add]
theorem Fz(l:List Nat)(i:Nat)(h:bW (((bZ l).drop ((i:Int).toNat*1)).take ((l.length-(i:Int).toNat)*1))=[]):D.jS (l.length-(i:Int).toNat) 1 (((bZ l).drop ((i:Int).toNat*1)).take ((l.length-(i:Int).toNat)*1)) h=d_ (l.drop i):=by
 refine nS ?_ ?_
 ·rw[Int.toNat_natCast,List.length_drop]
 ·rw[Int.toNat_natCast,Nat.mul_one,Nat.mul_one,Bp];exact List.take_of_length_le (by rw[bT,List.length_drop];exact Nat.le_refl _)
theorem G0(x k:Nat)(hx:(aL x).length<=1099511627776)(hk:k<9223372036854775808):ml PP 229 [ao x,.int .i64 k] (ao (x/2^k)):=by
 show ml PP _ [d_ (aL x),.int .i64 k] _;refine .of Go.Proofs.Tryz.func229 rfl (by kernel_rfl) rfl rfl rfl (fun A w0=>?_);have hkq:(2:Nat)^k=4294967296^(k/32)*2^(k%32):=by
  rw[show(4294967296:Nat)=2^32 by rfl,←Nat.pow_mul,←Nat.pow_add,Nat.div_add_mod]
 refine .al (.aq rfl<|.nil) rfl (.sq ?_);by_cases hge:(aL x).length<=k/32
 ·refine .al (.mv rfl<|.ar rfl rfl (wW (n:=k) (d:=32) (by omega) hk)<|.mv rfl<|.ln rfl aw<|.cm rfl rfl (H8 (by omega))<|.nil) rfl ?_;refine .cT rfl (.al (.aq rfl<|.nil) rfl ?_);have hz:x/2^k=0:=by
   apply Nat.div_eq_of_lt;have h1:=l_ (x:=x);have h2:4294967296^(aL x).length<=4294967296^(k/32):=Nat.pow_le_pow_right (by omega) hge;have h3:4294967296^(k/32)*1<=4294967296^(k/32)*2^(k%32):=Nat.mul_le_mul_left _ (Nat.two_pow_pos _);rw[hkq];omega
  rw[hz];exact .rA (fun _ _ h=>h) rfl (.tmp rfl) bm rfl
 ·refine .al (.mv rfl<|.ar rfl rfl (wW (n:=k) (d:=32) (by omega) hk)<|.mv rfl<|.ln rfl aw<|.cm rfl rfl (Fv (by omega))<|.nil) rfl ?_;refine .cF rfl (.skip (Ok.on ?_));have hval:=DK (x:=x) (i:=k/32) (by omega);have hres:x/2^k=(x/4294967296^(k/32))/2^(k%32):=by rw[hkq,Nat.div_div_eq_div_mul]
  rw[hres,←hval];have hla:dF ((aL x).drop (k/32)):=j4 (dq x) _;have hll:((aL x).drop (k/32)).length=(aL x).length-k/32:=by simp
  have hslc:=Fz (aL x) (k/32);generalize (aL x).drop (k/32)=a at*;have hr:k%32<32:=Nat.mod_lt _ (by omega);refine .al (.mv rfl<|.mv rfl<|.ar rfl rfl (wW (n:=k) (d:=32) (by omega) hk)<|.Kf rfl rfl aB (by omega) (by omega)<|.Ew (hl:=a_ a) (yS a (by omega)) ⟨congrArg some (hslc _),trivial⟩ rfl<|.aq rfl<|.nil) rfl ?_;refine .tw (ι:={zs:List Nat//zs.length=a.length/\dF zs/\val zs=val a/2^(k%32)}) (fun zs=>[(5,.own 17)]) (fun zs=>[(17,.row 1 230 (bZ zs.1) (a_ _))]) ?_ ?_
  ·refine .al (.mv rfl<|.ar rfl rfl (wU (n:=k) (d:=32) (by omega))<|.aq rfl<|.nil) rfl ?_;generalize k%32=r at*;refine .sub [(5,.own 17),(6,.int .i64 r)] [(17,.row 1 230 (bZ a) (a_ a))] (dO rfl) (jU rfl) rfl rfl ?_;by_cases hr0:r=0
   ·subst hr0;refine .al (.mv rfl<|.cm rfl rfl (Hu (by omega))<|.nil) rfl ?_;exact .cF rfl (.skip fun _ _ hs=>hs.to ⟨a,rfl,hla,by simp⟩ (dO rfl) (jU rfl) rfl rfl)
   refine .al (.mv rfl<|.cm rfl rfl (HW (by omega))<|.nil) rfl ?_;refine .cT rfl ?_;refine .al (.mv rfl<|.IA (n:=a.length) (m':=1) rfl rfl aw (by simp[bT]) rfl rfl<|.mv rfl<|.nil) rfl ?_;refine .block (.loop (ι:={p:List Nat×Nat//p.1.length=a.length/\dF p.1/\p.2<=a.length/\(∀j,p.2<=j->p.1.getD j 0=a.getD j 0)/\val (p.1.take p.2)+4294967296^p.2*(val (a.drop p.2)/2^r)=val a/2^r})
    (fun p=>[(5,.own 17),(6,.int .i64 r),(23,.int .i64 a.length),(24,.int .i64 p.1.2)]) (fun p=>[(17,.row 1 230 (bZ p.1.1) (a_ _))]) (fun p=>a.length-p.1.2)
    ⟨(a,0),rfl,hla,Nat.zero_le _,fun _ _=>rfl,by simp[val]⟩ (dO rfl) (jU rfl) rfl rfl ?_)
   rintro⟨⟨zs,i⟩,hzl,hzs,hi,hsame,hv⟩;simp only at hzl hzs hi hsame hv;show Ok PP _ [(5,.own 17),(6,.int .i64 r),(23,.int .i64 a.length),(24,.int .i64 i)] [(17,.row 1 230 (bZ zs) (a_ _))] _ _;by_cases hlt:i<a.length
   ·refine .al (.cm rfl rfl (Af (by omega))<|.nil) rfl (.sq ?_);refine .cT rfl (.skip (Ok.on ?_));have hzi:zs[i]?=some (a.getD i 0):=by rw[←hsame i (Nat.le_refl _)];simp[show i<zs.length by omega]
    have hdl:=cz hla i;have hdr:=gh a i;have hdr2:=gh a (i+1);have hel:=cz hla (i+1);generalize a.getD i 0=d at hzi hdl hdr;have hpd:d/2^r<4294967296:=Nat.lt_of_le_of_lt (Nat.div_le_self _ _) hdl;refine .cut [(5,.own 17),(6,.int .i64 r),(23,.int .i64 a.length),(24,.int .i64 i)] [(17,.row 1 230 (bZ (zs.set i (d/2^r+(a.getD (i+1) 0%2^r)*2^(32-r)))) (a_ _))] ?_ ?_
    ·refine .block ?_;refine .al (.mv rfl<|.aq rfl<|.nil) rfl ?_;refine .al (.mv rfl<|.mv rfl<|.q6 (n:=a.length) (m':=1) rfl rfl rfl aB (by rw[bT,hzl];omega) rfl rfl (by omega) (by omega)<|.Aa rfl rfl bf (d:=.int .u32 d) (by rw[Int.toNat_natCast,Nat.mul_one];exact bH hzi)<|.mv rfl<|.sh rfl rfl (th (k:=r) (by omega))<|
      .q6 (n:=a.length) (m':=1) rfl rfl rfl aB (by rw[bT,hzl];omega) rfl rfl (by omega) (by omega)<|.A2 rfl rfl rfl bf rfl rfl (by simp[bT,hzl];try omega)<|.nil) rfl ?_
     refine .sub [(5,.own 17),(6,.int .i64 r),(7,.int .i64 i),(23,.int .i64 a.length),(24,.int .i64 i)] [(17,.row 1 230 (bZ (zs.set i (d/2^r))) (a_ _))] (dO rfl) ⟨⟨_,rfl,.of_eq (eP (fA ..))⟩,trivial⟩ rfl rfl ?_;have hsd:=vL (e:=a.getD (i+1) 0) (show r<=32 by omega) hdl;by_cases hn:i+1<a.length
     ·have hze:(zs.set i (d/2^r))[i+1]?=some (a.getD (i+1) 0):=by
       rw[List.getElem?_set_ne (by omega),←hsame (i+1) (by omega)];simp[show i+1<zs.length by omega]
      have hzd:(zs.set i (d/2^r))[i]?=some (d/2^r):=by simp[show i<zs.length by omega]
      have hl2:(bZ (zs.set i (d/2^r))).length=a.length*1:=by rw[bT,List.length_set,hzl];omega
      generalize a.getD (i+1) 0=e at hze hel hsd;refine .al (.mv rfl<|.ar rfl rfl (gI (by omega))<|.mv rfl<|.IA (n:=a.length) (m':=1) rfl rfl aw hl2 rfl rfl<|.cm rfl rfl (Af (by omega))<|.nil) rfl ?_;refine .cT rfl ?_;refine .db cj (.mv rfl<|.mv rfl<|.q6 (n:=a.length) (m':=1) rfl rfl rfl aB hl2 rfl rfl (by omega) (by omega)<|.Aa rfl rfl bf (d:=.int .u32 (d/2^r:Nat)) (by rw[Int.toNat_natCast,Nat.mul_one];exact bH hzd)<|
       .mv rfl<|.mv rfl<|.ar rfl rfl (gI (by omega))<|.q6 (n:=a.length) (m':=1) rfl rfl rfl aB hl2 rfl rfl (by omega) (by omega)<|.Aa rfl rfl bf (d:=.int .u32 (e:Nat)) (by rw[Int.toNat_natCast,Nat.mul_one];exact bH hze)<|
       .mv rfl<|.ar rfl rfl (r:=((32-r:Nat):Int)) (congrArg some (iI (by omega) (by omega)))<|.sh rfl rfl (Aw (n:=e) (k:=32-r) (by omega))<|.ar rfl rfl (r:=((d/2^r+(e%2^r)*2^(32-r):Nat):Int)) (by rw[Bj (by omega)];exact HI hsd.1 hsd.2)<|
       .q6 (n:=a.length) (m':=1) rfl rfl rfl aB hl2 rfl rfl (by omega) (by omega)<|.A2 rfl rfl rfl bf rfl rfl (by rw[hl2];omega)<|.nil) rfl (by kernel_rfl) fun _ _ hs=>?_
      exact hs.sub (dO rfl) ⟨⟨_,rfl,.of_eq (eP (by rw[fA,List.set_set]))⟩,trivial⟩ rfl rfl
     ·have he0:a.getD (i+1) 0=0:=by simp[List.getElem?_eq_none (show a.length<=i+1 by omega)]
      rw[he0,Nat.zero_mod,Nat.zero_mul,Nat.add_zero];have hl2:(bZ (zs.set i (d/2^r))).length=a.length*1:=by rw[bT,List.length_set,hzl];omega
      refine .al (.mv rfl<|.ar rfl rfl (gI (by omega))<|.mv rfl<|.IA (n:=a.length) (m':=1) rfl rfl aw hl2 rfl rfl<|.cm rfl rfl (zN (by omega))<|.nil) rfl ?_;exact .cF rfl (.skip fun _ _ hs=>hs.sub (dO rfl) (jU rfl) rfl rfl)
    ·have hsd:=vL (e:=a.getD (i+1) 0) (show r<=32 by omega) hdl;have hml:=E6 (e:=a.getD (i+1) 0) (R:=val (a.drop (i+1+1))) (show r<=32 by omega);rw[←hdr2]at hml;refine .region (.ar rfl rfl (gI (by omega))<|.mv rfl<|.nil) rfl fun _ _ hs=>?_;refine hs.round (m:=a.length-i) ⟨(zs.set i (d/2^r+(a.getD (i+1) 0%2^r)*2^(32-r)),i+1),by simpa using hzl,jn hzs hsd.2 i,hlt,?_,?_⟩ (by simp only;omega) (dO rfl) (jU rfl) rfl rfl
     ·intro j hj;simp only at hj|-;rw[←hsame j (by omega)];simp[List.getElem?_set_ne (show i≠j by omega)]
     ·simp only;rw[gB (by omega),←hv,hdr,EF (by omega),hml,Nat.pow_succ];generalize d/2^r+a.getD (i+1) 0%2^r*2^(32-r)=X;rw[Nat.mul_add,Nat.mul_assoc,Nat.add_assoc]
   ·have:i=a.length:=by omega
    subst this;refine .al (.cm rfl rfl (zN (by omega))<|.nil) rfl (.sq ?_);refine .cF rfl (.exit fun _ _ hs=>?_);refine hs.to ⟨zs,hzl,hzs,?_⟩ (dO rfl) (jU rfl) rfl rfl;rw[List.take_of_length_le (by omega),List.drop_length]at hv;simpa [val]using hv
  ·rintro⟨zs,hzl,hzs,hv⟩;show Ok PP _ [(5,.own 17)] [(17,.row 1 230 (bZ zs) (a_ _))] _ _;refine .uw (n:=a.length) (m':=1) 5 rfl rfl (by simp[bT,hzl]) rfl rfl ?_;refine .sub [(5,d_ zs)] [] ⟨⟨_,rfl,.of_eq (nS hzl.symm rfl)⟩,trivial⟩ trivial rfl rfl ?_;refine .al (.mv rfl<|.call (nf _ hzs (by omega)) ⟨rfl,trivial⟩<|.aq rfl<|.nil) rfl ?_;exact .ri rfl (.tmp rfl) (.of_eq (by rw[hv])) rfl
end Go.Am
namespace Go.Am
open Go.RowKit
theorem FJ{d r:Nat}(hr:r<=32):d*2^r%4294967296=(d%2^(32-r))*2^r:=by
 have:=Bj (e:=d) (k:=32-r) (by omega)
 rwa [show 32-(32-r)=r by omega]at this
theorem BQ{d c r:Nat}(hr:r<=32)(hd:d<4294967296)(hc:c<2^r):c+(d%2^(32-r))*2^r<4294967296/\d/2^(32-r)<2^r/\(d%2^(32-r))*2^r+4294967296*(d/2^(32-r))=2^r*d:=by
 have hs:=k8 hr;have hp:=Nat.two_pow_pos (32-r);have hm:=Nat.mod_lt d hp;have h1:(d%2^(32-r)+1)*2^r<=2^(32-r)*2^r:=Nat.mul_le_mul_right _ hm;rw[Nat.mul_comm (2^(32-r)),←hs,Nat.add_mul,Nat.one_mul]at h1;refine⟨by omega,?_,?_⟩
 ·rw[Nat.div_lt_iff_lt_mul hp,←hs];exact hd
 ·have h2:=Nat.div_add_mod d (2^(32-r))
  conv=>rhs;rw[←h2]
  rw[Nat.mul_add,←Nat.mul_assoc,←hs,Nat.mul_comm (2^r) (d%2^(32-r)),Nat.add_comm]
theorem Cy{p v c n d e t o:Nat}(h:v+p*c=t*o)(hd:d+4294967296*e=t*n):v+p*(c+d)+p*4294967296*e=t*(o+p*n):=by
 have h2:p*(d+4294967296*e)=p*(t*n):=by rw[hd]
 rw[Nat.mul_add,←Nat.mul_assoc]at h2;rw[Nat.mul_add,Nat.mul_add,Nat.mul_left_comm t p n];omega
theorem EA{P R W t c v o:Nat}(hR:P=R*W)(hp:t<=W)(ho:o<R)(h:v+P*c=t*o):v=t*o:=by
 subst hR;rcases Nat.eq_zero_or_pos c with h0|h0
 ·subst h0;simpa using h
 ·have h1:t*o<=W*o:=Nat.mul_le_mul_right _ hp;have h2:R*W*1<=R*W*c:=Nat.mul_le_mul_left _ h0;have h3:W*o<=W*R:=Nat.mul_le_mul_left _ (Nat.le_of_lt ho);rcases Nat.eq_zero_or_pos W with h4|h4
  ·subst h4;have:t=0:=by omega
   subst this;simp at h|-;omega
  ·have h5:W*o<W*R:=Nat.mul_lt_mul_of_pos_left ho h4;rw[Nat.mul_comm R W]at h h2;omega
theorem HG{r:Nat}(hr:r<=32):(2:Nat)^r<=4294967296:=by
 have:=k8 hr;rw[this];exact Nat.le_mul_of_pos_right _ (Nat.two_pow_pos _)
theorem Gp{n r c v o:Nat}(hr:r<=32)(ho:o<4294967296^n)(h:v+4294967296^(n+1)*c=2^r*o):v=2^r*o:=
 EA (Nat.pow_succ ..) (HG hr) ho h
def laid(q:Nat)(a:List Nat):List Nat:=List.replicate q 0++a++[0]
theorem D1(q:Nat)(a:List Nat):(laid q a).length=q+a.length+1:=by simp[laid];omega
theorem xO(q:Nat)(a:List Nat):val (laid q a)=4294967296^q*val a:=by
 rw[laid,lI,lI,oH];simp[val]
theorem Bv(q:Nat){a:List Nat}(h:dF a):dF (laid q a):=kl (kl (jb q) h) (fun d hd=>by simp at hd;omega)
theorem Bo(q:Nat)(a:List Nat):(List.replicate (q+a.length+1) (D.int .u32 0)).take ((q:Int).toNat*1)++bZ a++(List.replicate (q+a.length+1) (D.int .u32 0)).drop ((q:Int).toNat*1+a.length)=bZ (laid q a):=by
 rw[Int.toNat_natCast,Nat.mul_one,List.take_replicate,List.drop_replicate,Nat.min_eq_left (by omega),show q+a.length+1-(q+a.length)=1 by omega];simp[laid,bZ]
theorem Ez(x k:Nat)(hx:(aL x).length<=1099511627776)(hk:k<35184372088832):ml PP 166 [ao x,.int .i64 k] (ao (x*2^k)):=by
 show ml PP _ [d_ (aL x),.int .i64 k] _;refine .of Go.Proofs.Tryz.func166 rfl (by kernel_rfl) rfl rfl rfl (fun A w0=>?_);have hkq:(2:Nat)^k=4294967296^(k/32)*2^(k%32):=by
  rw[show(4294967296:Nat)=2^32 by rfl,←Nat.pow_mul,←Nat.pow_add,Nat.div_add_mod]
 have hq:k/32<1099511627776:=by omega
 have hr:k%32<32:=Nat.mod_lt _ (by omega);have hqi:pH .quo .i64 (k:Int) 32=some ((k/32:Nat):Int):=wW (d:=32) (by omega) (by omega);have hri:pH .rem .i64 (k:Int) 32=some ((k%32:Nat):Int):=wU (d:=32) (by omega);have hvx:=eJ x;have hla:=dq x;generalize aL x=a at*;have hres:x*2^k=2^(k%32)*val (laid (k/32) a):=by
  rw[xO,hvx,hkq,Nat.mul_comm x,Nat.mul_assoc,Nat.mul_left_comm]
 rw[hres];generalize k/32=q at*;generalize k%32=r at*;have hlo:=Bv q hla;have hln:=D1 q a;have hcopy:=Bo q a;have hsmall:val (laid q a)<4294967296^(q+a.length):=by
  rw[xO,Nat.pow_add];exact Nat.mul_lt_mul_of_pos_left (pA hla) (Nat.pow_pos (by omega))
 have hstart:val ((laid q a).take q)=0:=by
  rw[laid,List.append_assoc,List.take_append_of_le_length (by simp),List.take_of_length_le (by simp)];exact oH q
 generalize laid q a=o at*;refine .al (.aq rfl<|.nil) rfl ?_;refine .al (.mv rfl<|.ar rfl rfl hqi<|.mv rfl<|.ln rfl aw<|.ar rfl rfl (eG (by omega))<|.ar rfl rfl (gI (by omega))<|.Is rfl rfl eC rfl (by omega) (by omega) rfl<|.aq rfl<|.nil) rfl ?_;refine .al (.mv rfl<|.mv rfl<|.ar rfl rfl hqi<|.Kz (n:=q+a.length+1) (m':=1) rfl rfl rfl aB (by simp) rfl rfl (by omega) (by omega)<|.mv rfl<|.KK rfl rfl rfl eC (by simp;try omega) (by simp;try omega)<|.nil) rfl ?_;refine .sub [(1,.int .i64 k),(5,.own 15)] [(15,.row 1 230 (bZ o) (a_ o))] (dO rfl) ⟨⟨_,rfl,.of_eq (eP hcopy)⟩,trivial⟩ rfl rfl ?_;refine .tw (ι:={zs:List Nat//zs.length=q+a.length+1/\dF zs/\val zs=2^r*val o}) (fun zs=>[(5,.own 15)]) (fun zs=>[(15,.row 1 230 (bZ zs.1) (a_ _))]) ?_ ?_
 ·refine .al (.mv rfl<|.ar rfl rfl hri<|.aq rfl<|.nil) rfl ?_;by_cases hr0:r=0
  ·subst hr0;refine .al (.mv rfl<|.cm rfl rfl (Hu (by omega))<|.nil) rfl ?_;exact .cF rfl (.skip fun _ _ hs=>hs.to ⟨o,hln,hlo,by simp⟩ (dO rfl) (jU rfl) rfl rfl)
  refine .al (.mv rfl<|.cm rfl rfl (HW (by omega))<|.nil) rfl ?_;refine .cT rfl ?_;refine .al (.aq rfl<|.nil) rfl ?_;refine .al (.mv rfl<|.ar rfl rfl hqi<|.aq rfl<|.nil) rfl ?_;refine .block (.loop (ι:={p:List Nat×Nat×Nat//p.1.length=q+a.length+1/\dF p.1/\p.2.1<2^r/\p.2.2<=q+a.length+1/\(∀j,p.2.2<=j->p.1.getD j 0=o.getD j 0)/\val (p.1.take p.2.2)+4294967296^p.2.2*p.2.1=2^r*val (o.take p.2.2)})
   (fun p=>[(5,.own 15),(6,.int .i64 r),(7,.int .u32 p.1.2.1),(8,.int .i64 p.1.2.2)]) (fun p=>[(15,.row 1 230 (bZ p.1.1) (a_ _))]) (fun p=>q+a.length+1-p.1.2.2)
   ⟨(o,0,q),hln,hlo,Nat.two_pow_pos r,by simp only;omega,fun _ _=>rfl,by simp[hstart]⟩ (dO rfl) (jU rfl) rfl rfl ?_)
  rintro⟨⟨zs,c,i⟩,hzl,hzs,hc,hi,hsame,hv⟩;simp only at hzl hzs hc hi hsame hv;show Ok PP _ [(5,.own 15),(6,.int .i64 r),(7,.int .u32 c),(8,.int .i64 i)] [(15,.row 1 230 (bZ zs) (a_ _))] _ _;have hl2:(bZ zs).length=(q+a.length+1)*1:=by rw[bT,hzl];omega
  refine .sq ?_;by_cases hlt:i<q+a.length+1
  ·refine .al (.mv rfl<|.mv rfl<|.IA (n:=q+a.length+1) (m':=1) rfl rfl aw hl2 rfl rfl<|.cm rfl rfl (Af (by omega))<|.nil) rfl ?_;refine .cT rfl (.skip (Ok.on (.sq (.block ?_))));have hzi:zs[i]?=some (o.getD i 0):=by rw[←hsame i (Nat.le_refl _)];simp[show i<zs.length by omega]
   have hdl:=cz hlo i;have hst:=eE o i;generalize o.getD i 0=d at hzi hdl hst;obtain⟨h1,h2,h3⟩:=BQ (r:=r) (by omega) hdl hc;refine .db cj (.mv rfl<|.mv rfl<|.mv rfl<|.mv rfl<|.q6 (n:=q+a.length+1) (m':=1) rfl rfl rfl aB hl2 rfl rfl (by omega) (by omega)<|.Aa rfl rfl bf (d:=.int .u32 d) (by rw[Int.toNat_natCast,Nat.mul_one];exact bH hzi)<|.mv rfl<|
    .ar rfl rfl (qv (n:=32) (d:=r) (by omega) (by omega))<|.sh rfl rfl (th (n:=d) (k:=32-r) (by omega))<|.mv rfl<|.mv rfl<|.q6 (n:=q+a.length+1) (m':=1) rfl rfl rfl aB hl2 rfl rfl (by omega) (by omega)<|.Aa rfl rfl bf (d:=.int .u32 d) (by rw[Int.toNat_natCast,Nat.mul_one];exact bH hzi)<|
    .mv rfl<|.sh rfl rfl (Aw (n:=d) (k:=r) (by omega))<|.mv rfl<|.ar rfl rfl (r:=((c+(d%2^(32-r))*2^r:Nat):Int)) (by rw[FJ (by omega)];exact FY hc h1)<|.aq rfl<|.q6 (n:=q+a.length+1) (m':=1) rfl rfl rfl aB hl2 rfl rfl (by omega) (by omega)<|
    .A2 rfl rfl rfl bf rfl rfl (by rw[hl2];omega)<|.nil) rfl (by kernel_rfl) fun _ _ hs=>?_
   refine Ok.on ?_ _ _ hs;refine .region (.mv rfl<|.ar rfl rfl (gI (by omega))<|.aq rfl<|.nil) rfl fun _ _ hs=>?_;refine hs.round (m:=q+a.length+1-i) ⟨(zs.set i (c+(d%2^(32-r))*2^r),d/2^(32-r),i+1),by simpa using hzl,jn hzs h1 i,h2,hlt,?_,?_⟩ (by simp only;omega) (dO rfl) ⟨⟨_,rfl,.of_eq (eP (fA ..))⟩,trivial⟩ rfl rfl
   ·intro j hj;simp only at hj|-;rw[←hsame j (by omega)];simp[List.getElem?_set_ne (show i≠j by omega)]
   ·simp only;rw[gB (by omega),hst,Nat.pow_succ];exact Cy hv h3
  ·have:i=q+a.length+1:=by omega
   subst this;refine .al (.mv rfl<|.mv rfl<|.IA (n:=q+a.length+1) (m':=1) rfl rfl aw hl2 rfl rfl<|.cm rfl rfl (zN (by omega))<|.nil) rfl ?_;refine .cF rfl (.exit fun _ _ hs=>?_);rw[List.take_of_length_le (by omega),List.take_of_length_le (by omega)]at hv;exact hs.to ⟨zs,hzl,hzs,Gp (by omega) hsmall hv⟩ (dO rfl) (jU rfl) rfl rfl
 ·rintro⟨zs,hzl,hzs,hv⟩;show Ok PP _ [(5,.own 15)] [(15,.row 1 230 (bZ zs) (a_ _))] _ _;refine .uw (n:=q+a.length+1) (m':=1) 5 rfl rfl (by simp[bT,hzl]) rfl rfl ?_;refine .sub [(5,d_ zs)] [] ⟨⟨_,rfl,.of_eq (nS hzl.symm rfl)⟩,trivial⟩ trivial rfl rfl ?_;refine .al (.mv rfl<|.call (nf _ hzs (by omega)) ⟨rfl,trivial⟩<|.aq rfl<|.nil) rfl ?_;exact .ri rfl (.tmp rfl) (.of_eq (by rw[hv])) rfl
end Go.Am
namespace Go.Am
def jv(t:Nat):List Nat->Nat->Nat->List Nat->List Nat
 |[],c,b,u::us=>(u+(8589934592-c%4294967296-b))%4294967296::us
 |y::v,c,b,u::us=>(u+(8589934592-(c+t*y)%4294967296-b))%4294967296::jv t v ((c+t*y)/4294967296) (if u<(c+t*y)%4294967296+b then 1 else 0) us
 |_,_,_,[]=>[]
def jg(t:Nat):List Nat->Nat->Nat->List Nat->Nat
 |[],c,b,u::_=>if u<c%4294967296+b then 1 else 0
 |y::v,c,b,u::us=>jg t v ((c+t*y)/4294967296) (if u<(c+t*y)%4294967296+b then 1 else 0) us
 |_,_,_,[]=>0
def kH:List Nat->Nat->List Nat->List Nat
 |[],c,u::us=>(u+c)%4294967296::us
 |y::v,c,u::us=>(u+y+c)%4294967296::kH v ((u+y+c)/4294967296) us
 |_,_,[]=>[]
theorem q_(t:Nat):∀(v:List Nat) (c b:Nat) (us:List Nat),(jv t v c b us).length=us.length
 |[],_,_,[]=>rfl
 |[],_,_,_::_=>rfl
 |_::_,_,_,[]=>rfl
 |_::v,_,_,_::us=>by simp[jv,q_ t v]
theorem po(t:Nat):∀{v:List Nat} {c b:Nat} {us:List Nat},dF us->dF (jv t v c b us)
 |[],_,_,[],h=>h
 |[],_,_,u::us,h=>fun d hd=>by
  rcases List.mem_cons.1 hd with rfl|hd
  ·exact Nat.mod_lt _ (by omega)
  ·exact h d (by simp[hd])
 |_::_,_,_,[],h=>h
 |_::v,_,_,u::us,h=>fun d hd=>by
  rcases List.mem_cons.1 hd with rfl|hd
  ·exact Nat.mod_lt _ (by omega)
  ·exact po t (v:=v) (fun x hx=>h x (by simp[hx])) d hd
theorem yJ(t:Nat):∀(v:List Nat) (c b:Nat) (us:List Nat),jg t v c b us<=1
 |[],_,_,[]=>by simp[jg]
 |[],_,_,_::_=>by simp only[jg];split<;>omega
 |_::_,_,_,[]=>by simp[jg]
 |_::v,_,_,_::us=>yJ t v _ _ us
theorem vN(t:Nat)(ht:t<4294967296):∀(v:List Nat) (c b:Nat) (us:List Nat),dF v->dF us->c<4294967296->b<=1->v.length<us.length->
  val ((jv t v c b us).take (v.length+1))+(t*val v+c+b)=val (us.take (v.length+1))+4294967296^(v.length+1)*jg t v c b us
 |[],c,b,u::us,_,hu,hc,hb,_=>by
  have h1:=hu u (by simp);simp only[jv,jg,List.length_nil,Nat.zero_add,List.take_succ_cons,List.take_zero,val,Nat.mul_zero,Nat.add_zero,Nat.pow_one];rw[Nat.mod_eq_of_lt hc]
  split<;>omega
 |y::v,c,b,u::us,hv,hu,hc,hb,hl=>by
  have h1:=hu u (by simp);have h2:=hv y (by simp);have hty:t*y<=4294967295*4294967295:=Nat.mul_le_mul (by omega) (by omega);have hc':(c+t*y)/4294967296<4294967296:=by omega
  have hb':(if u<(c+t*y)%4294967296+b then 1 else 0)<=1:=by split<;>omega
  have ih:=vN t ht v ((c+t*y)/4294967296) (if u<(c+t*y)%4294967296+b then 1 else 0) us (fun x hx=>hv x (by simp[hx])) (fun x hx=>hu x (by simp[hx])) hc' hb' (by simpa using hl);simp only[jv,jg,List.length_cons,List.take_succ_cons,val];generalize jg t v _ _ us=B at*;generalize val ((jv t v _ _ us).take (v.length+1))=X at*;generalize val (us.take (v.length+1))=U at*;have hp:(4294967296:Nat)^(v.length+1+1)*B=4294967296*(4294967296^(v.length+1)*B):=by rw[Nat.pow_succ (n:=4294967296) (m:=v.length+1),Nat.mul_comm (4294967296^(v.length+1)),Nat.mul_assoc]
  rw[hp];generalize (4294967296:Nat)^(v.length+1)*B=Z at*;have htv:t*(y+4294967296*val v)=t*y+4294967296*(t*val v):=by rw[Nat.mul_add,Nat.mul_left_comm]
  rw[htv];generalize t*val v=W at*;generalize t*y=S at*
  split at ih<;>omega
theorem rE:∀(v:List Nat) (c:Nat) (us:List Nat),(kH v c us).length=us.length
 |[],_,[]=>rfl
 |[],_,_::_=>rfl
 |_::_,_,[]=>rfl
 |_::v,_,_::us=>by simp[kH,rE v]
theorem pR:∀{v:List Nat} {c:Nat} {us:List Nat},dF us->dF (kH v c us)
 |[],_,[],h=>h
 |[],_,u::us,h=>fun d hd=>by
  rcases List.mem_cons.1 hd with rfl|hd
  ·exact Nat.mod_lt _ (by omega)
  ·exact h d (by simp[hd])
 |_::_,_,[],h=>h
 |_::v,_,u::us,h=>fun d hd=>by
  rcases List.mem_cons.1 hd with rfl|hd
  ·exact Nat.mod_lt _ (by omega)
  ·exact pR (v:=v) (fun x hx=>h x (by simp[hx])) d hd
theorem vo:∀(v:List Nat) (c:Nat) (us:List Nat),dF v->dF us->c<=1->v.length<us.length->
  ∃k,k<=1/\val ((kH v c us).take (v.length+1))+4294967296^(v.length+1)*k=val (us.take (v.length+1))+val v+c
 |[],c,u::us,_,hu,hc,_=>by
  have h1:=hu u (by simp);refine⟨(u+c)/4294967296,by omega,?_⟩;simp only[kH,List.length_nil,Nat.zero_add,List.take_succ_cons,List.take_zero,val,Nat.mul_zero,Nat.add_zero,Nat.pow_one];omega
 |y::v,c,u::us,hv,hu,hc,hl=>by
  have h1:=hu u (by simp);have h2:=hv y (by simp);obtain⟨k,hk,ih⟩:=vo v ((u+y+c)/4294967296) us (fun x hx=>hv x (by simp[hx])) (fun x hx=>hu x (by simp[hx])) (by omega) (by simpa using hl);refine⟨k,hk,?_⟩;simp only[kH,List.length_cons,List.take_succ_cons,val];have hp:(4294967296:Nat)^(v.length+1+1)*k=4294967296*(4294967296^(v.length+1)*k):=by rw[Nat.pow_succ (n:=4294967296) (m:=v.length+1),Nat.mul_comm (4294967296^(v.length+1)),Nat.mul_assoc]
  rw[hp];generalize (4294967296:Nat)^(v.length+1)*k=Z at*;generalize val ((kH v _ us).take (v.length+1))=X at*;generalize val (us.take (v.length+1))=U at*;omega
theorem pk(t:Nat):∀(v:List Nat) (c b:Nat) (us:List Nat),(jv t v c b us).drop (v.length+1)=us.drop (v.length+1)
 |[],_,_,[]=>rfl
 |[],_,_,_::_=>rfl
 |_::_,_,_,[]=>rfl
 |_::v,_,_,_::us=>by simpa [jv]using pk t v _ _ us
theorem uh:∀(v:List Nat) (c:Nat) (us:List Nat),(kH v c us).drop (v.length+1)=us.drop (v.length+1)
 |[],_,[]=>rfl
 |[],_,_::_=>rfl
 |_::_,_,[]=>rfl
 |_::v,_,_::us=>by simpa [kH]using uh v _ us
end Go.Am
namespace Go.Am
open Go.RowKit
theorem s8{p:List Nat}{u d:Nat}{q:List Nat}{i:Nat}(h:p.length=i):(p++u::q).set i d=p++d::q:=by
 subst h;simp
theorem AR{p:List Nat}{u:Nat}{q:List Nat}{i:Nat}(h:p.length=i):(p++u::q)[i]?=some u:=by
 subst h;simp
def taken(us v:List Nat)(t at':Nat):List Nat:=us.take at'++jv t v 0 0 (us.drop at')
def given(us v:List Nat)(at':Nat):List Nat:=us.take at'++kH v 0 (us.drop at')
theorem Hg(us v:List Nat)(t at':Nat)(hus:dF us)(hv:dF v)(ht:t<4294967296)(hl:at'+v.length<us.length)(hmax:us.length<=2199023255552):
  Di PP 227 [d_ v,.int .u64 t,.int .i64 at'] 1 230 (bZ us) (.bool (jg t v 0 0 (us.drop at') !=0)) (bZ (taken us v t at')):=by
 refine .of (hl:=a_ us) (hl':=a_ _) Go.Proofs.Tryz.func227 rfl (by kernel_rfl) rfl rfl rfl (fun A w0 b F hF=>?_);refine .al (.aq rfl<|.nil) rfl ?_;refine .al (.aq rfl<|.aq rfl<|.nil) rfl (.sq ?_);refine .al (.mv rfl<|.ln rfl aw<|.mv rfl<|.nil) rfl ?_;refine .block (.loop (ι:={p:List Nat×Nat×Nat×Nat//p.1.length=at'+p.2.2.2/\p.2.2.2<=v.length/\p.2.1<4294967296/\p.2.2.1<=1/\taken us v t at'=p.1++jv t (v.drop p.2.2.2) p.2.1 p.2.2.1 (us.drop (at'+p.2.2.2))/\
   jg t v 0 0 (us.drop at')=jg t (v.drop p.2.2.2) p.2.1 p.2.2.1 (us.drop (at'+p.2.2.2))})
  (fun p=>[(0,xb 0 b),(1,d_ v),(2,.int .u64 t),(3,.int .i64 at'),(9,.int .u64 p.1.2.1),(10,.int .u32 p.1.2.2.1),(13,d_ v),(14,.int .i64 v.length),(15,.int .i64 p.1.2.2.2)])
  (fun p=>[(0,.row 1 230 (bZ (p.1.1++us.drop (at'+p.1.2.2.2))) (a_ _))]) (fun p=>v.length-p.1.2.2.2)
  ⟨(us.take at',0,0,0),by simp;omega,Nat.zero_le _,by simp,by simp,rfl,rfl⟩ (dO rfl) ⟨⟨_,rfl,.of_eq (eP (by simp))⟩,trivial⟩ rfl rfl ?_)
 rintro⟨⟨ps,c,bo,i⟩,hpl,hi,hc,hbo,htk,htb⟩;simp only at hpl hi hc hbo htk htb;show Ok PP _ [(0,xb 0 b),(1,d_ v),(2,.int .u64 t),(3,.int .i64 at'),(9,.int .u64 c),(10,.int .u32 bo),(13,d_ v),(14,.int .i64 v.length),(15,.int .i64 i)] [(0,.row 1 230 (bZ (ps++us.drop (at'+i))) (a_ _))] _ _;have hdu:us.drop (at'+i)=us.getD (at'+i) 0::us.drop (at'+i+1):=by
  rw[List.drop_eq_getElem_cons (show at'+i<us.length by omega)];simp[show at'+i<us.length by omega]
 have hul:=cz hus (at'+i);generalize us.getD (at'+i) 0=u at hdu hul;refine .sub [(0,xb 0 b),(1,d_ v),(2,.int .u64 t),(3,.int .i64 at'),(9,.int .u64 c),(10,.int .u32 bo),(13,d_ v),(14,.int .i64 v.length),(15,.int .i64 i)] [(0,.row 1 230 (bZ (ps++u::us.drop (at'+i+1))) (a_ _))] (dO rfl) ⟨⟨_,rfl,.of_eq (eP (by rw[hdu]))⟩,trivial⟩ rfl rfl ?_;rw[hdu]at htk htb;have hrl:(bZ (ps++u::us.drop (at'+i+1))).length=us.length*1:=by
  rw[bT,List.length_append,List.length_cons,List.length_drop,hpl];omega
 have hgu:(bZ (ps++u::us.drop (at'+i+1)))[((at'+i:Nat):Int).toNat*1]?=some (.int .u32 u):=by
  rw[Int.toNat_natCast,Nat.mul_one];exact bH (AR hpl)
 by_cases hlt:i<v.length
 ·refine .al (.cm rfl rfl (Af (by omega))<|.nil) rfl (.sq ?_);refine .cT rfl (.skip (Ok.on (.sq (.block ?_))));have hvi:v[i]?=some (v.getD i 0):=by simp[hlt]
  have hyl:=cz hv i;have hdv:v.drop i=v.getD i 0::v.drop (i+1):=by
   rw[List.drop_eq_getElem_cons hlt];simp[hlt]
  generalize v.getD i 0=y at hvi hyl hdv;rw[hdv]at htk htb;simp only[jv,jg]at htk htb;have hty:t*y<=4294967295*4294967295:=Nat.mul_le_mul (by omega) (by omega);have hs:c+t*y<18446744073709551616:=by omega
  have hm:(c+t*y)%4294967296<4294967296:=Nat.mod_lt _ (by omega);refine .al (.mv rfl<|.qp rfl rfl aB (by omega) (by omega) (bH hvi)<|.i4 rfl bf<|.aq rfl<|.aq rfl<|.nil) rfl ?_;refine .al (.mv rfl<|.mv rfl<|.mv rfl<|.cv rfl bI (cg (by omega))<|.ar rfl rfl (sH (by omega))<|.ar rfl rfl (sL hs)<|.aq rfl<|.nil) rfl ?_;refine .al (.Io rfl m3<|.mv rfl<|.mv rfl<|.ar rfl rfl (eG (by omega))<|.Io rfl m3<|.mv rfl<|.mv rfl<|.ar rfl rfl (eG (by omega))<|.q6 (n:=us.length) (m':=1) rfl rfl rfl aB hrl rfl rfl (by omega) (by omega)<|.Aa rfl rfl bf hgu<|
   .mv rfl<|.cv rfl fe (jX _)<|.mv rfl<|.call (wV u ((c+t*y)%4294967296) bo hul hm hbo) ⟨rfl,rfl,rfl,trivial⟩<|.mv rfl<|.ext rfl rfl<|.ext rfl rfl<|.q6 (n:=us.length) (m':=1) rfl rfl rfl aB hrl rfl rfl (by omega) (by omega)<|
   .A2 rfl rfl rfl bf rfl rfl (by rw[hrl];omega)<|.aq rfl<|.nil) rfl ?_
  refine .region (.mv rfl<|.sh rfl rfl (yW (by decide))<|.aq rfl<|.nil) rfl fun _ _ hs=>?_;refine Ok.on ?_ _ _ hs;refine .region (.ar rfl rfl (gI (by omega))<|.mv rfl<|.nil) rfl fun _ _ hs=>?_;refine hs.round (m:=v.length-i) ⟨(ps++[(u+(8589934592-(c+t*y)%4294967296-bo))%4294967296],(c+t*y)/4294967296,if u<(c+t*y)%4294967296+bo then 1 else 0,i+1),by simp[hpl];omega,hlt,by simp only;omega,by simp only;split<;>omega,?_,?_⟩ (by simp only;omega)
   (dO rfl) ⟨⟨_,rfl,.of_eq (eP (by rw[fA,s8 hpl];simp only[List.append_assoc,List.singleton_append,Nat.add_assoc]))⟩,trivial⟩ rfl rfl
  ·simp only;rw[htk,List.append_assoc,List.singleton_append,Nat.add_assoc]
  ·simp only;rw[htb,Nat.add_assoc]
 ·have:i=v.length:=by omega
  subst this;refine .al (.cm rfl rfl (zN (by omega))<|.nil) rfl (.sq ?_);refine .cF rfl (.exit (Ok.on ?_));rw[List.drop_length]at htk htb;simp only[jv,jg]at htk htb;have hm:c%4294967296=c:=Nat.mod_eq_of_lt hc;rw[hm]at htk htb;refine .al (.Io rfl m3<|.mv rfl<|.mv rfl<|.ln rfl aw<|.ar rfl rfl (eG (by omega))<|.Io rfl m3<|.mv rfl<|.mv rfl<|.ln rfl aw<|.ar rfl rfl (eG (by omega))<|.q6 (n:=us.length) (m':=1) rfl rfl rfl aB hrl rfl rfl (by omega) (by omega)<|.Aa rfl rfl bf hgu<|
   .mv rfl<|.cv rfl fe (gV hc)<|.mv rfl<|.call (wV u c bo hul hc hbo) ⟨rfl,rfl,rfl,trivial⟩<|.mv rfl<|.ext rfl rfl<|.ext rfl rfl<|.q6 (n:=us.length) (m':=1) rfl rfl rfl aB hrl rfl rfl (by omega) (by omega)<|
   .A2 rfl rfl rfl bf rfl rfl (by rw[hrl];omega)<|.aq rfl<|.nil) rfl ?_
  refine .al (.mv rfl<|.cm rfl rfl (b:=jg t v 0 0 (us.drop at') !=0) (by rw[htb];split<;>rfl)<|.aq rfl<|.nil) rfl ?_;refine .sub [(0,xb 0 b),(8,.bool (jg t v 0 0 (us.drop at') !=0))] [(0,.row 1 230 (bZ (taken us v t at')) (a_ _))] (dO rfl) ⟨⟨_,rfl,.of_eq (eP (by rw[fA,s8 hpl,htk]))⟩,trivial⟩ rfl rfl ?_;exact .II (t:=0) (r:=0) hF (fun _ _ h=>h) rfl (.tmp rfl) (.refl _) rfl rfl rfl
theorem Sat.Jj{P:Program}{c:Ctx}{T:List (Nat×D)}{H:List (Nat×Hp)}{fn:Func}{t r m:Nat}{e:TypeId}{l:List D}{hl:bW l=[]}{b:Value}{a:Act}{w:World}(hL:∀k,c.L k->b≠.slice none 0 0/\k=j7 b)(hx:fn.results=#[])
  (ht:ba T t=some (xb r b))(hh:ah H r=some (.row m e l hl))(hs:Sat c (ba T) (ah H) a w):bodyPost P fn (HD c .any m e l hl b) .normal a w:=by
 obtain⟨ε,φ,hs⟩:=hs;obtain⟨hrow,hS⟩:=yR hL ht hh hs;refine⟨hs.df,.tuple #[],?_,.tuple #[],φ r,rfl,trivial,(Hp.row m e l hl).mono hrow (fun r h=>by cases h) (fun k hk _=>⟨hS k hk,rfl⟩) (fun _ _=>rfl),hs.sb⟩;rw[gg,hx];simp
theorem HL(us v:List Nat)(at':Nat)(hus:dF us)(hv:dF v)(hl:at'+v.length<us.length)(hmax:us.length<=2199023255552):
  Di PP 228 [d_ v,.int .i64 at'] 1 230 (bZ us) .any (bZ (given us v at')):=by
 refine .of (hl:=a_ us) (hl':=a_ _) Go.Proofs.Tryz.func228 rfl (by kernel_rfl) rfl rfl rfl (fun A w0 b F hF=>?_);refine .al (.aq rfl<|.nil) rfl (.sq ?_);refine .al (.mv rfl<|.ln rfl aw<|.mv rfl<|.nil) rfl ?_;refine .block (.loop (ι:={p:List Nat×Nat×Nat//p.1.length=at'+p.2.2/\p.2.2<=v.length/\p.2.1<=1/\given us v at'=p.1++kH (v.drop p.2.2) p.2.1 (us.drop (at'+p.2.2))})
  (fun p=>[(0,xb 0 b),(1,d_ v),(2,.int .i64 at'),(6,.int .u32 p.1.2.1),(9,d_ v),(10,.int .i64 v.length),(11,.int .i64 p.1.2.2)])
  (fun p=>[(0,.row 1 230 (bZ (p.1.1++us.drop (at'+p.1.2.2))) (a_ _))]) (fun p=>v.length-p.1.2.2)
  ⟨(us.take at',0,0),by simp;omega,Nat.zero_le _,by simp,rfl⟩ (dO rfl) ⟨⟨_,rfl,.of_eq (eP (by simp))⟩,trivial⟩ rfl rfl ?_)
 rintro⟨⟨ps,c,i⟩,hpl,hi,hc,htk⟩;simp only at hpl hi hc htk;show Ok PP _ [(0,xb 0 b),(1,d_ v),(2,.int .i64 at'),(6,.int .u32 c),(9,d_ v),(10,.int .i64 v.length),(11,.int .i64 i)] [(0,.row 1 230 (bZ (ps++us.drop (at'+i))) (a_ _))] _ _;have hdu:us.drop (at'+i)=us.getD (at'+i) 0::us.drop (at'+i+1):=by
  rw[List.drop_eq_getElem_cons (show at'+i<us.length by omega)];simp[show at'+i<us.length by omega]
 have hul:=cz hus (at'+i);generalize us.getD (at'+i) 0=u at hdu hul;refine .sub [(0,xb 0 b),(1,d_ v),(2,.int .i64 at'),(6,.int .u32 c),(9,d_ v),(10,.int .i64 v.length),(11,.int .i64 i)] [(0,.row 1 230 (bZ (ps++u::us.drop (at'+i+1))) (a_ _))] (dO rfl) ⟨⟨_,rfl,.of_eq (eP (by rw[hdu]))⟩,trivial⟩ rfl rfl ?_;rw[hdu]at htk;have hrl:(bZ (ps++u::us.drop (at'+i+1))).length=us.length*1:=by
  rw[bT,List.length_append,List.length_cons,List.length_drop,hpl];omega
 have hgu:(bZ (ps++u::us.drop (at'+i+1)))[((at'+i:Nat):Int).toNat*1]?=some (.int .u32 u):=by
  rw[Int.toNat_natCast,Nat.mul_one];exact bH (AR hpl)
 by_cases hlt:i<v.length
 ·refine .al (.cm rfl rfl (Af (by omega))<|.nil) rfl (.sq ?_);refine .cT rfl (.skip (Ok.on (.sq (.block ?_))));have hvi:v[i]?=some (v.getD i 0):=by simp[hlt]
  have hyl:=cz hv i;have hdv:v.drop i=v.getD i 0::v.drop (i+1):=by
   rw[List.drop_eq_getElem_cons hlt];simp[hlt]
  generalize v.getD i 0=y at hvi hyl hdv;rw[hdv]at htk;simp only[kH]at htk;refine .al (.mv rfl<|.qp rfl rfl aB (by omega) (by omega) (bH hvi)<|.i4 rfl bf<|.aq rfl<|.aq rfl<|.nil) rfl ?_;refine .region (.Io rfl m3<|.mv rfl<|.mv rfl<|.ar rfl rfl (eG (by omega))<|.Io rfl m3<|.mv rfl<|.mv rfl<|.ar rfl rfl (eG (by omega))<|.q6 (n:=us.length) (m':=1) rfl rfl rfl aB hrl rfl rfl (by omega) (by omega)<|.Aa rfl rfl bf hgu<|
   .mv rfl<|.mv rfl<|.call (Fg u y c hul hyl hc) ⟨rfl,rfl,rfl,trivial⟩<|.mv rfl<|.ext rfl rfl<|.ext rfl rfl<|.q6 (n:=us.length) (m':=1) rfl rfl rfl aB hrl rfl rfl (by omega) (by omega)<|
   .A2 rfl rfl rfl bf rfl rfl (by rw[hrl];omega)<|.aq rfl<|.nil) rfl fun _ _ hs=>?_
  refine Ok.on ?_ _ _ hs;refine .region (.ar rfl rfl (gI (by omega))<|.mv rfl<|.nil) rfl fun _ _ hs=>?_;refine hs.round (m:=v.length-i) ⟨(ps++[(u+y+c)%4294967296],(u+y+c)/4294967296,i+1),by simp[hpl];omega,hlt,by simp only;omega,?_⟩ (by simp only;omega)
   (dO rfl) ⟨⟨_,rfl,.of_eq (eP (by rw[fA,s8 hpl];simp only[List.append_assoc,List.singleton_append,Nat.add_assoc]))⟩,trivial⟩ rfl rfl
  simp only;rw[htk,List.append_assoc,List.singleton_append,Nat.add_assoc at']
 ·have:i=v.length:=by omega
  subst this;refine .al (.cm rfl rfl (zN (by omega))<|.nil) rfl (.sq ?_);refine .cF rfl (.exit (Ok.on ?_));rw[List.drop_length]at htk;simp only[kH]at htk;have hw:IntKind.u32.wrap ((u:Int)+(c:Int))=(((u+c)%4294967296:Nat):Int):=wrap_u32 (by omega);refine .region (.Io rfl m3<|.mv rfl<|.mv rfl<|.ln rfl aw<|.ar rfl rfl (eG (by omega))<|.q6 (n:=us.length) (m':=1) rfl rfl rfl aB hrl rfl rfl (by omega) (by omega)<|.Aa rfl rfl bf hgu<|
   .mv rfl<|.ar rfl rfl (congrArg some hw)<|.q6 (n:=us.length) (m':=1) rfl rfl rfl aB hrl rfl rfl (by omega) (by omega)<|
   .A2 rfl rfl rfl bf rfl rfl (by rw[hrl];omega)<|.nil) rfl fun _ _ hs=>?_
  refine(hs.sub (T':=[(0,xb 0 b)]) (H':=[(0,.row 1 230 (bZ (given us v at')) (a_ _))]) (dO rfl) ⟨⟨_,rfl,.of_eq (eP (by rw[fA,s8 hpl,htk]))⟩,trivial⟩ rfl rfl).Jj (t:=0) (r:=0) hF rfl rfl rfl
end Go.Am
namespace Go.Am
theorem EW{U V v1 R two q:Nat}(hV:v1*R<=V)(hU:U<(two+1)*R)(hq:q*V<=U):q*v1<=two:=by
 have h1:q*(v1*R)<=q*V:=Nat.mul_le_mul_left _ hV;rw[←Nat.mul_assoc]at h1;have h2:q*v1*R<(two+1)*R:=by omega
 have:=Nat.lt_of_mul_lt_mul_right h2;omega
theorem DX{U V B v1 v2 u2 P two g rest q:Nat}(hV:(v1*B+v2)*P<=V)(hU:U<(two*B+u2+1)*P)(hg:g*v1+rest=two)(ht:rest*B+u2<g*v2)(hq:q*V<=U):q<g:=by
 apply Nat.lt_of_not_le;intro hle;have h1:g*((v1*B+v2)*P)<=q*V:=Nat.mul_le_mul hle hV;have h2:g*(v1*B+v2)*P<(two*B+u2+1)*P:=by rw[Nat.mul_assoc];omega
 have h3:=Nat.lt_of_mul_lt_mul_right h2;have h4:g*(v1*B+v2)=g*v1*B+g*v2:=by rw[Nat.mul_add,Nat.mul_assoc]
 have h5:two*B=g*v1*B+rest*B:=by rw[←hg,Nat.add_mul]
 omega
theorem D_{U V B v1 v2 u2 P two g rest:Nat}(hV1:B*P<=V)(hV:V<(v1*B+v2+1)*P)(hU:(two*B+u2)*P<=U)(hg:g*v1+rest=two)(ht:g*v2<=rest*B+u2)(hgB:g<=B):g*V<=U+V:=by
 have h4:g*(v1*B+v2)=g*v1*B+g*v2:=by rw[Nat.mul_add,Nat.mul_assoc]
 have h5:two*B=g*v1*B+rest*B:=by rw[←hg,Nat.add_mul]
 have h6:g*(v1*B+v2)<=two*B+u2:=by omega
 have h7:g*(v1*B+v2)*P<=(two*B+u2)*P:=Nat.mul_le_mul_right _ h6;have h8:g*V<=g*((v1*B+v2+1)*P):=Nat.mul_le_mul_left _ (Nat.le_of_lt hV);have h9:g*((v1*B+v2+1)*P)=g*(v1*B+v2)*P+g*P:=by rw[←Nat.mul_assoc,Nat.mul_add g,Nat.mul_one,Nat.add_mul]
 have h10:g*P<=B*P:=Nat.mul_le_mul_right _ hgB;omega
theorem Hd{U V g q X Y M bo k:Nat}(hq:q=U/V)(hV:0<V)(h1:q<=g)(h2:g*V<=U+V)(_hUM:U<M)(hbo:bo<=1)(hX:X<M)(hT:X+g*V=U+M*bo)(hk:k<=1)(hY:Y<M)(_hVM:V<M)(hG:Y+M*k=X+V):
  (bo=0/\g=q/\X=U%V)\/(bo=1/\g=q+1/\Y=U%V):=by
 have hdm:=Nat.div_add_mod U V;have hm:=Nat.mod_lt U hV;rw[←hq]at hdm;have hc:V*q=q*V:=Nat.mul_comm _ _;have hg:g=q\/g=q+1:=by
  rcases Nat.lt_or_ge (q+1) g with h|h
  ·exfalso
   have h3:(q+2)*V<=g*V:=Nat.mul_le_mul_right _ h;rw[Nat.add_mul]at h3;omega
  ·omega
 have hb:bo=0\/bo=1:=by omega
 have hkk:k=0\/k=1:=by omega
 rcases hg with rfl|rfl
 ·left
  rcases hb with rfl|rfl
  ·refine⟨rfl,rfl,?_⟩;omega
  ·exfalso;omega
 ·right
  rw[Nat.add_mul,Nat.one_mul]at hT;rcases hb with rfl|rfl
  ·exfalso;omega
  ·refine⟨rfl,rfl,?_⟩;rcases hkk with rfl|rfl<;>omega
end Go.Am
namespace Go.Am
open Go.RowKit
theorem GO(x y:Nat)(hx:(aL x).length<=1099511627776)(hy:(aL y).length<=1099511627776):ml PP 212 [ao x,ao y] (ao (x+y)):=
 HJ (aL x) (aL y) (dq x) (dq y) hx hy (by rw[eJ,eJ])
def kX(l:List UInt8):Nat:=l.foldl (fun a b=>a*10+(b.toNat-48)) 0
theorem oB(l:List UInt8)(b:UInt8):kX (l++[b])=kX l*10+(b.toNat-48):=by simp[kX]
def u9(l:List UInt8):Prop:=∀b∈l,48<=b.toNat/\b.toNat<=57
theorem Bc{l:List UInt8}(h:u9 l):kX l<4294967296^l.length:=by
 have key:∀(n:Nat) (l:List UInt8),l.length=n->u9 l->kX l<4294967296^n:=by
  intro n
  induction n with
  |zero=>intro l hl _;rw[List.length_eq_zero_iff.1 hl];simp[kX]
  |succ n ih=>
   intro l hl hd;have hne:l≠[]:=by intro e;subst e;simp at hl
   rw[←List.dropLast_concat_getLast hne,oB];have h1:=ih l.dropLast (by simp[hl]) (fun b hb=>hd b (List.dropLast_subset _ hb));have h2:=hd (l.getLast hne) (List.getLast_mem hne);have hp:(4294967296:Nat)^(n+1)=4294967296^n*4294967296:=Nat.pow_succ ..;rw[hp];generalize (4294967296:Nat)^n=P at*;omega
 exact key _ l rfl h
theorem Bt(s:ByteArray)(hs:s.size<=1000000)(hd:u9 s.data.toList):ml PP 148 [.str s] (ao (kX s.data.toList)):=by
 refine .of Go.Proofs.Tryz.func148 rfl (by kernel_rfl) rfl rfl rfl (fun A w0=>?_);have hsl:s.data.toList.length=s.size:=Array.length_toList;refine .al (.aq rfl<|.nil) rfl ?_;refine .al (.aq rfl<|.nil) rfl (.sq ?_);refine .al (.mv rfl<|.Ka rfl dg<|.mv rfl<|.nil) rfl ?_;refine .block (.loop (ι:={i:Nat//i<=s.size}) (fun i=>[(0,.str s),(3,ao (kX (s.data.toList.take i.1))),(6,.int .i64 s.size),(7,.int .i64 i.1)]) (fun _=>[]) (fun i=>s.size-i.1)
  ⟨0,Nat.zero_le _⟩ ⟨⟨_,rfl,.refl _⟩,⟨_,rfl,bm⟩,⟨_,rfl,.refl _⟩,⟨_,rfl,.refl _⟩,trivial⟩ trivial rfl rfl ?_)
 rintro⟨i,hi⟩;show Ok PP _ [(0,.str s),(3,ao (kX (s.data.toList.take i))),(6,.int .i64 s.size),(7,.int .i64 i)] [] _ _;by_cases hlt:i<s.size
 ·refine .al (.cm rfl rfl (Af (by omega))<|.nil) rfl (.sq ?_);refine .cT rfl (.skip (Ok.on (.sq (.block ?_))));have hb:s[i]?=some s[i]:=getElem?_pos s i hlt;have hbl:s.data.toList[i]?=some s[i]:=by
   rw[Array.getElem?_toList,ByteArray.getElem_eq_getElem_data];exact Array.getElem?_eq_getElem _
  have hdb:=hd s[i] (List.mem_of_getElem? hbl);have htk:s.data.toList.take (i+1)=s.data.toList.take i++[s[i]]:=by
   rw[List.take_add_one,hbl];rfl
  have hlen:(s.data.toList.take i).length=i:=by rw[List.length_take,hsl];omega
  have hdt:u9 (s.data.toList.take i):=fun b hb=>hd b (List.mem_of_mem_take hb);have hvl:=Bc hdt;rw[hlen]at hvl;have hl1:=fC hvl;have hvl2:=Bc (l:=s.data.toList.take (i+1)) (fun b hb=>hd b (List.mem_of_mem_take hb));have hlen2:(s.data.toList.take (i+1)).length=i+1:=by rw[htk,List.length_append,hlen];rfl
  rw[hlen2,htk,oB]at hvl2;generalize s[i]=b at*;generalize hv0:kX (s.data.toList.take i)=v at*;have hl2:(aL (v*10)).length<=i+1:=fC (Nat.lt_of_le_of_lt (Nat.le_add_right _ _) hvl2);have hl3:(aL (b.toNat-48)).length<=1:=fC (by omega);have hl4:(aL 10).length<=1:=fC (by omega);have hw:IntKind.u8.wrap ((b.toNat:Int)-48)=((b.toNat-48:Nat):Int):=by rw[IntKind.wrap_u8];omega
  refine .al (.mv rfl<|.aq rfl<|.nil) rfl ?_;refine .db cj (.mv rfl<|.call (ta 10 (by omega)) ⟨rfl,trivial⟩<|.call (G9 v 10 (by omega) (by omega)) ⟨rfl,rfl,trivial⟩<|.mv rfl<|.mv rfl<|.JY rfl rfl dg (by omega) hb<|.ar rfl rfl (congrArg some hw)<|.cv rfl sA (cg (by omega))<|
   .call (ta (b.toNat-48) (by omega)) ⟨rfl,trivial⟩<|.call (GO (v*10) (b.toNat-48) (by omega) (by omega)) ⟨rfl,rfl,trivial⟩<|.aq rfl<|.nil) rfl (by kernel_rfl) fun _ _ hs=>?_
  refine Ok.on ?_ _ _ hs;refine .region (.ar rfl rfl (gI (by omega))<|.mv rfl<|.nil) rfl fun _ _ hs=>?_;exact hs.round (m:=s.size-i) ⟨i+1,hlt⟩ (by simp only;omega) ⟨⟨_,rfl,.refl _⟩,⟨_,rfl,.of_eq (by rw[htk,oB,hv0])⟩,⟨_,rfl,.refl _⟩,⟨_,rfl,.refl _⟩,trivial⟩ trivial rfl rfl
 ·have:i=s.size:=by omega
  subst this;refine .al (.cm rfl rfl (zN (by omega))<|.nil) rfl (.sq ?_);refine .cF rfl (.exit (Ok.on ?_));refine .al (.mv rfl<|.aq rfl<|.nil) rfl ?_;exact .ri rfl (.tmp rfl) (.of_eq (by rw[List.take_of_length_le (by omega)])) rfl
end Go.Am
namespace Go.Am
open Go.RowKit
end Go.Am
namespace Go.Am
theorem G4(B P a b:Nat):P*a+P*B*b=P*(b*B+a):=by
 rw[Nat.mul_add,Nat.mul_assoc,Nat.mul_comm B b];omega
theorem IS(B P a b c:Nat):P*a+P*B*b+P*B*B*c=P*((c*B+b)*B+a):=by
 have e:P*B*B*c=P*(c*B*B):=by rw[Nat.mul_assoc,Nat.mul_assoc,Nat.mul_comm B c,Nat.mul_comm B (c*B)]
 rw[e,G4,←Nat.mul_add,Nat.add_mul]
 congr 1;omega
theorem Gu{l:List Nat}{p a b:Nat}(ha:l[p]?=some a)(hb:l[p+1]?=some b):val (l.take (p+2))=val (l.take p)+4294967296^p*(b*4294967296+a):=by
 have h1:=eZ hb;have h2:=eZ ha;rw[←G4,show p+2=p+1+1 from rfl,h1,h2,Nat.pow_succ,Nat.add_assoc]
theorem Cq{l:List Nat}{p a b c:Nat}(ha:l[p]?=some a)(hb:l[p+1]?=some b)(hc:l[p+2]?=some c):val (l.take (p+3))=val (l.take p)+4294967296^p*((c*4294967296+b)*4294967296+a):=by
 have h1:=eZ hc;have h2:=eZ hb;have h3:=eZ ha;rw[←IS,show p+3=p+2+1 from rfl,h1,show p+2=p+1+1 from rfl,h2,h3,Nat.pow_succ,Nat.pow_succ,Nat.add_assoc,Nat.add_assoc,Nat.add_assoc,Nat.pow_succ]
theorem A0{X P t U:Nat}(h:U=X+P*t)(hX:X<P):t*P<=U/\U<(t+1)*P:=by
 rw[h,Nat.add_mul,Nat.one_mul,Nat.mul_comm P t];omega
theorem zh{q two v1:Nat}(h:q*v1<=two)(h1:0<v1):q<=two/v1:=(Nat.le_div_iff_mul_le h1).2 h
theorem z6{g v1 rest two:Nat}(h:g*v1+rest=two)(hg:0<g):(g-1)*v1+(rest+v1)=two:=by
 obtain⟨k,rfl⟩:∃k,g=k+1:=⟨g-1,by omega⟩;rw[Nat.add_mul,Nat.one_mul]at h;rw[Nat.add_sub_cancel];omega
theorem yI{g v1 rest B u1 u0:Nat}(h:g*v1+rest=u1*B+u0)(hr:B<=rest)(hu1:u1<=v1)(hu0:u0<B):g<B:=by
 have h1:u1*B<=v1*B:=Nat.mul_le_mul_right _ hu1;have h2:g*v1<B*v1:=by rw[Nat.mul_comm B v1];omega
 exact Nat.lt_of_mul_lt_mul_right h2
end Go.Am
namespace Go.Am
open Go.RowKit
structure pU(us v:List Nat)(i n:Nat):Prop where
 n2:2<=n
 vl:v.length=n
 lv:dF v
 lu:dF us
 fit:i+n<us.length
 KT:4294967296^n<=2*val v
 less:val (us.drop (i+1))<val v
theorem pU.rest{us v:List Nat}{i n:Nat}(h:pU us v i n):val (us.drop i)=val ((us.drop i).take (n+1)):=by
 have h1:=fx (us.drop (i+1)) n (by rw[List.length_drop];have:=h.fit;omega);have h2:=pA h.lv;rw[h.vl]at h2;have h3:val ((us.drop (i+1)).drop n)=0:=by
  rcases Nat.eq_zero_or_pos (val ((us.drop (i+1)).drop n))with h|h'
  ·exact h
  ·exfalso
   have:=Nat.mul_le_mul_left (4294967296^n) h';have:=h.less;omega
 have h4:=fx (us.drop i) (n+1) (by rw[List.length_drop];have:=h.fit;omega);rw[List.drop_drop]at h3 h4;rw[show i+(n+1)=i+1+n by omega,h3,Nat.mul_zero,Nat.add_zero]at h4;exact h4
theorem getD_some{l:List Nat}{i:Nat}(h:i<l.length):l[i]?=some (l.getD i 0):=by simp[h]
theorem pU.win{us v:List Nat}{i p:Nat}(h:pU us v i (p+2)):
  ((us.getD (i+p+2) 0*4294967296+us.getD (i+p+1) 0)*4294967296+us.getD (i+p) 0)*4294967296^p<=val (us.drop i)/\
  val (us.drop i)<((us.getD (i+p+2) 0*4294967296+us.getD (i+p+1) 0)*4294967296+us.getD (i+p) 0+1)*4294967296^p:=by
 have hf:=h.fit;have g:∀k,k<p+3->(us.drop i)[k]?=some (us.getD (i+k) 0):=fun k hk=>by
  rw[List.getElem?_drop];exact getD_some (by omega)
 have h3:=Cq (l:=us.drop i) (p:=p) (g p (by omega)) (g (p+1) (by omega)) (g (p+2) (by omega));rw[h.rest];exact A0 h3 (fD (j4 h.lu i) p)
theorem pU.div{us v:List Nat}{i p:Nat}(h:pU us v i (p+2)):
  (v.getD (p+1) 0*4294967296+v.getD p 0)*4294967296^p<=val v/\val v<(v.getD (p+1) 0*4294967296+v.getD p 0+1)*4294967296^p:=by
 have hl:=h.vl;have h3:=Gu (l:=v) (p:=p) (getD_some (by omega)) (getD_some (by omega));rw[←hl,List.take_length]at h3;exact A0 h3 (fD h.lv p)
theorem I7(a B P:Nat):a*B*B*P=B*(a*B*P):=by
 rw[Nat.mul_right_comm (a*B) B P,Nat.mul_comm (a*B*P) B]
theorem Gg{v1 v2:Nat}(h1:v1<2147483648)(h2:v2<4294967296):v1*4294967296+v2+1<=9223372036854775808:=by omega
theorem pU.size{us v:List Nat}{i p:Nat}(h:pU us v i (p+2)):4294967296*4294967296^p<=val v/\2147483648<=v.getD (p+1) 0:=by
 have hb:=h.KT;have hd:=h.div.2;have hv2:=cz h.lv p;rw[Nat.pow_succ,Nat.pow_succ]at hb;generalize (4294967296:Nat)^p=P at*;generalize v.getD (p+1) 0=v1 at*;generalize v.getD p 0=v2 at*;generalize val v=V at*;refine⟨by omega,?_⟩;apply Nat.le_of_not_lt;intro hlt;have h0:=Gg hlt hv2;have h1:=Nat.mul_le_mul_right P h0;omega
theorem pU.top{us v:List Nat}{i p:Nat}(h:pU us v i (p+2)):us.getD (i+p+2) 0<=v.getD (p+1) 0:=by
 have hu:=h.win.1;have hd:=h.div.2;have hr:=gh us i;have hul:=cz h.lu i;have hv2:=cz h.lv p;have hs:=h.less;generalize us.getD (i+p+2) 0=a at*;generalize us.getD (i+p+1) 0=b at*;generalize us.getD (i+p) 0=c at*;generalize us.getD i 0=d at*;generalize val (us.drop i)=U at*;generalize val (us.drop (i+1))=W at*;generalize (4294967296:Nat)^p=P at*;generalize v.getD (p+1) 0=v1 at*;generalize v.getD p 0=v2 at*;generalize val v=V at*;apply Nat.le_of_not_lt;intro hlt;have h1:((v1+1)*4294967296*4294967296)*P<=((a*4294967296+b)*4294967296+c)*P:=Nat.mul_le_mul_right _ (by omega);have h2:(v1*4294967296+v2+1)*P<=((v1+1)*4294967296)*P:=Nat.mul_le_mul_right _ (by omega);have h3:((v1+1)*4294967296*4294967296)*P=4294967296*(((v1+1)*4294967296)*P):=I7 ..;omega
end Go.Am
namespace Go.Am
theorem Ft{U V B P two c v1 v2 q:Nat}(hw:U<(two*B+c+1)*P)(hd:(v1*B+v2)*P<=V)(hc:c<B)(hq:q*V<=U):q*v1<=two:=by
 refine EW (R:=B*P) (Nat.le_trans ?_ hd) (Nat.lt_of_lt_of_le hw ?_) hq
 ·rw[←Nat.mul_assoc];exact Nat.mul_le_mul_right _ (Nat.le_add_right _ _)
 ·rw[←Nat.mul_assoc];exact Nat.mul_le_mul_right _ (by rw[Nat.add_mul,Nat.one_mul];omega)
theorem pU.ge{us v:List Nat}{i p q:Nat}(h:pU us v i (p+2))(hq:q*val v<=val (us.drop i)):q*v.getD (p+1) 0<=us.getD (i+p+2) 0*4294967296+us.getD (i+p+1) 0:=
 Ft h.win.2 h.div.1 (cz h.lu (i+p)) hq
end Go.Am
namespace Go.Am
structure Stood(us v:List Nat)(i p g:Nat):Prop where
 ge:val (us.drop i)/val v<=g
 le:g*val v<=val (us.drop i)+val v
 lt:g<4294967296
theorem pU.stood{us v:List Nat}{i p g rest:Nat}(h:pU us v i (p+2))(hge:val (us.drop i)/val v<=g)(hg:g*v.getD (p+1) 0+rest=us.getD (i+p+2) 0*4294967296+us.getD (i+p+1) 0)
  (ht:g*v.getD p 0<=rest*4294967296+us.getD (i+p) 0)(hgB:g<4294967296):Stood us v i p g:=
 ⟨hge,D_ h.size.1 h.div.2 h.win.1 hg ht (Nat.le_of_lt hgB),hgB⟩
theorem vr(us v:List Nat)(t i:Nat):(taken us v t i).length=us.length:=by
 rw[taken,List.length_append,q_,List.length_take,List.length_drop];omega
theorem tB{us v:List Nat}{t i:Nat}(h:i<=us.length):(taken us v t i).drop i=jv t v 0 0 (us.drop i):=by
 rw[taken,List.drop_append_of_le_length (by simp;omega),List.drop_of_length_le (by simp;omega),List.nil_append]
theorem z8{us v:List Nat}{t i:Nat}(h:i<=us.length):(taken us v t i).take i=us.take i:=by
 rw[taken,List.take_append_of_le_length (by simp;omega),List.take_of_length_le (by simp;omega)]
theorem zk{us v:List Nat}{t i:Nat}(h:dF us):dF (taken us v t i):=kl (mR h i) (po t (j4 h i))
theorem BS(us v:List Nat)(i:Nat):(given us v i).length=us.length:=by
 rw[given,List.length_append,rE,List.length_take,List.length_drop];omega
theorem zt{us v:List Nat}{i:Nat}(h:i<=us.length):(given us v i).drop i=kH v 0 (us.drop i):=by
 rw[given,List.drop_append_of_le_length (by simp;omega),List.drop_of_length_le (by simp;omega),List.nil_append]
theorem z_{us v:List Nat}{i:Nat}(h:i<=us.length):(given us v i).take i=us.take i:=by
 rw[given,List.take_append_of_le_length (by simp;omega),List.take_of_length_le (by simp;omega)]
theorem zg{us v:List Nat}{i:Nat}(h:dF us):dF (given us v i):=kl (mR h i) (pR (j4 h i))
theorem pU.I4{us v:List Nat}{i n:Nat}(h:pU us v i n):val ((us.drop i).drop (n+1))=0:=by
 have h1:=h.rest;have h4:=fx (us.drop i) (n+1) (by rw[List.length_drop];have:=h.fit;omega);have hp:0<4294967296^(n+1):=Nat.pow_pos (by omega);generalize (4294967296:Nat)^(n+1)=P at*;rcases Nat.eq_zero_or_pos (val ((us.drop i).drop (n+1)))with h0|h0
 ·exact h0
 ·have:=Nat.mul_le_mul hp h0;omega
theorem pU.step{us v:List Nat}{i p g:Nat}(h:pU us v i (p+2))(hs:Stood us v i p g):
  (jg g v 0 0 (us.drop i)=0/\g=val (us.drop i)/val v/\val ((taken us v g i).drop i)=val (us.drop i)%val v)\/
  (jg g v 0 0 (us.drop i)=1/\g=val (us.drop i)/val v+1/\val ((given (taken us v g i) v i).drop i)=val (us.drop i)%val v):=by
 have hf:=h.fit;have hil:i<=us.length:=by omega
 have hld:v.length<(us.drop i).length:=by rw[List.length_drop,h.vl];omega
 have hT:=vN g hs.lt v 0 0 (us.drop i) h.lv (j4 h.lu i) (by omega) (by omega) hld;have hlt:=po g (v:=v) (c:=0) (b:=0) (j4 h.lu i);have hlen:=q_ g v 0 0 (us.drop i);obtain⟨k,hk,hG⟩:=vo v 0 (jv g v 0 0 (us.drop i)) h.lv hlt (by omega) (by rw[hlen];exact hld);have hbo:=yJ g v 0 0 (us.drop i);have hV:0<val v:=by
  have:=h.size.1;have h2:0<4294967296*4294967296^p:=Nat.mul_pos (by omega) (Nat.pow_pos (by omega));exact Nat.lt_of_lt_of_le h2 this
 have hab:=h.I4;have hrest:=h.rest;rw[h.vl]at hT hG;have e1:val ((taken us v g i).drop i)=val ((jv g v 0 0 (us.drop i)).take (p+2+1)):=by
  rw[tB hil,fx _ (p+2+1) (by rw[hlen,←h.vl];omega)];have:=pk g v 0 0 (us.drop i);rw[h.vl]at this;rw[this,hab,Nat.mul_zero,Nat.add_zero]
 have e2:val ((given (taken us v g i) v i).drop i)=val ((kH v 0 (jv g v 0 0 (us.drop i))).take (p+2+1)):=by
  rw[zt (by rw[vr];exact hil),tB hil,fx _ (p+2+1) (by rw[rE,hlen,←h.vl];omega)];have g1:=uh v 0 (jv g v 0 0 (us.drop i));have g2:=pk g v 0 0 (us.drop i);rw[h.vl]at g1 g2;rw[g1,g2,hab,Nat.mul_zero,Nat.add_zero]
 have hX:=fD hlt (p+2+1);have hY:=fD (pR (v:=v) (c:=0) hlt) (p+2+1);have hU:=fD (j4 h.lu i) (p+2+1);have hVM:=pA h.lv;rw[h.vl]at hVM;have hMM:4294967296^(p+2)<=4294967296^(p+2+1):=Nat.pow_le_pow_right (by omega) (by omega);rw[e1,e2];rw[←hrest]at hT hU;exact Hd rfl hV hs.ge hs.le hU hbo hX (by rw[←hT];omega) hk hY (Nat.lt_of_lt_of_le hVM hMM) hG
end Go.Am
namespace Go.Am
open Go.RowKit
theorem Le.JE{a b c d:D}(h:Le a c)(k:Le b d):Le (.ig [a,b]) (.ig [c,d]):=by
 refine⟨fun ε w S v ⟨vs,e,hv⟩=>⟨vs,e,?_⟩,fun r hr=>?_⟩
 ·match vs,hv with
  |[x,y],hv=>exact⟨h.1 _ _ _ _ hv.1,k.1 _ _ _ _ hv.2.1,trivial⟩
 ·obtain⟨e,he,hr'⟩:=b9.1 (show r∈bW [c,d]from hr);simp only[List.mem_cons,List.not_mem_nil,or_false]at he;rcases he with rfl|rfl
  ·exact b9.2 ⟨a,by simp,h.2 r hr'⟩
  ·exact b9.2 ⟨b,by simp,k.2 r hr'⟩
theorem Dd{y:Nat}(h:(aL y).length=1):y<4294967296/\y≠0/\aL y=[y]:=by
 have h1:=l_ (x:=y);rw[h]at h1;have h0:y≠0:=by intro e;subst e;rw[dC]at h;simp at h
 have hy:y<4294967296:=by omega
 refine⟨hy,h0,?_⟩;rw[lF h0,Nat.div_eq_of_lt hy,Nat.mod_eq_of_lt hy,dC]
theorem xP{x y:Nat}(h:y<=x):0<=fK x y:=by unfold fK;split<;>(try split)<;>omega
theorem Dp{y k:Nat}(hy:y≠0):bO (y*2^k)=bO y+k:=by
 have hp:=Nat.two_pow_pos k;have h:=qP (x:=y*2^k) k (Nat.le_mul_of_pos_left _ (by omega));rw[Nat.mul_div_cancel _ hp]at h;exact h.symm
theorem Gq{y n d:Nat}(hn:(aL y).length=n+1)(hd:(aL y)[n]?=some d)(hy:y≠0)(hd32:bO d<=32):
  4294967296^(n+1)<=2*(y*2^(32-bO d))/\(aL (y*2^(32-bO d))).length=n+1:=by
 have hb:=vu hn hd;have hm:=Dp (k:=32-bO d) hy;have hV:bO (y*2^(32-bO d))=32*(n+1):=by omega
 have hV0:y*2^(32-bO d)≠0:=Nat.mul_ne_zero hy (Nat.pos_iff_ne_zero.1 (Nat.two_pow_pos _));generalize y*2^(32-bO d)=V at*;have h1:=nh V;have h2:=w_ hV0;rw[hV]at h1 h2;have hp:(4294967296:Nat)^(n+1)=2^(32*(n+1)):=by rw[Nat.pow_mul]
 have hq:(2:Nat)^(32*(n+1))=2*2^(32*(n+1)-1):=by
  conv=>lhs;rw[show 32*(n+1)=(32*(n+1)-1)+1 by omega,Nat.pow_succ,Nat.mul_comm]
 have h3:4294967296^(n+1)<=2*V:=by rw[hp,hq];exact Nat.mul_le_mul_left _ h2
 refine⟨h3,?_⟩;have h4:=fC (x:=V) (n:=n+1) (by rw[hp];exact h1);have h5:¬(aL V).length<=n:=by
  intro hle;have h6:=l_ (x:=V);have h7:4294967296^(aL V).length<=4294967296^n:=Nat.pow_le_pow_right (by omega) hle;rw[Nat.pow_succ]at h3;generalize (4294967296:Nat)^n=P at*;omega
 omega
theorem BA{t P U q r V Z X B:Nat}(h:t+P*U+V*(P*B*Z)=X)(hU:V*q+r=U):t+P*r+V*(P*(q+B*Z))=X:=by
 rw[←h,←hU,Nat.mul_add P q,Nat.mul_add V,Nat.mul_add P (V*q),Nat.mul_left_comm V P q,←Nat.mul_assoc P B Z];omega
end Go.Am
namespace Go.Am
open Go.RowKit
theorem EU{l:List Nat}{n:Nat}(hw:l.length<=n):(List.replicate (n+1) (D.int .u32 0)).take 0++bZ l++(List.replicate (n+1) (D.int .u32 0)).drop (0+l.length)=bZ (l++List.replicate (n+1-l.length) 0):=by
 rw[List.take_zero,List.nil_append,Nat.zero_add,List.drop_replicate];simp[bZ]
theorem C0{l:List Nat}{n:Nat}(hw:l.length<=n):(l++List.replicate (n+1-l.length) 0).take n=l++List.replicate (n-l.length) 0:=by
 rw[List.take_append,List.take_of_length_le hw,List.take_replicate,Nat.min_eq_left (by omega)]
theorem E9(l:List Nat)(n:Nat):val (l++List.replicate n 0)=val l:=by
 rw[lI,oH,Nat.mul_zero,Nat.add_zero]
theorem pU.Kt{us v:List Nat}{i n:Nat}(h:pU us v i n):val (us.drop i)/val v<4294967296:=by
 have hV:0<val v:=by have:=h.less;omega
 rw[Nat.div_lt_iff_lt_mul hV];have hd:us.drop i=us.getD i 0::us.drop (i+1):=by
  rw[List.drop_eq_getElem_cons (by have:=h.fit;omega)];congr 1;simp[show i<us.length from by have:=h.fit;omega]
 have hl:=cz h.lu i;have hless:=h.less;rw[hd,val];omega
theorem pU.dec{us v:List Nat}{i p g rest:Nat}(h:pU us v i (p+2))(hge:val (us.drop i)/val v<=g)(hg:g*v.getD (p+1) 0+rest=us.getD (i+p+2) 0*4294967296+us.getD (i+p+1) 0)
  (ht:4294967296<=g\/rest*4294967296+us.getD (i+p) 0<g*v.getD p 0):val (us.drop i)/val v<g:=by
 rcases ht with ht|ht
 ·have:=h.Kt;omega
 ·exact DX h.div.1 h.win.2 hg ht (Nat.div_mul_le_self _ _)
theorem pU.cf{us v:List Nat}{i p g rest:Nat}(h:pU us v i (p+2))(hge:val (us.drop i)/val v<=g)(hg:g*v.getD (p+1) 0+rest=us.getD (i+p+2) 0*4294967296+us.getD (i+p+1) 0)
  (hr:4294967296<=rest):Stood us v i p g:=by
 have hgB:=yI hg hr h.top (cz h.lu (i+p+1));refine h.stood hge hg ?_ hgB;have h2:=cz h.lv p;have h3:g*v.getD p 0<=4294967296*4294967296:=Nat.mul_le_mul (by omega) (by omega);have h4:4294967296*4294967296<=rest*4294967296:=Nat.mul_le_mul_right _ hr;omega
theorem Bx{x y n la m p:Nat}(hxl:x<4294967296^la)(hyl:4294967296^n<=y)(hm:n+m=la)(hp:0<p):x*p<y*p*4294967296^m:=by
 have h3:=Nat.mul_le_mul_right (4294967296^m) hyl;rw[←Nat.pow_add,hm]at h3;have h4:x<y*4294967296^m:=Nat.lt_of_lt_of_le hxl h3;rw[Nat.mul_right_comm];exact Nat.mul_lt_mul_of_pos_right h4 hp
theorem GF{us0:List Nat}{V X m:Nat}(h:val us0=X)(hl:m<=us0.length)(hVX:X<V*4294967296^m):val (us0.drop m)<V:=by
 have h1:=fx us0 m hl;rw[h]at h1;have h2:val (us0.drop m)*4294967296^m<V*4294967296^m:=by
  rw[Nat.mul_comm (val _)];exact Nat.lt_of_le_of_lt (by rw[h1];exact Nat.le_add_left _ _) hVX
 exact Nat.lt_of_mul_lt_mul_right h2
theorem GL{x y p a b:Nat}(hp:0<p)(hy:0<y)(h:a+y*p*b=x*p)(hl:a<y*p):b=x/y/\a=(x%y)*p:=by
 have hV:0<y*p:=Nat.mul_pos hy hp
 constructor
 ·have h1:x*p/(y*p)=b:=by rw[←h,Nat.add_mul_div_left _ _ hV,Nat.div_eq_of_lt hl,Nat.zero_add]
  rw[←h1,Nat.mul_div_mul_right _ _ hp]
 ·have h1:x*p%(y*p)=a:=by rw[←h,Nat.add_mul_mod_self_left,Nat.mod_eq_of_lt hl]
  rw[←h1,Nat.mul_mod_mul_right]
theorem CH{us v:List Nat}{n:Nat}(hn:n<=us.length)(hv:dF v)(hvl:v.length=n)(h:val us<val v):val (us.take n)=val us:=by
 have h1:=fx us n hn;have h2:=pA hv;rw[hvl]at h2;have h3:val (us.drop n)=0:=by
  rcases Nat.eq_zero_or_pos (val (us.drop n))with h|h
  ·exact h
  ·exfalso
   have h4:=Nat.mul_le_mul_left (4294967296^n) h;rw[Nat.mul_succ,Nat.mul_zero,Nat.zero_add]at h4;have h5:4294967296^n*val (us.drop n)<=val us:=by rw[h1];exact Nat.le_add_left _ _
   have h6:=Nat.lt_trans ‹val us<val v› h2;exact Nat.lt_irrefl _ (Nat.lt_of_le_of_lt (Nat.le_trans h4 h5) h6)
 rw[h1,h3,Nat.mul_zero,Nat.add_zero]
structure xj(la m V X:Nat)(us qs:List Nat)(i:Nat):Prop where
 ul:us.length=la+1
 lu:dF us
 ql:qs.length=m
 lq:dF qs
 im:i<=m
 sum:val us+V*(4294967296^i*val (qs.drop i))=X
 less:val (us.drop i)<V
theorem xj.init{la m V X:Nat}{us:List Nat}(h1:us.length=la+1)(h2:dF us)(h3:val us=X)(h4:val (us.drop m)<V):xj la m V X us (List.replicate m 0) m:=
 ⟨h1,h2,List.length_replicate,jb m,Nat.le_refl _,by rw[List.drop_of_length_le (by simp),h3];simp[val],h4⟩
theorem xj.fin{la m V X x y p:Nat}{us qs v:List Nat}{n:Nat}(h:xj la m V X us qs 0)(hX:x*p=X)(hV:y*p=V)(hp:0<p)(hy:0<y)(hn:n<=us.length)(hv:dF v)(hvl:v.length=n)(hvv:val v=V):
  val qs=x/y/\val (us.take n)=(x%y)*p:=by
 have hless:=h.less;have hval:=h.sum;rw[List.drop_zero]at hless;rw[List.drop_zero,Nat.pow_zero,Nat.one_mul]at hval;rw[←hX,←hV]at hval;obtain⟨hq,hr⟩:=GL hp hy hval (by rw[hV];exact hless);have htk:=CH hn hv hvl (by rw[hvv];exact hless);rw[hr]at htk;exact⟨hq,htk⟩
theorem xj.step{la m V X:Nat}{us qs us':List Nat}{i q:Nat}(h:xj la m V X us qs (i+1))(hlu:dF us')(hl:us'.length=us.length)(hm:val (us'.drop i)=val (us.drop i)%V)(htk:us'.take i=us.take i)(hq:q=val (us.drop i)/V)(hqB:q<4294967296)(hV:0<V)(hiu:i<=us.length):
  xj la m V X us' (qs.set i q) i:=by
 have hiq:i<qs.length:=by have:=h.im;have:=h.ql;omega
 refine⟨by rw[hl];exact h.ul,hlu,by rw[List.length_set];exact h.ql,jn h.lq hqB i,by have:=h.im;omega,?_,?_⟩
 ·have hd:(qs.set i q).drop i=q::qs.drop (i+1):=by
   rw[List.drop_eq_getElem_cons (by rw[List.length_set];exact hiq),List.getElem_set_self,List.drop_set_of_lt (Nat.lt_succ_self i)]
  have h1:=fx us i hiu;have h2:=fx us' i (by omega);have h3:=h.sum;rw[h1,Nat.pow_succ]at h3;rw[hd,val,h2,htk,hm];exact BA h3 (by rw[hq];exact Nat.div_add_mod _ _)
 ·rw[hm];exact Nat.mod_lt _ hV
theorem Jh(x y:Nat)(hy0:y≠0)(hx:(aL x).length<=549755813888)(hy:(aL y).length<=549755813888):ml PP 167 [ao x,ao y] (.ig [ao (x/y),ao (x%y)]):=by
 show ml PP _ [d_ (aL x),d_ (aL y)] _;refine .of Go.Proofs.Tryz.func167 rfl (by kernel_rfl) rfl rfl rfl (fun A w0=>?_);refine .al (.aq rfl<|.aq rfl<|.nil) rfl (.sq (.block ?_));by_cases hlt:x<y
 ·refine .al (.mv rfl<|.mv rfl<|.call (Ef x y (by omega) (by omega)) ⟨rfl,rfl,trivial⟩<|.cm rfl rfl (Af (by rw[w6 hlt];decide))<|.aq rfl<|.nil) rfl ?_;refine .cT rfl (.al (.mv rfl<|.aq rfl<|.aq rfl<|.nil) rfl ?_);exact .Dn (fun _ _ h=>h) rfl (.tmp rfl) (.tmp rfl) (.JE (by rw[Nat.div_eq_of_lt hlt];exact bm) (.of_eq (by rw[Nat.mod_eq_of_lt hlt];rfl))) rfl
 have hyx:y<=x:=Nat.le_of_not_lt hlt;refine .al (.mv rfl<|.mv rfl<|.call (Ef x y (by omega) (by omega)) ⟨rfl,rfl,trivial⟩<|.cm rfl rfl (zN (xP hyx))<|.aq rfl<|.nil) rfl ?_;refine .cF rfl ?_;by_cases h1:(aL y).length=1
 ·obtain⟨hyb,_,hyd⟩:=Dd h1;refine .al (.mv rfl<|.ln rfl aw<|.cm rfl rfl (J2 (by omega))<|.aq rfl<|.nil) rfl ?_;refine .cT rfl (.al (.mv rfl<|.mv rfl<|.qp rfl rfl aB (by omega) (by omega) (bH (i:=0) (d:=y) (by rw[hyd];rfl))<|.i4 rfl bf<|.call (AM x y hy0 hyb (by omega)) ⟨rfl,rfl,trivial⟩<|.ext rfl rfl<|.ext rfl rfl<|.aq rfl<|.aq rfl<|.nil) rfl ?_);exact .Dn (fun _ _ h=>h) rfl (.tmp rfl) (.tmp rfl) (.refl _) rfl
 refine .al (.mv rfl<|.ln rfl aw<|.cm rfl rfl (IK (by omega))<|.aq rfl<|.nil) rfl ?_;refine .cF rfl (.skip (Ok.on ?_));obtain⟨p,hp⟩:∃p,(aL y).length=p+2:=⟨(aL y).length-2,by have:=dv hy0;omega⟩;have htop:(aL y)[p+1]?=some ((aL y).getD (p+1) 0):=getD_some (by omega);have hdl:=cz (dq y) (p+1);generalize (aL y).getD (p+1) 0=d at htop hdl;have hb32:bO d<=32:=eO (n:=32) hdl;obtain⟨hbig,hvl⟩:=Gq (n:=p+1) hp htop hy0 hb32;have hsub1:pH .sub .i64 (((aL y).length:Nat):Int) 1=some ((p+1:Nat):Int):=by rw[kW (by omega)];congr 1;omega
 refine .al (.mv rfl<|.mv rfl<|.ln rfl aw<|.ar rfl rfl hsub1<|.qp rfl rfl aB (by omega) (by omega) (bH (i:=p+1) (d:=d) htop)<|.i4 rfl bf<|.call (rG d hdl) ⟨rfl,trivial⟩<|.aq rfl<|.nil) rfl ?_;have hkl:32-bO d<35184372088832:=by omega
 have hk32:32-bO d<=32:=by omega
 generalize 32-bO d=k at hbig hvl hkl hk32;have hpk:2^k<=4294967296:=Nat.le_trans (Nat.pow_le_pow_right (by decide) hk32) (by decide);have hXlt:x*2^k<4294967296^((aL x).length+1):=by
  rw[Nat.pow_succ];exact Nat.mul_lt_mul_of_lt_of_le l_ hpk (by decide)
 have hAl:(aL (x*2^k)).length<=(aL x).length+1:=fC hXlt;have hXlt':=hXlt;refine .al (.mv rfl<|.mv rfl<|.call (Ez y k (by omega) hkl) ⟨rfl,rfl,trivial⟩<|.aq rfl<|.nil) rfl ?_;refine .sub [(0,ao x),(1,ao y),(6,.int .i64 (k:Nat)),(7,d_ (aL (y*2^k)))] [] (dO rfl) (jU rfl) rfl rfl ?_;have hvv:=eJ (y*2^k);have hvo:=dq (y*2^k);generalize aL (y*2^k)=v at hvl hvv hvo;have hvl:v.length=p+2:=hvl;have hln:pH .sub .i64 (((aL x).length:Nat):Int) ((p+1+1:Nat):Int)=some ((((aL x).length-(p+2):Nat)):Int):=qv (by have:=kb hyx;omega) (by omega);have hnx:p+2<=(aL x).length:=by have:=kb hyx;omega
 refine .al (.mv rfl<|.ln rfl aw<|.aq rfl<|.nil) rfl ?_;refine .sub [(0,d_ (aL x)),(6,.int .i64 (k:Nat)),(7,d_ v),(8,.int .i64 ((p+2:Nat)))] [] ⟨⟨_,rfl,.refl _⟩,⟨_,rfl,.refl _⟩,⟨_,rfl,.refl _⟩,⟨_,rfl,.of_eq (by rw[hvl])⟩,trivial⟩ (jU rfl) rfl rfl ?_;refine .al (.mv rfl<|.ln rfl aw<|.ar rfl rfl (eG (d:=2) (by omega))<|.Is rfl rfl eC rfl (by omega) (by omega) rfl<|.aq rfl<|.nil) rfl ?_;have hKx:ml PP 166 [d_ (aL x),.int .i64 (k:Nat)] (d_ (aL (x*2^k))):=Ez x k (by omega) hkl;refine .al (.mv rfl<|.mv rfl<|.mv rfl<|.call hKx ⟨rfl,rfl,trivial⟩<|.KR rfl rfl rfl eC (by simp;try omega)<|.nil) rfl ?_;have hcopy:=EU hAl;have hpt:=C0 hAl;have hpv:=E9 (aL (x*2^k)) ((aL x).length+1-(aL (x*2^k)).length);have hplo:dF (aL (x*2^k)++List.replicate ((aL x).length+1-(aL (x*2^k)).length) 0):=kl (dq _) (jb _);rw[eJ]at hpv;have hpl:(aL (x*2^k)++List.replicate ((aL x).length+1-(aL (x*2^k)).length) 0).length=(aL x).length+1:=by rw[List.length_append,List.length_replicate];omega
 have hpl2:(aL (x*2^k)++List.replicate ((aL x).length+1+1-(aL (x*2^k)).length) 0).length=(aL x).length+2:=by rw[List.length_append,List.length_replicate];omega
 refine .sub [(0,d_ (aL x)),(6,.int .i64 (k:Nat)),(7,d_ v),(8,.int .i64 ((p+2:Nat))),(9,.own 47)] [(47,.row 1 230 (bZ (aL (x*2^k)++List.replicate ((aL x).length+1+1-(aL (x*2^k)).length) 0)) (a_ _))] (dO rfl) ⟨⟨_,rfl,.of_eq (eP hcopy)⟩,trivial⟩ rfl rfl ?_;generalize aL (x*2^k)++List.replicate ((aL x).length+1-(aL (x*2^k)).length) 0=us0 at hpt hpv hplo hpl;generalize aL (x*2^k)++List.replicate ((aL x).length+1+1-(aL (x*2^k)).length) 0=us1 at hpt hpl2;refine .al (.mv rfl<|.mv rfl<|.ln rfl aw<|.ar rfl rfl (gI (by omega))<|.KO (n:=(aL x).length+2) (m':=1) rfl rfl rfl aB (by rw[bT,hpl2];omega) rfl rfl (by omega) (by omega) (by omega)<|.aq rfl<|.nil) rfl ?_;refine .IE 9 200 (n:=(aL x).length+1) (m':=1) rfl rfl rfl (by rw[bT,hpl2];omega) rfl (by rw[bT,hpl2];omega) ?_;refine .sub [(0,d_ (aL x)),(6,.int .i64 (k:Nat)),(7,d_ v),(8,.int .i64 ((p+2:Nat))),(9,.own 200)] [(200,.row 1 230 (bZ us0) (a_ _))] (dO rfl) ⟨⟨_,rfl,.of_eq (eP (by rw[Nat.mul_one,vt,hpt]))⟩,trivial⟩ rfl rfl ?_;refine .al (.mv rfl<|.ln rfl aw<|.mv rfl<|.ar rfl rfl hln<|.ar rfl rfl (gI (by omega))<|.Is rfl rfl eC rfl (by omega) (by omega) rfl<|.aq rfl<|.nil) rfl ?_;refine .sq ?_;refine .al (.mv rfl<|.IA (n:=(aL x).length-(p+2)+1) (m':=1) rfl rfl aw (by simp) rfl rfl<|.ar rfl rfl (kW (by omega))<|.aq rfl<|.nil) rfl ?_;generalize hm:(aL x).length-(p+2)+1=m;generalize hX:x*2^k=X at hpv;have hbig':=hbig;generalize hV:y*2^k=V at hvv hbig';have hpk0:0<2^k:=Nat.two_pow_pos k;have hVX:X<V*4294967296^m:=by
  rw[←hX,←hV];exact Bx l_ (sY hy0) (by omega) hpk0
 have hini:val (us0.drop m)<V:=GF hpv (by omega) hVX;have hI0:xj (aL x).length m V X us0 (List.replicate m 0) m:=.init hpl hplo hpv hini;refine .block (.loop (ι:={s:List Nat×List Nat×Nat//xj (aL x).length m V X s.1 s.2.1 s.2.2})
  (fun s=>[(6,.int .i64 (k:Nat)),(7,d_ v),(8,.int .i64 ((p+2:Nat))),(9,.own 200),(10,.own 63),(11,.int .i64 ((s.1.2.2:Nat)-1))]) (fun s=>[(200,.row 1 230 (bZ s.1.1) (a_ _)),(63,.row 1 230 (bZ s.1.2.1) (a_ _))]) (fun s=>s.1.2.2)
  ⟨(us0,List.replicate m 0,m),hI0⟩ (dO rfl) ⟨⟨_,rfl,.refl _⟩,⟨_,rfl,.of_eq (eP (by simp[bZ]))⟩,trivial⟩ rfl rfl ?_)
 rintro⟨⟨us,qs,i1⟩,hI⟩;simp only at hI;show Ok PP _ [(6,.int .i64 (k:Nat)),(7,d_ v),(8,.int .i64 ((p+2:Nat))),(9,.own 200),(10,.own 63),(11,.int .i64 ((i1:Nat)-1))] [(200,.row 1 230 (bZ us) (a_ _)),(63,.row 1 230 (bZ qs) (a_ _))] _ _;have hul:=hI.ul;have hql:=hI.ql;refine .sq ?_
 cases i1 with
 |zero=>
  refine .al (.mv rfl<|.cm rfl rfl (b:=false) (by simp[dY])<|.nil) rfl ?_;refine .cF rfl (.exit (Ok.on ?_));obtain⟨hq,hr⟩:=hI.fin hX hV hpk0 (Nat.pos_of_ne_zero hy0) (n:=p+2) (by omega) hvo hvl hvv;have hltk:dF (us.take (p+2)):=mR hI.lu _;have Cv:=hI.lq;refine .uw (n:=m) (m':=1) 10 rfl rfl (by rw[bT,hql];omega) rfl rfl ?_;refine .uw (n:=(aL x).length+1) (m':=1) 9 rfl rfl (by rw[bT,hul];omega) rfl rfl ?_;refine .sub [(6,.int .i64 (k:Nat)),(8,.int .i64 ((p+2:Nat))),(9,d_ us),(10,d_ qs)] [] ⟨⟨_,rfl,.refl _⟩,⟨_,rfl,.refl _⟩,⟨_,rfl,.of_eq (nS hul.symm rfl)⟩,⟨_,rfl,.of_eq (nS hql.symm rfl)⟩,trivial⟩ trivial rfl rfl ?_;have hKn:ml PP 210 [d_ (us.take (p+2))] (ao (x%y*2^k)):=by rw[←hr];exact nf _ hltk (by rw[List.length_take];omega)
  have hKq:ml PP 210 [d_ qs] (ao (x/y)):=by rw[←hq];exact nf _ Cv (by omega)
  have hrl:(aL (x%y*2^k)).length<=1099511627776:=by
   have h1:x%y*2^k<4294967296^((aL x).length+1):=by
    refine Nat.lt_of_le_of_lt (Nat.mul_le_mul_right _ (Nat.mod_le x y)) hXlt'
   have:=fC h1;omega
  have hsl:∀h,D.jS ((p+2:Nat):Int).toNat 1 ((bZ us).take (((p+2:Nat):Int).toNat*1)) h=d_ (us.take (p+2)):=fun h=>nS (by rw[Int.toNat_natCast,List.length_take];omega) (by rw[Int.toNat_natCast,Nat.mul_one,vt]);have hKs:=G0 (x%y*2^k) k hrl (by omega);rw[Nat.mul_div_cancel _ hpk0]at hKs;refine .c_ cj (.mv rfl<|.call hKq ⟨rfl,trivial⟩<|.mv rfl<|.mv rfl<|.Ki rfl rfl aB (by omega) (by omega)<|.call hKn ⟨congrArg some (hsl _),trivial⟩<|.mv rfl<|.call hKs ⟨rfl,rfl,trivial⟩<|.aq rfl<|.aq rfl<|.nil) rfl (by kernel_rfl) ?_;exact .F7 rfl (.tmp rfl) (.tmp rfl) (.refl _) rfl
 |succ i=>
  have hvl':v.length=p+2:=hvl;have dw:i+(p+2)<us.length:=by have:=hI.im;rw[hul];omega
  have hW:pU us v i (p+2):=⟨by omega,hvl,hvo,hI.lu,dw,by rw[hvv];exact hbig',by rw[hvv];exact hI.less⟩;have hiq:i<qs.length:=by have:=hI.im;omega
  refine .al (.mv rfl<|.cm rfl rfl (b:=true) (by simp[dY];try omega)<|.nil) rfl ?_;refine .cT rfl (.skip (Ok.on (.sq (.block ?_))));rw[show((i+1:Nat):Int)-1=i by omega];have g0:us[i+p]?=some (us.getD (i+p) 0):=getD_some (by omega);have g1:us[i+p+1]?=some (us.getD (i+p+1) 0):=getD_some (by omega);have g2:us[i+(p+2)]?=some (us.getD (i+p+2) 0):=getD_some (by omega);have gv1:v[p+1]?=some (v.getD (p+1) 0):=getD_some (by omega);have gv2:v[p]?=some (v.getD p 0):=getD_some (by omega);have l0:=cz hI.lu (i+p);have l1:=cz hI.lu (i+p+1);have l2:=cz hI.lu (i+p+2);have lv1:=cz hvo (p+1);have lv2:=cz hvo p;have hv1p:2147483648<=v.getD (p+1) 0:=hW.size.2;have hwdec:=@pU.dec us v i p;have hwbrk:=@pU.cf us v i p;have hwst:=@pU.stood us v i p;have hwge:=fun q h=>pU.ge (q:=q) hW h;generalize hu0:us.getD (i+p) 0=u0 at*;generalize hu1:us.getD (i+p+1) 0=u1 at*;generalize hu2:us.getD (i+p+2) 0=u2 at*;generalize hv1:v.getD (p+1) 0=v1 at*;generalize hv2:v.getD p 0=v2 at*;have hrl:(bZ us).length=((aL x).length+1)*1:=by rw[bT,hul];omega
  have s1:pH .sub .i64 ((i+(p+2):Nat):Int) 1=some ((i+p+1:Nat):Int):=by rw[kW (by omega)];congr 1;omega
  have s2:pH .sub .i64 ((i+(p+2):Nat):Int) 2=some ((i+p:Nat):Int):=by rw[show(2:Int)=((2:Nat):Int)from rfl,qv (by omega) (by omega)];congr 2
  have s3:pH .sub .i64 ((p+2:Nat):Int) 1=some ((p+1:Nat):Int):=by rw[kW (by omega)];congr 1;omega
  have s4:pH .sub .i64 ((p+2:Nat):Int) 2=some ((p:Nat):Int):=by rw[show(2:Int)=((2:Nat):Int)from rfl,qv (by omega) (by omega)];congr 2
  refine .c_ cj (.mv rfl<|.mv rfl<|.mv rfl<|.ar rfl rfl (eG (n:=i) (d:=p+2) (by omega))<|.q6 (n:=(aL x).length+1) (m':=1) rfl rfl rfl aB hrl rfl rfl (by omega) (by omega)<|.Aa rfl rfl bf (d:=.int .u32 u2) (by rw[Int.toNat_natCast,Nat.mul_one];exact bH g2)<|.cv rfl bI (cg (by omega))<|.sh rfl rfl (AP (n:=u2) l2)<|
   .mv rfl<|.mv rfl<|.mv rfl<|.ar rfl rfl (eG (n:=i) (d:=p+2) (by omega))<|.ar rfl rfl s1<|.q6 (n:=(aL x).length+1) (m':=1) rfl rfl rfl aB hrl rfl rfl (by omega) (by omega)<|.Aa rfl rfl bf (d:=.int .u32 u1) (by rw[Int.toNat_natCast,Nat.mul_one];exact bH g1)<|.cv rfl bI (cg (by omega))<|.ar rfl rfl (xm l2 l1)<|.aq rfl<|.nil) rfl (by kernel_rfl) ?_
  have htwo:u2*4294967296+u1<18446744073709551616:=by omega
  refine .c_ cj (.mv rfl<|.mv rfl<|.mv rfl<|.ar rfl rfl s3<|.qp rfl rfl aB (by omega) (by omega) (bH (i:=p+1) (d:=v1) gv1)<|.i4 rfl bf<|.cv rfl bI (cg (by omega))<|.ar rfl rfl (DT (n:=u2*4294967296+u1) (d:=v1) (by omega) htwo)<|
   .mv rfl<|.mv rfl<|.mv rfl<|.ar rfl rfl s3<|.qp rfl rfl aB (by omega) (by omega) (bH (i:=p+1) (d:=v1) gv1)<|.i4 rfl bf<|.cv rfl bI (cg (by omega))<|.ar rfl rfl (wU (n:=u2*4294967296+u1) (d:=v1) (by omega))<|.aq rfl<|.aq rfl<|.nil) rfl (by kernel_rfl) ?_
  have hVpos:0<val v:=by have:=hW.less;omega
  have hge0:val (us.drop i)/val v<=(u2*4294967296+u1)/v1:=zh (hwge _ (Nat.div_mul_le_self _ _)) (by omega);have hst0:(u2*4294967296+u1)/v1*v1+(u2*4294967296+u1)%v1=u2*4294967296+u1:=by rw[Nat.mul_comm];exact Nat.div_add_mod _ _
  have hr0:(u2*4294967296+u1)%v1<4294967296:=Nat.lt_trans (Nat.mod_lt _ (by omega)) lv1;generalize (u2*4294967296+u1)/v1=gu0 at hge0 hst0|-;generalize (u2*4294967296+u1)%v1=re0 at hr0 hst0|-;refine .tw (ι:={g:Nat//Stood us v i p g}) (fun g=>[(6,.int .i64 (k:Nat)),(7,d_ v),(8,.int .i64 ((p+2:Nat))),(9,.own 200),(10,.own 63),(11,.int .i64 (i:Nat)),(13,.int .u64 (g.1:Nat))]) (fun _=>[(200,.row 1 230 (bZ us) (a_ _)),(63,.row 1 230 (bZ qs) (a_ _))]) ?_ ?_
  ·refine .block (.loop (ι:={s:Nat×Nat//val (us.drop i)/val v<=s.1/\s.1*v1+s.2=u2*4294967296+u1/\s.2<4294967296})
    (fun s=>[(6,.int .i64 (k:Nat)),(7,d_ v),(8,.int .i64 ((p+2:Nat))),(9,.own 200),(10,.own 63),(11,.int .i64 (i:Nat)),(13,.int .u64 (s.1.1:Nat)),(14,.int .u64 (s.1.2:Nat))]) (fun _=>[(200,.row 1 230 (bZ us) (a_ _)),(63,.row 1 230 (bZ qs) (a_ _))]) (fun s=>s.1.1)
    ⟨(gu0,re0),hge0,hst0,hr0⟩ (dO rfl) (jU rfl) rfl rfl ?_)
   rintro⟨⟨g,re⟩,hge,hgr,hre⟩;simp only at hge hgr hre;show Ok PP _ [(6,.int .i64 (k:Nat)),(7,d_ v),(8,.int .i64 ((p+2:Nat))),(9,.own 200),(10,.own 63),(11,.int .i64 (i:Nat)),(13,.int .u64 (g:Nat)),(14,.int .u64 (re:Nat))] [(200,.row 1 230 (bZ us) (a_ _)),(63,.row 1 230 (bZ qs) (a_ _))] _ _;have hgm:g<=g*v1:=Nat.le_mul_of_pos_right _ (by omega);have hg64:g<18446744073709551616:=by omega
   refine .tw (ι:={_u:Unit//4294967296<=g\/re*4294967296+u0<g*v2}) (fun _=>[(6,.int .i64 (k:Nat)),(7,d_ v),(8,.int .i64 ((p+2:Nat))),(9,.own 200),(10,.own 63),(11,.int .i64 (i:Nat)),(13,.int .u64 (g:Nat)),(14,.int .u64 (re:Nat))]) (fun _=>[(200,.row 1 230 (bZ us) (a_ _)),(63,.row 1 230 (bZ qs) (a_ _))]) ?_ ?_
   ·by_cases hgB:4294967296<=g
    ·refine .c_ cj (.mv rfl<|.cm rfl rfl (H8 (by omega))<|.mv rfl<|.eh rfl rfl rfl rfl<|.eh rfl rfl rfl rfl<|.eh rfl rfl rfl rfl<|.eh rfl rfl rfl rfl<|.eh rfl rfl rfl rfl<|.eh rfl rfl rfl rfl<|.eh rfl rfl rfl rfl<|.eh rfl rfl rfl rfl<|.eh rfl rfl rfl rfl<|.eh rfl rfl rfl rfl<|.eh rfl rfl rfl rfl<|.eh rfl rfl rfl rfl<|.eh rfl rfl rfl rfl<|.eh rfl rfl rfl rfl<|.eh rfl rfl rfl rfl<|.eh rfl rfl rfl rfl<|.eh rfl rfl rfl rfl<|.eh rfl rfl rfl rfl<|.eh rfl rfl rfl rfl<|.eh rfl rfl rfl rfl<|.aZ rfl rfl rfl<|.nil) rfl (by kernel_rfl) ?_;exact .cT rfl (.skip fun _ _ hs=>hs.to ⟨(),.inl hgB⟩ (dO rfl) (jU rfl) rfl rfl)
    ·have hprod:g*v2<18446744073709551616:=by
      have:g*v2<=4294967295*4294967295:=Nat.mul_le_mul (by omega) (by omega);omega
     have hng:¬(false=true):=by decide
     by_cases ht:re*4294967296+u0<g*v2
     ·refine .c_ cj (.mv rfl<|.cm rfl rfl (Fv (by omega))<|.mv rfl<|.cx rfl rfl rfl hng<|.mv rfl<|.cx rfl rfl rfl hng<|.mv rfl<|.cx rfl rfl rfl hng<|.mv rfl<|.cx rfl rfl rfl hng<|.ar rfl rfl s4<|.cx rfl rfl rfl hng<|.qp rfl rfl aB (by omega) (by omega) (bH (i:=p) (d:=v2) gv2)<|.cx rfl rfl rfl hng<|.i4 rfl bf<|.cx rfl rfl rfl hng<|.cv rfl bI (cg (by omega))<|.cx rfl rfl rfl hng<|.ar rfl rfl (sH (n:=g) (d:=v2) hprod)<|
       .cx rfl rfl rfl hng<|.mv rfl<|.cx rfl rfl rfl hng<|.sh rfl rfl (AP (n:=re) hre)<|.cx rfl rfl rfl hng<|.mv rfl<|.cx rfl rfl rfl hng<|.mv rfl<|.cx rfl rfl rfl hng<|.mv rfl<|.cx rfl rfl rfl hng<|.ar rfl rfl (eG (n:=i) (d:=p+2) (by omega))<|.cx rfl rfl rfl hng<|.ar rfl rfl s2<|.cx rfl rfl rfl hng<|.q6 (n:=(aL x).length+1) (m':=1) rfl rfl rfl aB hrl rfl rfl (by omega) (by omega)<|.cx rfl rfl rfl hng<|.Aa rfl rfl bf (d:=.int .u32 u0) (by rw[Int.toNat_natCast,Nat.mul_one];exact bH g0)<|.cx rfl rfl rfl hng<|.cv rfl bI (cg (by omega))<|.cx rfl rfl rfl hng<|.ar rfl rfl (xm hre l0)<|.cx rfl rfl rfl hng<|.cm rfl rfl (HW (by omega))<|.aV rfl hng rfl<|.nil) rfl (by kernel_rfl) ?_
      exact .cT rfl (.skip fun _ _ hs=>hs.to ⟨(),.inr ht⟩ (dO rfl) (jU rfl) rfl rfl)
     ·refine .c_ cj (.mv rfl<|.cm rfl rfl (Fv (by omega))<|.mv rfl<|.cx rfl rfl rfl hng<|.mv rfl<|.cx rfl rfl rfl hng<|.mv rfl<|.cx rfl rfl rfl hng<|.mv rfl<|.cx rfl rfl rfl hng<|.ar rfl rfl s4<|.cx rfl rfl rfl hng<|.qp rfl rfl aB (by omega) (by omega) (bH (i:=p) (d:=v2) gv2)<|.cx rfl rfl rfl hng<|.i4 rfl bf<|.cx rfl rfl rfl hng<|.cv rfl bI (cg (by omega))<|.cx rfl rfl rfl hng<|.ar rfl rfl (sH (n:=g) (d:=v2) hprod)<|
       .cx rfl rfl rfl hng<|.mv rfl<|.cx rfl rfl rfl hng<|.sh rfl rfl (AP (n:=re) hre)<|.cx rfl rfl rfl hng<|.mv rfl<|.cx rfl rfl rfl hng<|.mv rfl<|.cx rfl rfl rfl hng<|.mv rfl<|.cx rfl rfl rfl hng<|.ar rfl rfl (eG (n:=i) (d:=p+2) (by omega))<|.cx rfl rfl rfl hng<|.ar rfl rfl s2<|.cx rfl rfl rfl hng<|.q6 (n:=(aL x).length+1) (m':=1) rfl rfl rfl aB hrl rfl rfl (by omega) (by omega)<|.cx rfl rfl rfl hng<|.Aa rfl rfl bf (d:=.int .u32 u0) (by rw[Int.toNat_natCast,Nat.mul_one];exact bH g0)<|.cx rfl rfl rfl hng<|.cv rfl bI (cg (by omega))<|.cx rfl rfl rfl hng<|.ar rfl rfl (xm hre l0)<|.cx rfl rfl rfl hng<|.cm rfl rfl (Hu (by omega))<|.aV rfl hng rfl<|.nil) rfl (by kernel_rfl) ?_
      have hS:Stood us v i p g:=hwst hW hge hgr (by omega) (by omega);exact .cF rfl (.exit fun _ _ hs=>hs.to ⟨g,hS⟩ (dO rfl) (jU rfl) rfl rfl)
   ·rintro⟨_,ht⟩;have hlt:val (us.drop i)/val v<g:=hwdec hW hge hgr ht;have hgpos:0<g:=Nat.lt_of_le_of_lt (Nat.zero_le _) hlt;have hge2:val (us.drop i)/val v<=g-1:=Nat.le_sub_one_of_lt hlt;have hnx:=z6 hgr hgpos;show Ok PP _ [(6,.int .i64 (k:Nat)),(7,d_ v),(8,.int .i64 ((p+2:Nat))),(9,.own 200),(10,.own 63),(11,.int .i64 (i:Nat)),(13,.int .u64 (g:Nat)),(14,.int .u64 (re:Nat))] [(200,.row 1 230 (bZ us) (a_ _)),(63,.row 1 230 (bZ qs) (a_ _))] _ _;have s5:pH .sub .u64 (g:Int) 1=some ((g-1:Nat):Int):=congrArg some (wrap_u64 (by omega) (by omega));refine .block ?_;refine .al (.mv rfl<|.ar rfl rfl s5<|.aq rfl<|.nil) rfl ?_;refine .al (.mv rfl<|.mv rfl<|.mv rfl<|.ar rfl rfl s3<|.qp rfl rfl aB (by omega) (by omega) (bH (i:=p+1) (d:=v1) gv1)<|.i4 rfl bf<|.cv rfl bI (cg (by omega))<|.ar rfl rfl (sL (n:=re) (d:=v1) (by omega))<|.aq rfl<|.nil) rfl ?_;by_cases hbk:4294967296<=re+v1
    ·refine .al (.mv rfl<|.cm rfl rfl (H8 (by omega))<|.nil) rfl ?_;have hS:Stood us v i p (g-1):=hwbrk hW hge2 hnx hbk;exact .cT rfl (.exit fun _ _ hs=>hs.to ⟨g-1,hS⟩ (dO rfl) (jU rfl) rfl rfl)
    ·refine .al (.mv rfl<|.cm rfl rfl (Fv (by omega))<|.nil) rfl ?_;exact .cF rfl (.skip fun _ _ hs=>hs.round (m:=g) ⟨(g-1,re+v1),hge2,hnx,by omega⟩ (by simp only;omega) (dO rfl) (jU rfl) rfl rfl)
  ·rintro⟨g,hst⟩;show Ok PP _ [(6,.int .i64 (k:Nat)),(7,d_ v),(8,.int .i64 ((p+2:Nat))),(9,.own 200),(10,.own 63),(11,.int .i64 (i:Nat)),(13,.int .u64 (g:Nat))] [(200,.row 1 230 (bZ us) (a_ _)),(63,.row 1 230 (bZ qs) (a_ _))] _ _;have hgl:g<4294967296:=hst.lt;have hilv:i+v.length<us.length:=by rw[hvl'];exact dw
   have humax:us.length<=2199023255552:=by rw[hul];omega
   have hKt:=Hg us v g i hI.lu hvo hgl hilv humax;have htl:=vr us v g i;have htk:=z8 (us:=us) (v:=v) (t:=g) (i:=i) (by omega);have hto:=zk (v:=v) (t:=g) (i:=i) hI.lu;refine .tw (ι:={s:List Nat×Nat//s.2=val (us.drop i)/V/\dF s.1/\s.1.length=us.length/\val (s.1.drop i)=val (us.drop i)%V/\s.1.take i=us.take i}) (fun s=>[(6,.int .i64 (k:Nat)),(7,d_ v),(8,.int .i64 ((p+2:Nat))),(9,.own 200),(10,.own 63),(11,.int .i64 (i:Nat)),(13,.int .u64 (s.1.2:Nat))]) (fun s=>[(200,.row 1 230 (bZ s.1.1) (a_ _)),(63,.row 1 230 (bZ qs) (a_ _))]) ?_ ?_
   ·rcases pU.step hW hst with⟨b0,hq,hmod⟩|⟨b1,hq,hmod⟩
    ·rw[show(jg g v 0 0 (us.drop i) !=0)=false from by rw[b0];rfl]at hKt;rw[hvv]at hq hmod;refine .al (.mv rfl<|.mv rfl<|.mv rfl<|.mv rfl<|.C4 (hl:=a_ us) (hl':=a_ (taken us v g i)) hKt rfl ⟨rfl,rfl,rfl,trivial⟩ rfl<|.nil) rfl ?_;exact .cF rfl (.skip fun _ _ hs=>hs.to ⟨(taken us v g i,g),hq,hto,htl,hmod,htk⟩ (dO rfl) (jU rfl) rfl rfl)
    ·rw[show(jg g v 0 0 (us.drop i) !=0)=true from by rw[b1];rfl]at hKt;rw[hvv]at hq hmod;have hgpos:0<g:=by rw[hq];exact Nat.succ_pos _
     have s5:pH .sub .u64 (g:Int) 1=some ((g-1:Nat):Int):=congrArg some (wrap_u64 (by omega) (by omega));have hKg:=HL (taken us v g i) v i hto hvo (by rw[htl];exact hilv) (by rw[htl];exact humax);have hgk:=BS (taken us v g i) v i;have hgt:=z_ (us:=taken us v g i) (v:=v) (i:=i) (by omega);have hgo:=zg (v:=v) (i:=i) hto;refine .al (.mv rfl<|.mv rfl<|.mv rfl<|.mv rfl<|.C4 (hl:=a_ us) (hl':=a_ (taken us v g i)) hKt rfl ⟨rfl,rfl,rfl,trivial⟩ rfl<|.nil) rfl ?_;refine .cT rfl ?_;refine .al (.mv rfl<|.ar rfl rfl s5<|.aq rfl<|.nil) rfl ?_;refine .region (.mv rfl<|.mv rfl<|.mv rfl<|.C4 (hl:=a_ (taken us v g i)) (hl':=a_ (given (taken us v g i) v i)) hKg rfl ⟨rfl,rfl,trivial⟩ rfl<|.nil) rfl fun _ _ hs=>?_;exact hs.to ⟨(given (taken us v g i) v i,g-1),by simp only;rw[hq];rfl,hgo,by simp only;rw[hgk,htl],hmod,by simp only;rw[hgt,htk]⟩ (dO rfl) (jU rfl) rfl rfl
   ·rintro⟨⟨us',q⟩,hq,hlu',hlen',hmod,htk'⟩;simp only at hq hlu' hlen' hmod htk';show Ok PP _ [(6,.int .i64 (k:Nat)),(7,d_ v),(8,.int .i64 ((p+2:Nat))),(9,.own 200),(10,.own 63),(11,.int .i64 (i:Nat)),(13,.int .u64 (q:Nat))] [(200,.row 1 230 (bZ us') (a_ _)),(63,.row 1 230 (bZ qs) (a_ _))] _ _;have hqB:q<4294967296:=by rw[hq,←hvv];exact hW.Kt
    have hVp:0<V:=by rw[←hvv];exact Nat.lt_of_le_of_lt (Nat.zero_le _) hW.less
    have hD:=hI.step hlu' hlen' hmod htk' hq hqB hVp (by omega);have hqrl:(bZ qs).length=m*1:=by rw[bT,hql];omega
    have him:i<m:=by rw[←hql];exact hiq
    have hmx:m<9223372036854775808:=by omega
    have hix:i<9223372036854775808:=by omega
    refine .region (.mv rfl<|.mv rfl<|.mv rfl<|.cv rfl fe (gV hqB)<|.q6 (n:=m) (m':=1) rfl rfl rfl aB hqrl rfl rfl (by omega) (by omega)<|.A2 rfl rfl rfl bf rfl rfl (by rw[hqrl];omega)<|.nil) rfl fun _ _ hs=>?_;refine Ok.on ?_ _ _ hs;refine .region (.mv rfl<|.ar rfl rfl (kW hix)<|.aq rfl<|.nil) rfl fun _ _ hs=>?_;exact hs.round (m:=i+1) ⟨(us',qs.set i q,i),hD⟩ (by simp) (dO rfl) ⟨⟨_,rfl,.refl _⟩,⟨_,rfl,.of_eq (eP (fA ..))⟩,trivial⟩ rfl rfl
end Go.Am
namespace Go.Am
open Go.RowKit
def sm(x:Nat):Prop:=bO x<=4398046511104
instance (x:Nat):Decidable (sm x):=inferInstanceAs (Decidable (bO x<=4398046511104))
theorem mm(x:Nat):(aL x).length<=bO x/32+1:=by
 refine fC ?_;have h1:=nh x;have h2:(2:Nat)^bO x<=2^(32*(bO x/32+1)):=Nat.pow_le_pow_right (by omega) (by omega);rw[Nat.pow_mul]at h2;exact Nat.lt_of_lt_of_le h1 h2
theorem Fm{x:Nat}(h:sm x):(aL x).length<=549755813888:=by
 have:=mm x;unfold sm at h;omega
theorem ir{x:Nat}(h:sm x):(aL x).length<=1099511627776:=by have:=Fm h;omega
def nj(n:Int):Option Nat:=cl (0<=n/\n<18446744073709551616) (some n.toNat)
theorem uZ{a:Int}{r:Nat}(h:nj a=some r):bh PP 145 [] [D.int .u64 a] [] (ao r):=by
 obtain⟨⟨h0,h1⟩,h⟩:=av h;injection h with h;subst h;have:=ta a.toNat (by omega);rw[Int.toNat_of_nonneg h0]at this;exact this.gen
def vG(a b:Nat):Option Nat:=cl (sm a/\sm b) (some (a+b))
theorem Bm{a b r:Nat}(h:vG a b=some r):bh PP 212 [] [ao a,ao b] [] (ao r):=by
 obtain⟨⟨h0,h1⟩,h⟩:=av h;injection h with h;subst h;exact(GO a b (ir h0) (ir h1)).gen
def xR(a b:Nat):Option Nat:=cl (b<=a/\sm a) (some (a-b))
theorem DO{a b r:Nat}(h:xR a b=some r):bh PP 215 [] [ao a,ao b] [] (ao r):=by
 obtain⟨⟨h0,h1⟩,h⟩:=av h;injection h with h;subst h;exact(Jb a b h0 (ir h1)).gen
def qI(a b:Nat):Option Nat:=cl (sm a/\sm b) (some (a*b))
theorem uc{a b r:Nat}(h:qI a b=some r):bh PP 150 [] [ao a,ao b] [] (ao r):=by
 obtain⟨⟨h0,h1⟩,h⟩:=av h;injection h with h;subst h;exact(G9 a b (ir h0) (ir h1)).gen
def vA(a b:Nat):Option Int:=cl (sm a/\sm b) (some (fK a b))
theorem AN{a b:Nat}{r:Int}(h:vA a b=some r):bh PP 224 [] [ao a,ao b] [] (D.int .i64 r):=by
 obtain⟨⟨h0,h1⟩,h⟩:=av h;injection h with h;subst h;exact(Ef a b (ir h0) (ir h1)).gen
def zD(a:Nat):Option Int:=cl (sm a) (some (bO a:Int))
theorem Hk{a:Nat}{r:Int}(h:zD a=some r):bh PP 186 [] [ao a] [] (D.int .i64 r):=by
 obtain⟨h0,h⟩:=av h;injection h with h;subst h;exact(HX a (ir h0)).gen
def np(a:Nat):Option Int:=cl ((aL a).length<=2) (some (a:Int))
theorem xn{a:Nat}{r:Int}(h:np a=some r):bh PP 185 [] [ao a] [] (D.int .u64 r):=by
 obtain⟨h0,h⟩:=av h;injection h with h;subst h;exact(Gv a h0).gen
def vB(a:Nat)(k:Int):Option Nat:=cl (sm a/\0<=k/\k<35184372088832) (some (a*2^k.toNat))
theorem DN{a:Nat}{k:Int}{r:Nat}(h:vB a k=some r):bh PP 166 [] [ao a,D.int .i64 k] [] (ao r):=by
 obtain⟨⟨h0,h1,h2⟩,h⟩:=av h;injection h with h;subst h;have:=Ez a k.toNat (ir h0) (by omega);rw[Int.toNat_of_nonneg h1]at this;exact this.gen
def lY(a b:Nat):Option (Nat×Nat):=cl (b≠0/\sm a/\sm b) (some (a/b,a%b))
theorem rW{a b q r:Nat}(h:lY a b=some (q,r)):bh PP 167 [] [ao a,ao b] [] (D.ig [ao q,ao r]):=by
 obtain⟨⟨h0,h1,h2⟩,h⟩:=av h;cases h;have e1:(aL a).length<=549755813888:=by have:=mm a;unfold sm at h1;omega
 have e2:(aL b).length<=549755813888:=by have:=mm b;unfold sm at h2;omega
 exact(Jh a b h0 e1 e2).gen
def wP(a:Nat)(d:Int):Option (Nat×Nat):=cl (sm a/\0<d/\d<4294967296) (some (a/d.toNat,a%d.toNat))
theorem E4{a q r:Nat}{d:Int}(h:wP a d=some (q,r)):bh PP 225 [] [ao a,D.int .u32 d] [] (D.ig [ao q,ao r]):=by
 obtain⟨⟨h0,h1,h2⟩,h⟩:=av h;cases h;have:=AM a d.toNat (by omega) (by omega) (ir h0);rw[Int.toNat_of_nonneg (by omega)]at this;exact this.gen
def A_(a:Nat)(k:Int):Option Nat:=cl (sm a/\0<=k/\k<35184372088832) (some (a/2^k.toNat))
theorem IF{a:Nat}{k:Int}{r:Nat}(h:A_ a k=some r):bh PP 229 [] [ao a,D.int .i64 k] [] (ao r):=by
 obtain⟨⟨h0,h1,h2⟩,h⟩:=av h;injection h with h;subst h;have:=G0 a k.toNat (ir h0) (by omega);rw[Int.toNat_of_nonneg h1]at this;exact this.gen
instance (l:List UInt8):Decidable (u9 l):=inferInstanceAs (Decidable (∀b∈l,_))
def nK(s:List UInt8):Option Nat:=cl (s.length<=1000000/\u9 s) (some (kX s))
theorem zO{s:List UInt8}{r:Nat}(h:nK s=some r):bh PP 148 [] [cw s] [] (ao r):=by
 obtain⟨⟨h0,h1⟩,h⟩:=av h;injection h with h;subst h;exact(Bt ⟨s.toArray⟩ h0 h1).gen
theorem JB{k:IntKind}{n m:Int}(h:0<=m):ym .shl k n m=some (k.wrap (n*2^(min m.toNat k.bits))):=by
 unfold ym;rw[if_neg (by omega)]
theorem IW{k:IntKind}{n m:Int}(h:0<=m):ym .shr k n m=some (n.fdiv (2^(min m.toNat k.bits))):=by
 unfold ym;rw[if_neg (by omega)]
theorem xN{k:IntKind}{n m:Int}(h:m≠0):pH .quo k n m=some (k.wrap (n.tdiv m)):=if_neg h
theorem tl{k:IntKind}{n m:Int}(h:m≠0):pH .rem k n m=some (n.tmod m):=if_neg h
section
variable {P:Program} {os:List Oper} {c:Ctx} {T T':List (Nat×D)} {H H':List (Nat×Hp)} {sps:List Spec}
variable {ops:Array Oper} {dst:Option Nat} {ty:TypeId} {pos:String} {aft:Array Edge}
theorem an.y7{t:TypeId}{x:Operand}{a:Nat}(hx:ev T x=some (ao a))(ht:isSlice P t=true)(hr:an P ops c os (bC T dst (.int .i64 (aL a).length)) H sps T' H'):
  an P ops c (⟨dst,.call {callee:=.builtin .len,args:=#[x],argTypes:=#[t]},ty,pos,aft,none⟩::os) T H (ps [(x,ao a)] (.int .i64 (aL a).length)::sps) T' H':=.ln (hl:=a_ _) hx ht hr
theorem an.Jw{t:TypeId}{x y:Operand}{a d:Nat}{k:IntKind}{z:Int}(hx:ev T x=some (ao a))(hy:ev T y=some (.int k z))(ht:sle P t=some 1)(h:ix (aL a) z=some d)
  (hr:an P ops c os (bC T dst (.ptr [.int .u32 d] rfl)) H sps T' H'):
  an P ops c (⟨dst,.indexAddr t x y,ty,pos,aft,none⟩::os) T H (ps [(x,ao a),(y,.int k z)] (.ptr [.int .u32 d] rfl)::sps) T' H':=
 .qp (hl:=a_ _) hx hy ht (af h).1 (by have:=bq h;have:=(af h).1;omega) (bH (af h).2) hr
def I8(T:List (Nat×D)):List (Nat×Operand×D×List D)->Prop
 |[]=>True
 |(_,x,d,_)::q=>ev T x=some d/\I8 T q
theorem sX{T:List (Nat×D)}:∀{q:List (Nat×Operand×D×List D)},I8 T q->∀x∈qs q,ev T x.1=some x.2
 |[],_,x,hx=>by cases hx
 |(o,y,d,m)::q,h,x,hx=>by
  simp only[qs,List.map_cons,List.mem_cons]at hx;rcases hx with rfl|hx
  ·exact h.1
  ·exact sX h.2 x hx
theorem an.ox{t:TypeId}{parts:List (Nat×Operand)}{z:List D}{pl:List (Nat×Nat)}(l:List D)(q:List (Nat×Operand×D×List D))(hz:BV P t=some z)(hp:Fu P t=some pl)(hq:jt pl z.length parts q)(he:I8 T q)(hle:se (over z q) l)
  (hr:an P ops c os (bC T dst (.agg l)) H sps T' H'):
  an P ops c (⟨dst,.build t parts.toArray,ty,pos,aft,none⟩::os) T H (ps (qs q) (.agg l)::sps) T' H':=.Ky q hz hp hq (sX he) hle hr
theorem an.Cw{α:Type}{e:ak α}{t te:TypeId}{parts:List (Nat×Operand)}{m bt n:Nat}{z:List D}(xs:List α)(q:List (Nat×Operand×D×List D))(hm:nF P t=some (te,m,bt,z))(hmn:m=e.n)(hs:Nat.ble (n*m) 16777216=true)(hn0:Nat.blt 0 n=true)(hq:jt (CI m 0 n) (n*m) parts q)(he:I8 T q)
  (hle:over (List.replicate n z).flatten q=flat e xs)(hln:xs.length=n)
  (hr:an P ops c os (bC T dst (ai e xs)) H sps T' H'):
  an P ops c (⟨dst,.buildSlice t n parts.toArray,ty,pos,aft,none⟩::os) T H (ps (qs q) (ai e xs)::sps) T' H':=.KG xs q hm hmn hs hn0 hq (sX he) hle hln hr
theorem an.Kv{α:Type}{e:ak α}{t te:TypeId}{r:Nat}{parts:List (Nat×Operand)}{m bt n:Nat}{z:List D}(xs:List α)(q:List (Nat×Operand×D×List D))(hm:nF P t=some (te,m,bt,z))(hmn:m=e.n)(hs:Nat.ble (n*m) 16777216=true)(hn0:Nat.blt 0 n=true)(hq:jt (CI m 0 n) (n*m) parts q)(he:I8 T q)
  (hle:over (List.replicate n z).flatten q=flat e xs)(hln:xs.length=n)(hf:ah H r=none)
  (hr:an P ops c os ((r,.own r)::T) ((r,aY e te xs)::H) sps T' H'):
  an P ops c (⟨some r,.buildSlice t n parts.toArray,ty,pos,aft,none⟩::os) T H (rws (qs q) r (aY e te xs)::sps) T' H':=.KN xs q hm hmn hs hn0 hq (sX he) hle hln hf hr
end
end Go.Am
namespace Go.Am
open Go.RowKit
set_option maxRecDepth 100000
noncomputable section
def gD(v18:Int)(v19:Int):Option (St (Int×Int) Int):=(if(v19 !=0)=true then cl ((v19:Int)≠0) (some (St.next (v19,(Int.tmod v18 v19))))else some (St.done v18))
def dN(v3:Nat)(v4:Nat):Option (St (Nat×Nat) (Ex Nat Nat)):=(if(decide (((aL v4).length:Int)>0))=true then((if(decide (((aL v3).length:Int)<=2))=true then(if(decide (((aL v4).length:Int)<=2))=true then(np v3).bind fun v14=>(np v4).bind fun v16=>(Loop (fun(s:Int×Int)=>gD s.1 s.2) (v14,v16)).bind fun v26=>(nj v26).bind fun v27=>some (Ex.ret v27)else some (Ex.cf ()))else some (Ex.cf ()))).bind fun o10=>(match o10 with|Ex.cf ()=>(lY v3 v4).bind fun(v29,v30)=>some (St.next (v4,v30))|Ex.ret r32=>some (St.done (Ex.ret r32)))else some (St.done (Ex.cf v3)))
def oM(a1:Nat)(a2:Nat):Option Nat:=(Loop (fun(s:Nat×Nat)=>dN s.1 s.2) (a1,a2)).bind fun o5=>(match o5 with|Ex.cf v33=>some v33|Ex.ret r34=>some r34)
theorem Br{a1:Nat}{a2:Nat}{r35:Nat}(h:oM a1 a2=some r35):bh PP 214 [] [ao a1,ao a2] [] (ao r35):=by
 unfold oM at h;refine .of Go.Proofs.Tryz.func214 rfl (by kernel_rfl) rfl rfl rfl rfl rfl rfl (fun A w0 L b=>?_);show Ok PP _ [(0,ao a1),(1,ao a2)] [] _ _;refine .al (.aq rfl<|.nil) rfl ?_;obtain⟨o5,hl6,h⟩:=bind_some h;refine .cd (fun i=>o5=Ex.cf i) (fun(i:Nat)=>[(0,ao i)]) (fun(i:Nat)=>[]) ?_ ?_
 ·have ho1:=h;refine .block (.bV (fun(s:Nat×Nat)=>[(0,ao s.1),(1,ao s.2)]) (fun(s:Nat×Nat)=>[]) hl6 (.of rfl) trivial rfl rfl ?_);rintro⟨v3,v4⟩ st7 hb8;have h:dN v3 v4=some st7:=hb8;unfold dN at h
  try dsimp only
  refine .sq ?_;refine .al (.mv rfl<|.y7 rfl aw<|.cm rfl rfl rfl<|.nil) rfl ?_;by_cases c9:(decide (((aL v4).length:Int)>0))=true
  ·replace h:=aa c9 h;refine .cp rfl c9 ?_;refine .skip (Ok.on ?_);refine .block ?_;obtain⟨o10,hp11,h⟩:=bind_some h;refine .cd (fun i=>o10=Ex.cf i) (fun(i:Unit)=>[(0,ao v3),(1,ao v4)]) (fun(i:Unit)=>[]) ?_ ?_
   ·have ho2:=h;have h:=hp11;by_cases c12:(decide (((aL v3).length:Int)<=2))=true
    ·replace h:=aa c12 h;refine .al (.mv rfl<|.y7 rfl aw<|.cm rfl rfl rfl<|.mv rfl<|.aO rfl rfl rfl c12<|.mv rfl<|.aO rfl rfl rfl c12<|.y7 rfl aw<|.aO rfl rfl rfl c12<|.cm rfl rfl rfl<|.aZ rfl c12 rfl<|.nil) rfl ?_;by_cases c13:(decide (((aL v4).length:Int)<=2))=true
     ·replace h:=aa c13 h;refine .cp rfl c13 ?_;obtain⟨v14,e15,h⟩:=bind_some h;obtain⟨v16,e17,h⟩:=bind_some h;refine .al (.mv rfl<|.ag (xn e15) ⟨rfl,trivial⟩ trivial trivial<|.mv rfl<|.ag (xn e17) ⟨rfl,trivial⟩ trivial trivial<|.aq rfl<|.aq rfl<|.nil) rfl ?_;obtain⟨v26,hl21,h⟩:=bind_some h;refine .cd (fun i=>v26=i) (fun(i:Int)=>[(5,D.int .u64 i)]) (fun(i:Int)=>[]) ?_ ?_
      ·have ho3:=h;refine .block (.bV (fun(s:Int×Int)=>[(5,D.int .u64 s.1),(6,D.int .u64 s.2)]) (fun(s:Int×Int)=>[]) hl21 (.of rfl) trivial rfl rfl ?_);rintro⟨v18,v19⟩ st22 hb23;have h:gD v18 v19=some st22:=hb23;unfold gD at h
       try dsimp only
       refine .sq ?_;refine .al (.mv rfl<|.cm rfl rfl rfl<|.nil) rfl ?_;by_cases c24:(v19 !=0)=true
       ·replace h:=aa c24 h;refine .cp rfl c24 ?_;refine .skip (Ok.on ?_);refine .block ?_;obtain⟨k25,h⟩:=av h;refine .db cj (.mv rfl<|.mv rfl<|.mv rfl<|.ar rfl rfl (tl k25)<|.aq rfl<|.aq rfl<|.nil) rfl (by kernel_rfl) (fun _ _ hs=>⟨(v19,(Int.tmod v18 v19)),(sj h),hs.sub (.of rfl) trivial rfl rfl⟩)
       ·replace h:=ab c24 h;refine .ct rfl c24 ?_;refine .exit (fun _ _ hs=>⟨_,(sj h),fun e=>⟨v18,e.symm,hs.sub (.of rfl) trivial rfl rfl⟩⟩)
      ·rintro _ rfl
       try dsimp only
       obtain⟨v27,e28,h⟩:=bind_some h;refine .al (.mv rfl<|.ag (uZ e28) ⟨rfl,trivial⟩ trivial trivial<|.aq rfl<|.nil) rfl ?_;cases h;have h:=ho2;refine .aQ (Hi:=[]) (Ho:=[]) (b:=b) (fn:=Go.Proofs.Tryz.f214) (d:=ao v27) (fun _ _ hb=>by exact⟨_,(sj h),fun e=>by subst e;have h:=ho1;cases h;exact hb⟩) rfl (.t1 (.tmp rfl)) (.refl _) trivial trivial
     ·replace h:=ab c13 h;refine .ct rfl c13 ?_;refine .skip (fun _ _ hs=>⟨(),(sj h),hs.sub (.of rfl) trivial rfl rfl⟩)
    ·replace h:=ab c12 h;refine .al (.mv rfl<|.y7 rfl aw<|.cm rfl rfl rfl<|.mv rfl<|.aM rfl rfl rfl c12<|.aM rfl rfl rfl c12<|.aM rfl rfl rfl c12<|.aV rfl c12 rfl<|.nil) rfl ?_;refine .ct rfl (by decide) ?_;refine .skip (fun _ _ hs=>⟨(),(sj h),hs.sub (.of rfl) trivial rfl rfl⟩)
   ·rintro⟨⟩ rfl
    try dsimp only
    obtain⟨⟨v29,v30⟩,e31,h⟩:=bind_some h;refine .al (.mv rfl<|.mv rfl<|.ag (rW e31) ⟨rfl,rfl,trivial⟩ trivial trivial<|.mv rfl<|.ext rfl rfl<|.ext rfl rfl<|.aq rfl<|.aq rfl<|.nil) rfl ?_;refine .region (.mv rfl<|.mv rfl<|.aq rfl<|.aq rfl<|.nil) rfl (fun _ _ hs=>⟨(v4,v30),(sj h),hs.sub (.of rfl) trivial rfl rfl⟩)
  ·replace h:=ab c9 h;refine .ct rfl c9 ?_;refine .exit (fun _ _ hs=>⟨_,(sj h),fun e=>⟨v3,e.symm,hs.sub (.of rfl) trivial rfl rfl⟩⟩)
 ·rintro v33 rfl
  try dsimp only
  refine .al (.mv rfl<|.aq rfl<|.nil) rfl ?_;cases h;refine .aQ (fun _ _ hb=>hb) rfl (.t1 (.tmp rfl)) (.refl _) trivial trivial
def iY(a1:Nat)(v9:Nat):Option (St Nat Nat):=(lY a1 v9).bind fun(v14,v15)=>(vG v9 v14).bind fun v17=>(A_ v17 1).bind fun v19=>(vA v19 v9).bind fun v21=>(if(decide (v21>=0))=true then some (St.done v9)else some (St.next v19))
def nn(a1:Nat):Option Nat:=(if(((aL a1).length:Int)==0)=true then some 0 else(nj 1).bind fun v3=>(zD a1).bind fun v5=>(vB v3 (IntKind.i64.wrap (Int.tdiv (IntKind.i64.wrap (v5+1)) 2))).bind fun v7=>(Loop (fun(s:Nat)=>iY a1 s) v7).bind fun r24=>some r24)
theorem zW{a1:Nat}{r25:Nat}(h:nn a1=some r25):bh PP 170 [] [ao a1] [] (ao r25):=by
 unfold nn at h;refine .of Go.Proofs.Tryz.func170 rfl (by kernel_rfl) rfl rfl rfl rfl rfl rfl (fun A w0 L b=>?_);show Ok PP _ [(0,ao a1)] [] _ _;refine .al (.aq rfl<|.nil) rfl ?_;refine .sq ?_;refine .al (.mv rfl<|.y7 rfl aw<|.cm rfl rfl rfl<|.nil) rfl ?_;by_cases c2:(((aL a1).length:Int)==0)=true
 ·replace h:=aa c2 h;refine .cp rfl c2 ?_;refine .al (.aq rfl<|.nil) rfl ?_;cases h;refine .aQ (fun _ _ hb=>hb) rfl (.t1 (.tmp rfl)) (bm) trivial trivial
 ·replace h:=ab c2 h;refine .ct rfl c2 ?_;refine .skip (Ok.on ?_);obtain⟨v3,e4,h⟩:=bind_some h;obtain⟨v5,e6,h⟩:=bind_some h;obtain⟨v7,e8,h⟩:=bind_some h;refine .al (.ag (uZ e4) ⟨rfl,trivial⟩ trivial trivial<|.mv rfl<|.ag (Hk e6) ⟨rfl,trivial⟩ trivial trivial<|.ar rfl rfl rfl<|.ar rfl rfl (xN (by decide))<|.ag (DN e8) ⟨rfl,rfl,trivial⟩ trivial trivial<|.aq rfl<|.nil) rfl ?_;obtain⟨o10,hl11,h⟩:=bind_some h;have ho1:=h;refine .block (.bV (fun(s:Nat)=>[(0,ao a1),(3,ao s)]) (fun(s:Nat)=>[]) hl11 (.of rfl) trivial rfl rfl ?_);rintro v9 st12 hb13;have h:iY a1 v9=some st12:=hb13;unfold iY at h
  try dsimp only
  refine .block ?_;obtain⟨⟨v14,v15⟩,e16,h⟩:=bind_some h;refine .al (.mv rfl<|.mv rfl<|.ag (rW e16) ⟨rfl,rfl,trivial⟩ trivial trivial<|.mv rfl<|.ext rfl rfl<|.ext rfl rfl<|.aq rfl<|.aq rfl<|.nil) rfl ?_;obtain⟨v17,e18,h⟩:=bind_some h;obtain⟨v19,e20,h⟩:=bind_some h;refine .al (.mv rfl<|.mv rfl<|.ag (Bm e18) ⟨rfl,rfl,trivial⟩ trivial trivial<|.ag (IF e20) ⟨rfl,rfl,trivial⟩ trivial trivial<|.aq rfl<|.nil) rfl ?_;refine .sq ?_;obtain⟨v21,e22,h⟩:=bind_some h;refine .al (.mv rfl<|.mv rfl<|.ag (AN e22) ⟨rfl,rfl,trivial⟩ trivial trivial<|.cm rfl rfl rfl<|.nil) rfl ?_;by_cases c23:(decide (v21>=0))=true
  ·replace h:=aa c23 h;refine .cp rfl c23 ?_;refine .al (.mv rfl<|.aq rfl<|.nil) rfl ?_;refine .aQ (Hi:=[]) (Ho:=[]) (b:=b) (fn:=Go.Proofs.Tryz.f170) (d:=ao v9) (fun _ _ hb=>by exact⟨_,(sj h),fun e=>by subst e;have h:=ho1;cases h;exact hb⟩) rfl (.t1 (.tmp rfl)) (.refl _) trivial trivial
  ·replace h:=ab c23 h;refine .ct rfl c23 ?_;refine .skip (Ok.on ?_);refine .region (.mv rfl<|.aq rfl<|.nil) rfl (fun _ _ hs=>⟨v19,(sj h),hs.sub (.of rfl) trivial rfl rfl⟩)
def fh(v2:Int)(v3:Int)(v4:List Int):Option (St (Int×Int×(List Int)) (List Int)):=(if(decide (v2<v3))=true then(ix v4 v3).bind fun v10=>(ix v4 v2).bind fun v12=>(ix (v4.set v2.toNat v10) v3).bind fun v14=>some (St.next ((IntKind.i64.wrap (v2+1)),(IntKind.i64.wrap (v3-1)),((v4.set v2.toNat v10).set v3.toNat v12)))else some (St.done v4))
def gP(a1:List Int):Option (List Int):=(Loop (fun(s:Int×Int×(List Int))=>fh s.1 s.2.1 s.2.2) (0,(IntKind.i64.wrap ((a1.length:Int)-1)),a1)).bind fun v16=>some v16
theorem sC{a1:List Int}{r17:List Int}(h:gP a1=some r17):bh PP 230 [(0,aY (ak.int .u8) 5 a1)] [D.own 0] [(0,aY (ak.int .u8) 5 r17)] (D.ig []):=by
 unfold gP at h;refine .of Go.Proofs.Tryz.func230 rfl (by kernel_rfl) rfl rfl rfl rfl rfl rfl (fun A w0 L b=>?_);show Ok PP _ [(0,D.own 0),(1000000,D.pinned 0 (b 0))] [(0,aY (ak.int .u8) 5 a1)] _ _;refine .sl 0 rfl rfl rfl ?_;refine .al (.mv rfl<|.uW rfl BI<|.ar rfl rfl rfl<|.aq rfl<|.aq rfl<|.nil) rfl ?_;obtain⟨o5,hl6,h⟩:=bind_some h;have ho1:=h;refine .block (.bV (fun(s:Int×Int×(List Int))=>[(0,D.own 0),(2,D.int .i64 s.1),(3,D.int .i64 s.2.1),(1000000,D.pinned 0 (b 0))]) (fun(s:Int×Int×(List Int))=>[(0,aY (ak.int .u8) 5 s.2.2)]) hl6 (.p rfl .sl<|.k rfl<|.k rfl<|.k rfl<|trivial) (.of rfl) rfl rfl ?_);rintro⟨v2,v3,v4⟩ st7 hb8;have h:fh v2 v3 v4=some st7:=hb8;unfold fh at h
 try dsimp only
 refine .sq ?_;refine .al (.mv rfl<|.mv rfl<|.cm rfl rfl rfl<|.nil) rfl ?_;by_cases c9:(decide (v2<v3))=true
 ·replace h:=aa c9 h;refine .cp rfl c9 ?_;refine .skip (Ok.on ?_);refine .sq ?_;refine .block ?_;refine .sl 0 rfl rfl rfl ?_;obtain⟨v10,e11,h⟩:=bind_some h;obtain⟨v12,e13,h⟩:=bind_some h;obtain⟨v14,e15,h⟩:=bind_some h;refine .db cj (.mv rfl<|.mv rfl<|.mv rfl<|.mv rfl<|.mv rfl<|.mv rfl<|.ib rfl rfl oR (af e11).1 (by have:=dG e11;simpa using this)<|.JV rfl rfl oj rfl (af e11).2 rfl<|.mv rfl<|.mv rfl<|.ib rfl rfl oR (af e13).1 (by have:=dG e13;simpa using this)<|.JV rfl rfl oj rfl (af e13).2 rfl<|.ib rfl rfl oR (af e13).1 (by have:=dG e13;simpa using this)<|.Fw v10 rfl rfl rfl oj rfl rfl rfl rfl (bq e13)<|.ib rfl rfl oR (af e15).1 (by have:=dG e15;simpa using this)<|.Fw v12 rfl rfl rfl oj rfl rfl rfl rfl (bq e15)<|.nil) rfl (by kernel_rfl) (Ok.on ?_);refine .region (.mv rfl<|.ar rfl rfl rfl<|.mv rfl<|.ar rfl rfl rfl<|.aq rfl<|.aq rfl<|.nil) rfl (fun _ _ hs=>⟨((IntKind.i64.wrap (v2+1)),(IntKind.i64.wrap (v3-1)),((v4.set v2.toNat v10).set v3.toNat v12)),(sj h),hs.sub (.p rfl .sl<|.k rfl<|.k rfl<|.k rfl<|trivial) (.of rfl) rfl rfl⟩)
 ·replace h:=ab c9 h;refine .ct rfl c9 ?_;refine .exit (fun a w hs=>⟨_,(sj h),fun e=>by subst e;have h:=ho1;cases h;exact aT (hs.Jd rfl .nil (.refl _) (.of rfl) (.of rfl))⟩)
def ff(v10:Nat)(v17:Int)(v18:Int)(v19:List Int):Option (St (Int×Int×(List Int)) (List Int)):=((if(decide (v18<9))=true then(if(decide (((aL v10).length:Int)>0))=true then some (Ex.cf ())else(if(decide (v17>0))=true then some (Ex.cf ())else some (Ex.ret ())))else some (Ex.ret ()))).bind fun o24=>(match o24 with|Ex.cf ()=>cl ((v19.length+([(IntKind.u8.wrap (IntKind.u64.wrap (48+(Int.tmod v17 10))))]).length)*1<=140737488355328/\v19.length+([(IntKind.u8.wrap (IntKind.u64.wrap (48+(Int.tmod v17 10))))]).length<=9223372036854775807) (some (St.next ((IntKind.u64.wrap (Int.tdiv v17 10)),(IntKind.i64.wrap (v18+1)),(v19++[(IntKind.u8.wrap (IntKind.u64.wrap (48+(Int.tmod v17 10))))]))))|Ex.ret ()=>some (St.done v19))
def fg(v3:Nat)(v4:List Int):Option (St (Nat×(List Int)) (List Int)):=(if(decide (((aL v3).length:Int)>0))=true then(wP v3 1000000000).bind fun(v10,v11)=>(np v11).bind fun v13=>((Loop (fun(s:Int×Int×(List Int))=>ff v10 s.1 s.2.1 s.2.2) (v13,0,v4)).bind fun v30=>some (v30)).bind fun v31=>some (St.next (v10,v31))else some (St.done v4))
def kf(a1:Nat):Option (List UInt8):=(if(((aL a1).length:Int)==0)=true then some ([48]:List UInt8)else(Loop (fun(s:Nat×(List Int))=>fg s.1 s.2) (a1,[])).bind fun v32=>(gP v32).bind fun v33=>some (bytesOf v33))
theorem vj{a1:Nat}{r35:List UInt8}(h:kf a1=some r35):bh PP 176 [] [ao a1] [] (cw r35):=by
 unfold kf at h;refine .of Go.Proofs.Tryz.func176 rfl (by kernel_rfl) rfl rfl rfl rfl rfl rfl (fun A w0 L b=>?_);show Ok PP _ [(0,ao a1)] [] _ _;refine .al (.aq rfl<|.nil) rfl ?_;refine .sq ?_;refine .al (.mv rfl<|.y7 rfl aw<|.cm rfl rfl rfl<|.nil) rfl ?_;by_cases c2:(((aL a1).length:Int)==0)=true
 ·replace h:=aa c2 h;refine .cp rfl c2 ?_;refine .al (.aq rfl<|.nil) rfl ?_;cases h;refine .aQ (fun _ _ hb=>hb) rfl (.t1 (.tmp rfl)) (.refl _) trivial trivial
 ·replace h:=ab c2 h;refine .ct rfl c2 ?_;refine .skip (Ok.on ?_);refine .al (.aq rfl<|.nil) rfl ?_;refine .ju (ak.int .u8) 3 2000003 5 rfl rfl ?_;obtain⟨v32,hl6,h⟩:=bind_some h;refine .cd (fun i=>v32=i) (fun(i:(List Int))=>[(3,D.own 2000003)]) (fun(i:(List Int))=>[(2000003,aY (ak.int .u8) 5 i)]) ?_ ?_
  ·have ho1:=h;refine .block (.bV (fun(s:Nat×(List Int))=>[(0,ao s.1),(3,D.own 2000003)]) (fun(s:Nat×(List Int))=>[(2000003,aY (ak.int .u8) 5 s.2)]) hl6 (.of rfl) (.of rfl) rfl rfl ?_);rintro⟨v3,v4⟩ st7 hb8;have h:fg v3 v4=some st7:=hb8;unfold fg at h
   try dsimp only
   refine .sq ?_;refine .al (.mv rfl<|.y7 rfl aw<|.cm rfl rfl rfl<|.nil) rfl ?_;by_cases c9:(decide (((aL v3).length:Int)>0))=true
   ·replace h:=aa c9 h;refine .cp rfl c9 ?_;refine .skip (Ok.on ?_);refine .block ?_;obtain⟨⟨v10,v11⟩,e12,h⟩:=bind_some h;refine .al (.mv rfl<|.ag (E4 e12) ⟨rfl,rfl,trivial⟩ trivial trivial<|.mv rfl<|.ext rfl rfl<|.ext rfl rfl<|.aq rfl<|.aq rfl<|.nil) rfl ?_;obtain⟨v13,e14,h⟩:=bind_some h;refine .al (.mv rfl<|.ag (xn e14) ⟨rfl,trivial⟩ trivial trivial<|.aq rfl<|.nil) rfl ?_;obtain⟨v31,hp16,h⟩:=bind_some h;refine .cd (fun i=>v31=i) (fun(i:(List Int))=>[(3,D.own 2000003),(4,ao v10)]) (fun(i:(List Int))=>[(2000003,aY (ak.int .u8) 5 i)]) ?_ ?_
    ·have ho2:=h;have h:=hp16;refine .al (.aq rfl<|.nil) rfl ?_;obtain⟨o20,hl21,h⟩:=bind_some h;have ho3:=h;refine .block (.bV (fun(s:Int×Int×(List Int))=>[(3,D.own 2000003),(4,ao v10),(6,D.int .u64 s.1),(7,D.int .i64 s.2.1)]) (fun(s:Int×Int×(List Int))=>[(2000003,aY (ak.int .u8) 5 s.2.2)]) hl21 (.of rfl) (.of rfl) rfl rfl ?_);rintro⟨v17,v18,v19⟩ st22 hb23;have h:ff v10 v17 v18 v19=some st22:=hb23;unfold ff at h
     try dsimp only
     obtain⟨o24,hp25,h⟩:=bind_some h;refine .cd (fun i=>o24=Ex.cf i) (fun(i:Unit)=>[(3,D.own 2000003),(4,ao v10),(6,D.int .u64 v17),(7,D.int .i64 v18)]) (fun(i:Unit)=>[(2000003,aY (ak.int .u8) 5 v19)]) ?_ ?_
     ·have ho4:=h;have h:=hp25;by_cases c26:(decide (v18<9))=true
      ·replace h:=aa c26 h;by_cases c27:(decide (((aL v10).length:Int)>0))=true
       ·replace h:=aa c27 h;refine .al (.mv rfl<|.cm rfl rfl rfl<|.mv rfl<|.aO rfl rfl rfl c26<|.mv rfl<|.aO rfl rfl rfl c26<|.y7 rfl aw<|.aO rfl rfl rfl c26<|.cm rfl rfl rfl<|.aO rfl rfl rfl c26<|.mv rfl<|.eh rfl rfl rfl c27<|.eh rfl rfl rfl c27<|.aO rfl rfl rfl c26<|.aZ rfl c27 rfl<|.aZ rfl c26 rfl<|.nil) rfl ?_;refine .cp rfl rfl ?_;refine .skip (fun _ _ hs=>⟨(),(sj h),hs.sub (.of rfl) (.of rfl) rfl rfl⟩)
       ·replace h:=ab c27 h;refine .al (.mv rfl<|.cm rfl rfl rfl<|.mv rfl<|.aO rfl rfl rfl c26<|.mv rfl<|.aO rfl rfl rfl c26<|.y7 rfl aw<|.aO rfl rfl rfl c26<|.cm rfl rfl rfl<|.aO rfl rfl rfl c26<|.mv rfl<|.cx rfl rfl rfl c27<|.mv rfl<|.cx rfl rfl rfl c27<|.cm rfl rfl rfl<|.aO rfl rfl rfl c26<|.aV rfl c27 rfl<|.aZ rfl c26 rfl<|.nil) rfl ?_;by_cases c28:(decide (v17>0))=true
        ·replace h:=aa c28 h;refine .cp rfl c28 ?_;refine .skip (fun _ _ hs=>⟨(),(sj h),hs.sub (.of rfl) (.of rfl) rfl rfl⟩)
        ·replace h:=ab c28 h;refine .ct rfl c28 ?_;cases h;have h:=ho4;refine .exit (fun a w hs=>⟨_,(sj h),fun e=>by subst e;have h:=ho3;exact aT (⟨v19,(sj h),hs.sub (.of rfl) (.of rfl) rfl rfl⟩)⟩)
      ·replace h:=ab c26 h;refine .al (.mv rfl<|.cm rfl rfl rfl<|.mv rfl<|.aM rfl rfl rfl c26<|.aM rfl rfl rfl c26<|.aM rfl rfl rfl c26<|.aM rfl rfl rfl c26<|.gU rfl rfl<|.gU rfl rfl<|.aM rfl rfl rfl c26<|.aV rfl c26 rfl<|.nil) rfl ?_;refine .ct rfl (by decide) ?_;cases h;have h:=ho4;refine .exit (fun a w hs=>⟨_,(sj h),fun e=>by subst e;have h:=ho3;exact aT (⟨v19,(sj h),hs.sub (.of rfl) (.of rfl) rfl rfl⟩)⟩)
     ·rintro⟨⟩ rfl
      try dsimp only
      refine .sq ?_;refine .block ?_;refine .sl 3 rfl rfl rfl ?_;obtain⟨k29,h⟩:=av h;refine .al (.mv rfl<|.mv rfl<|.ar rfl rfl (tl (by decide))<|.ar rfl rfl rfl<|.cv rfl sy rfl<|.Cw (e:=(ak.int .u8)) [(IntKind.u8.wrap (IntKind.u64.wrap (48+(Int.tmod v17 10))))] [(0,_,D.int .u8 (IntKind.u8.wrap (IntKind.u64.wrap (48+(Int.tmod v17 10)))),[D.int .u8 (IntKind.u8.wrap (IntKind.u64.wrap (48+(Int.tmod v17 10))))])] vT rfl rfl rfl ⟨rfl,rfl,.one rfl,rfl,trivial⟩ ⟨rfl,trivial⟩ rfl rfl<|.B3 (ys:=[(IntKind.u8.wrap (IntKind.u64.wrap (48+(Int.tmod v17 10))))]) rfl .sl rfl (.refl _) rfl vT rfl k29.1 k29.2 rfl<|.aq rfl<|.nil) rfl ?_;refine .region (.mv rfl<|.ar rfl rfl (xN (by decide))<|.aq rfl<|.nil) rfl (Ok.on ?_);refine .region (.mv rfl<|.ar rfl rfl rfl<|.aq rfl<|.nil) rfl (fun _ _ hs=>⟨((IntKind.u64.wrap (Int.tdiv v17 10)),(IntKind.i64.wrap (v18+1)),(v19++[(IntKind.u8.wrap (IntKind.u64.wrap (48+(Int.tmod v17 10))))])),(sj h),hs.kC (fun r=>match r with|2000003=>40|r=>r) (.p rfl (.own (r:=2000003))<|.r rfl rfl<|.r rfl rfl<|.r rfl rfl<|trivial) (.r rfl rfl trivial) rfl rfl rfl⟩)
    ·rintro _ rfl
     try dsimp only
     refine .region (.mv rfl<|.aq rfl<|.nil) rfl (fun _ _ hs=>⟨(v10,v31),(sj h),hs.sub (.of rfl) (.of rfl) rfl rfl⟩)
   ·replace h:=ab c9 h;refine .ct rfl c9 ?_;refine .exit (fun _ _ hs=>⟨_,(sj h),fun e=>⟨v4,e.symm,hs.sub (.of rfl) (.of rfl) rfl rfl⟩⟩)
  ·rintro _ rfl
   try dsimp only
   refine .sl 3 rfl rfl rfl ?_;obtain⟨v33,e34,h⟩:=bind_some h;refine .al (.mv rfl<|.ag (Hi:=[(2000003,aY (ak.int .u8) 5 v32)]) (Ho:=[(2000003,aY (ak.int .u8) 5 v33)]) (d:=D.ig []) (ds:=[D.sl 2000003 v32.length]) (.Ab (sC e34) (fun r=>match r with|0=>2000003|r=>r) (fun r=>match r with|2000003=>0|r=>r) rfl (.r rfl rfl trivial) rfl ⟨.Fx (r:=0),trivial⟩ (.r rfl rfl trivial) rfl (.refl rfl) rfl rfl rfl rfl rfl) ⟨rfl,trivial⟩ ⟨rfl,trivial⟩ trivial<|.nil) rfl ?_;refine .ti 3 (.own 2000003) rfl .sl ?_;refine .mN 3 rfl rfl rfl ?_;refine .al (.mv rfl<|.KC rfl (by kernel_rfl)<|.aq rfl<|.nil) rfl ?_;cases h;refine .aQ (fun _ _ hb=>hb) rfl (.t1 (.tmp rfl)) (.refl _) trivial trivial
end
end Go.Am
namespace Go.Am
open Go.RowKit
theorem mu{x:Nat}:(aL x).length=0↔x=0:=by
 constructor
 ·intro h;apply Classical.byContradiction;intro h0;have:=dv h0;omega
 ·rintro rfl;rw[dC];rfl
theorem jA{x:Nat}:(aL x).length<=2↔x<18446744073709551616:=by
 constructor
 ·intro h;have h1:=l_ (x:=x);have h2:(4294967296:Nat)^(aL x).length<=4294967296^2:=Nat.pow_le_pow_right (by omega) h;have:(4294967296:Nat)^2=18446744073709551616:=by decide
  omega
 ·exact fun h=>fC (n:=2) h
theorem dJ{x y:Nat}(h:x<=y):bO x<=bO y:=by
 apply eO;exact Nat.lt_of_le_of_lt h (nh y)
theorem nv{x y:Nat}(h:x<=y)(hy:sm y):sm x:=Nat.le_trans (dJ h) hy
theorem pL{x n:Nat}(h:bO x<=n):x<2^n:=Nat.lt_of_lt_of_le (nh x) (Nat.pow_le_pow_right (by omega) h)
theorem jQ{x:Nat}(h:x<18446744073709551616):sm x:=by
 have:bO x<=64:=eO (n:=64) h;unfold sm;omega
theorem cE{α:Type}{p:Prop}[Decidable p]{x y:Option α}(hp:p)(h:x=y):cl p x=y:=by rw[aS hp,h]
theorem kU{n:Nat}(h:n<18446744073709551616):nj (n:Int)=some n:=cE ⟨by omega,by omega⟩ rfl
theorem pE{x:Nat}(h:x<18446744073709551616):np x=some (x:Int):=cE (jA.2 h) rfl
theorem qY{a b:Nat}(h:sm a)(k:sm b):vG a b=some (a+b):=cE ⟨h,k⟩ rfl
theorem tX{a b:Nat}(h:b<=a)(k:sm a):xR a b=some (a-b):=cE ⟨h,k⟩ rfl
theorem lC{a b:Nat}(h:sm a)(k:sm b):qI a b=some (a*b):=cE ⟨h,k⟩ rfl
theorem p9{a b:Nat}(h:sm a)(k:sm b):vA a b=some (fK a b):=cE ⟨h,k⟩ rfl
theorem BE{a:Nat}(h:sm a):zD a=some (bO a:Int):=cE h rfl
theorem jM{a b:Nat}(hb:b≠0)(h:sm a)(k:sm b):lY a b=some (a/b,a%b):=cE ⟨hb,h,k⟩ rfl
theorem wa(x y:Nat):Loop (fun(s:Int×Int)=>gD s.1 s.2) ((x:Int),(y:Int))=some ((Nat.gcd x y:Nat):Int):=by
 obtain⟨r,hr,rfl⟩:=cy (body:=fun(s:Int×Int)=>gD s.1 s.2) ((x:Int),(y:Int)) (fun s=>∃a b:Nat,s=((a:Int),(b:Int))/\Nat.gcd a b=Nat.gcd x y) (fun s=>s.2.toNat) (fun r=>r=((Nat.gcd x y:Nat):Int)) ⟨x,y,rfl,rfl⟩ (by
  rintro s ⟨a,b,rfl,hg⟩;simp only[gD];by_cases hb:b=0
  ·right
   subst hb;rw[Nat.gcd_zero_right]at hg;exact⟨(a:Int),by simp,by rw[hg]⟩
  ·left
   refine⟨((b:Int),((a%b:Nat):Int)),?_,⟨b,a%b,rfl,?_⟩,?_⟩
   ·have h1:((b:Int) !=0)=true:=by simp;omega
    rw[if_pos h1];exact cE (by omega) rfl
   ·rw[←hg,Nat.gcd_comm a b,Nat.gcd_rec b a,Nat.gcd_comm]
   ·simp only[Int.toNat_natCast];exact Nat.mod_lt _ (by omega))
 exact hr
def CM(a b:Nat):Option Nat:=cl (sm a/\sm b) (some (Nat.gcd a b))
theorem Eu{a b:Nat}(h:sm a)(k:sm b):CM a b=some (Nat.gcd a b):=cE ⟨h,k⟩ rfl
theorem zH{a:Nat}:dN a 0=some (.done (Ex.cf a)):=by simp[dN,dC]
theorem yC{a b:Nat}(h0:b≠0)(ha:(aL a).length<=2)(hb:(aL b).length<=2)(e1:np a=some (a:Int))(e2:np b=some (b:Int))(e3:nj ((Nat.gcd a b:Nat):Int)=some (Nat.gcd a b)):dN a b=some (.done (Ex.ret (Nat.gcd a b))):=by
 have hl:(decide (((aL b).length:Int)>0))=true:=by have:=dv h0;simp;omega
 have h3:(decide (((aL a).length:Int)<=2))=true:=by simp;omega
 have h4:(decide (((aL b).length:Int)<=2))=true:=by simp;omega
 unfold dN;rw[if_pos hl,if_pos h3,if_pos h4,e1,e2,Option.bind_some,Option.bind_some,wa,Option.bind_some,e3]
 rfl
theorem za{a b:Nat}(h0:b≠0)(ha:a<18446744073709551616)(hb:b<18446744073709551616):dN a b=some (.done (Ex.ret (Nat.gcd a b))):=
 yC h0 (jA.2 ha) (jA.2 hb) (pE ha) (pE hb) (kU (Nat.lt_of_le_of_lt (Nat.gcd_le_right _ (Nat.pos_of_ne_zero h0)) hb))
theorem zA{a b:Nat}(h0:b≠0)(hab:¬(a<18446744073709551616/\b<18446744073709551616))(ha:sm a)(hb:sm b):dN a b=some (.next (b,a%b)):=by
 have hl:(decide (((aL b).length:Int)>0))=true:=by have:=dv h0;simp;omega
 unfold dN;rw[if_pos hl];by_cases h3:(aL a).length<=2
 ·have h4:¬(aL b).length<=2:=fun h=>hab ⟨jA.1 h3,jA.1 h⟩;rw[if_pos (by simp;omega),if_neg (by simp;omega)];simp only[Option.bind_some,jM h0 ha hb]
 ·rw[if_neg (by simp;omega)];simp only[Option.bind_some,jM h0 ha hb]
theorem Im(x y:Nat)(hx:sm x)(hy:sm y):oM x y=some (Nat.gcd x y):=by
 obtain⟨r,hr,hq⟩:=cy (body:=fun(s:Nat×Nat)=>dN s.1 s.2) (x,y) (fun s=>sm s.1/\sm s.2/\Nat.gcd s.1 s.2=Nat.gcd x y) (fun s=>s.2) (fun r=>r=Ex.cf (Nat.gcd x y)\/r=Ex.ret (Nat.gcd x y)) ⟨hx,hy,rfl⟩ (by
  rintro⟨a,b⟩ ⟨ha,hb,hg⟩;simp only at ha hb hg|-;by_cases h0:b=0
  ·right
   subst h0;rw[Nat.gcd_zero_right]at hg;exact⟨_,zH,.inl (by rw[hg])⟩
  by_cases h2:a<18446744073709551616/\b<18446744073709551616
  ·right
   exact⟨_,za h0 h2.1 h2.2,.inr (by rw[hg])⟩
  ·left
   exact⟨_,zA h0 h2 ha hb,⟨hb,nv (Nat.le_of_lt (Nat.mod_lt _ (Nat.pos_of_ne_zero h0))) hb,by rw[←hg,Nat.gcd_comm a b,Nat.gcd_rec b a,Nat.gcd_comm]⟩,Nat.mod_lt _ (Nat.pos_of_ne_zero h0)⟩)
 unfold oM;rw[hr];rcases hq with rfl|rfl<;>rfl
theorem IN{a b r:Nat}(h:CM a b=some r):bh PP 214 [] [ao a,ao b] [] (ao r):=by
 obtain⟨⟨h0,h1⟩,h⟩:=av h;injection h with h;subst h;exact Br (Im a b h0 h1)
def eY:Nat->Nat
 |0=>0
 |x+1=>if(eY x+1)*(eY x+1)<=x+1 then eY x+1 else eY x
theorem qR:∀x,eY x*eY x<=x
 |0=>by simp[eY]
 |x+1=>by
  have:=qR x;simp only[eY]
  split
  ·assumption
  ·omega
theorem uv:∀x,x<(eY x+1)*(eY x+1)
 |0=>by simp[eY]
 |x+1=>by
  have h:=uv x;simp only[eY]
  split
  ·have h2:(eY x+1+1)*(eY x+1+1)=(eY x+1)*(eY x+1)+2*(eY x+1)+1:=by
    rw[Nat.add_mul,Nat.mul_add];omega
   omega
  ·omega
theorem EO{x n:Nat}(h:n*n<=x):n<=eY x:=by
 apply Nat.le_of_lt_succ;apply Classical.byContradiction;intro hc;have h1:=Nat.mul_le_mul (Nat.le_of_not_lt hc) (Nat.le_of_not_lt hc);have:=uv x;simp only[Nat.succ_eq_add_one]at h1;omega
theorem Bz{a x s:Nat}(hx:0<x)(hs:s*s<=a):s<=(x+a/x)/2:=by
 rw[Nat.le_div_iff_mul_le (by omega)];rcases Nat.lt_or_ge (2*s) x with h|h
 ·generalize a/x=q;omega
 ·have h1:2*s-x<=a/x:=by
   rw[Nat.le_div_iff_mul_le hx];refine Nat.le_trans ?_ hs;have h2:(2*s-x)*x+x*x=2*s*x:=by rw[←Nat.add_mul,Nat.sub_add_cancel h]
   have h3:2*s*x<=s*s+x*x:=by
    rcases Nat.le_total s x with h|h
    ·obtain⟨d,rfl⟩:=Nat.exists_eq_add_of_le h;rw[Nat.mul_add,Nat.add_mul,Nat.mul_add s,Nat.mul_add d];have:2*s*s=s*s+s*s:=by rw[Nat.mul_assoc];omega
     have:2*s*d=s*d+s*d:=by rw[Nat.mul_assoc];omega
     have:d*s=s*d:=Nat.mul_comm _ _;omega
    ·obtain⟨d,rfl⟩:=Nat.exists_eq_add_of_le h;have e1:2*(x+d)*x=x*x+x*x+(d*x+d*x):=by
      rw[Nat.mul_assoc,Nat.add_mul];omega
     have e2:(x+d)*(x+d)=x*x+x*d+(d*x+d*d):=by rw[Nat.add_mul,Nat.mul_add,Nat.mul_add]
     have e3:x*d=d*x:=Nat.mul_comm _ _;omega
   omega
  generalize a/x=q at h1|-;omega
theorem ik{x n:Nat}:bO x<=n↔x<2^n:=⟨pL,eO⟩
theorem q5{x y n:Nat}(h:bO x<=n)(k:bO y<=n):bO (x+y)<=n+1:=by
 rw[ik]at*;rw[Nat.pow_succ];omega
theorem t_{a n:Nat}(h:a<n):bO (2^a)<=n:=ik.2 (Nat.pow_lt_pow_right (by omega) h)
def zo(a:Nat):Option Nat:=cl (bO a<=2199023255552) (some (eY a))
theorem wrap_small{n:Int}(h0:-9223372036854775808<=n)(h1:n<9223372036854775808):IntKind.i64.wrap n=n:=by rw[IntKind.wrap_i64];omega
theorem Dh{a k:Nat}(h:sm a)(hk:k<35184372088832):A_ a (k:Int)=some (a/2^k):=cE ⟨h,by omega,by omega⟩ (by rw[Int.toNat_natCast])
theorem tJ{a k:Nat}(h:sm a)(hk:k<35184372088832):vB a (k:Int)=some (a*2^k):=cE ⟨h,by omega,by omega⟩ (by rw[Int.toNat_natCast])
theorem qA{x y:Nat}(h:y<=x):fK x y>=0:=by unfold fK;rw[if_neg (by omega)];split<;>omega
theorem Gm(a:Nat)(h:bO a<=2199023255552):nn a=some (eY a):=by
 unfold nn;by_cases h0:a=0
 ·subst h0;simp[dC,eY]
 have hl:=dv h0;have hsa:sm a:=Nat.le_trans h (by omega);have hl2:¬(((aL a).length:Int)==0)=true:=by
  rw[beq_iff_eq];omega
 rw[if_neg hl2];have e1:nj (1:Int)=some 1:=kU (n:=1) (by omega);rw[e1,BE hsa];simp only[Option.bind_some];have ew:IntKind.i64.wrap (Int.tdiv (IntKind.i64.wrap ((bO a:Int)+1)) 2)=(((bO a+1)/2:Nat):Int):=by
  rw[wrap_small (n:=(bO a:Int)+1) (by omega) (by omega),Int.tdiv_eq_ediv_of_nonneg (by omega),wrap_small (by omega) (by omega)];omega
 rw[ew,tJ (jQ (by omega)) (by omega),Nat.one_mul];simp only[Option.bind_some];have hp0:0<2^((bO a+1)/2):=Nat.two_pow_pos _;have hs0:eY a<=2^((bO a+1)/2):=by
  apply Classical.byContradiction;intro hc;have h1:=Nat.mul_le_mul (Nat.le_of_lt (Nat.lt_of_not_le hc)) (Nat.le_of_lt (Nat.lt_of_not_le hc));have h2:=qR a;have h3:=nh a;rw[←Nat.pow_add]at h1;have h4:(2:Nat)^bO a<=2^((bO a+1)/2+(bO a+1)/2):=Nat.pow_le_pow_right (by omega) (by omega);omega
 have hb0:bO (2^((bO a+1)/2))<=1099511627778:=t_ (by omega);generalize 2^((bO a+1)/2)=x0 at*;obtain⟨r,hr,rfl⟩:=cy (body:=fun s=>iY a s) x0 (fun x=>0<x/\eY a<=x/\bO x<=1099511627778) id (fun r=>r=eY a) ⟨hp0,hs0,hb0⟩ (by
  intro x ⟨hx,hsx,hbx⟩;have hsx':sm x:=Nat.le_trans hbx (by omega);have hbd:bO (a/x)<=2199023255552:=Nat.le_trans (dJ (Nat.div_le_self _ _)) h;have hsd:sm (a/x):=Nat.le_trans hbd (by omega);have hsum:sm (x+a/x):=by
   exact Nat.le_trans (q5 (Nat.le_trans hbx (by omega)) hbd) (by omega)
  have hge:=Bz (a:=a) hx (qR a);have hy:sm ((x+a/x)/2):=nv (Nat.div_le_self _ _) hsum;unfold iY;rw[jM (by omega) hsa hsx'];simp only[Option.bind_some];rw[qY hsx' hsd];simp only[Option.bind_some];have e2:A_ (x+a/x) 1=some ((x+a/x)/2):=Dh (k:=1) hsum (by omega);rw[e2];simp only[Option.bind_some];rw[p9 hy hsx'];simp only[Option.bind_some];by_cases hc:x<=(x+a/x)/2
  ·right
   refine⟨x,?_,?_⟩
   ·rw[if_pos (decide_eq_true (qA hc))]
   ·have h1:x<=a/x:=by omega
    rw[Nat.le_div_iff_mul_le hx]at h1;exact Nat.le_antisymm (EO h1) hsx
  ·left
   refine⟨(x+a/x)/2,?_,⟨?_,hge,?_⟩,by simp only[id];omega⟩
   ·rw[if_neg];have:fK ((x+a/x)/2) x=-1:=by unfold fK;rw[if_pos (by omega)]
    rw[this];decide
   ·apply Nat.pos_of_ne_zero;intro e;have h1:eY a=0:=by omega
    have h2:=uv a;rw[h1]at h2;omega
   ·exact Nat.le_trans (dJ (by omega)) hbx)
 rw[hr];rfl
theorem Hy{a r:Nat}(h:zo a=some r):bh PP 170 [] [ao a] [] (ao r):=by
 obtain⟨h0,h⟩:=av h;injection h with h;subst h;exact zW (Gm a h0)
theorem fW{α:Type}{xs:List α}{n:Nat}(h:n<xs.length):ix xs (n:Int)=some xs[n]:=by
 unfold ix;rw[if_pos (by omega),Int.toNat_natCast,List.getElem?_eq_getElem h]
theorem xi{α:Type}{xs:List α}{i:Int}(n:Nat)(hi:i=(n:Int))(h:n<xs.length):ix xs i=some xs[n]:=by rw[hi,fW h]
theorem zy(a:List Int)(hl:a.length<=4398046511110):gP a=some a.reverse:=by
 unfold gP;have e0:IntKind.i64.wrap ((a.length:Int)-1)=(a.length:Int)-1:=wrap_small (by omega) (by omega);rw[e0];obtain⟨r,hr,rfl⟩:=cy (body:=fun(s:Int×Int×(List Int))=>fh s.1 s.2.1 s.2.2) (0,((a.length:Int)-1),a)
  (fun s=>∃k:Nat,s.1=(k:Int)/\s.2.1=(a.length:Int)-1-k/\k<=a.length/\s.2.2.length=a.length/\(2*k<=a.length+1)/\∀n (h:n<a.length),s.2.2[n]?=if n<k\/a.length-1-k<n then a[a.length-1-n]?else a[n]?)
  (fun s=>(s.2.1+1).toNat) (fun r=>r=a.reverse)
  ⟨0,rfl,by simp,by omega,rfl,by omega,fun n h=>by rw[if_neg (by omega)]⟩ (by
   rintro⟨i,j,xs⟩ ⟨k,hi,hj,hk,hlen,hk2,hx⟩;simp only at hi hj hlen hx|-;unfold fh;by_cases hlt:i<j
   ·left
    have h1:k<a.length-1-k:=by omega
    have hj':j=((a.length-1-k:Nat):Int):=by omega
    rw[if_pos (decide_eq_true hlt),xi (a.length-1-k) hj' (by omega),Option.bind_some,xi k hi (by omega),Option.bind_some];rw[xi (a.length-1-k) hj' (by rw[List.length_set];omega),Option.bind_some];refine⟨_,rfl,⟨k+1,?_,?_,by omega,by simp[hlen],by omega,?_⟩,by simp only;rw[wrap_small (by omega) (by omega)];omega⟩
    ·simp only;rw[wrap_small (by omega) (by omega)];omega
    ·simp only;rw[wrap_small (by omega) (by omega)];omega
    ·intro n hn;simp only;rw[show j.toNat=a.length-1-k from by omega,show i.toNat=k from by omega];have ek:=hx k (by omega);have ej:=hx (a.length-1-k) (by omega);rw[if_neg (by omega)]at ek ej;rw[List.getElem?_eq_getElem (by omega)]at ek ej;by_cases c1:n=a.length-1-k
     ·subst c1;rw[List.getElem?_set_self (by rw[List.length_set];omega),if_pos (by omega),ek];rw[show a.length-1-(a.length-1-k)=k from by omega]
     ·rw[List.getElem?_set_ne (by omega)];by_cases c2:n=k
      ·subst c2;rw[List.getElem?_set_self (by omega),if_pos (by omega),ej]
      ·rw[List.getElem?_set_ne (by omega),hx n hn];by_cases c3:n<k\/a.length-1-k<n
       ·rw[if_pos c3,if_pos (by omega)]
       ·rw[if_neg c3,if_neg (by omega)]
   ·right
    rw[if_neg (by simpa using hlt)];refine⟨xs,rfl,?_⟩;apply List.ext_getElem?;intro n;by_cases hn:n<a.length
    ·rw[hx n hn,List.getElem?_reverse hn]
     split
     ·rfl
     ·rw[show a.length-1-n=n from by omega]
    ·rw[List.getElem?_eq_none (by omega),List.getElem?_eq_none (by simp;omega)])
 rw[hr];rfl
def dR(x:Nat):List Int:=if h:x=0 then []else((48+x%10:Nat):Int)::dR (x/10)
termination_by x
decreasing_by exact Nat.div_lt_self (Nat.pos_of_ne_zero h) (by decide)
theorem ka:dR 0=[]:=by rw[dR];rfl
theorem oi{x:Nat}(h:x≠0):dR x=((48+x%10:Nat):Int)::dR (x/10):=by rw[dR,dif_neg h]
theorem zw:∀(n x:Nat),x<2^n->(dR x).length<=n
 |0,x,h=>by
  have:x=0:=by simp at h;exact h
  subst this;rw[ka];exact Nat.le_refl _
 |n+1,x,h=>by
  by_cases h0:x=0
  ·subst h0;rw[ka];exact Nat.zero_le _
  ·rw[oi h0,List.length_cons];have:=zw n (x/10) (by rw[Nat.pow_succ]at h;omega);omega
def iO(x:Nat):List UInt8:=if x=0 then [48]else bytesOf (dR x).reverse
def AD(a:Nat):Option (List UInt8):=cl (sm a) (some (iO a))
theorem Ed(n:Int)(h:0<=n/\n<=255):IntKind.u8.wrap n=n:=by rw[IntKind.wrap_u8];omega
theorem u64_in{n:Int}(h0:0<=n)(h1:n<18446744073709551616):IntKind.u64.wrap n=n:=by rw[IntKind.wrap_u64];omega
theorem zp{a:Nat}{d:Int}(h:sm a)(k:1<=d/\d<4294967296):wP a d=some (a/d.toNat,a%d.toNat):=cE ⟨h,k⟩ rfl
theorem vF{x n:Nat}(h:bO x<=n):(dR x).length<=n:=zw _ _ (pL h)
theorem DV(tgt:List Int)(q n:Nat)(b:List Int)(hn:n<1000000000)(ht:tgt.length<=4398046511104)(hq:(aL q).length=0↔q=0)(hb:b++dR (q*1000000000+n)=tgt):
  ∃b',Loop (fun(s:Int×Int×(List Int))=>ff q s.1 s.2.1 s.2.2) ((n:Int),0,b)=some b'/\b'++dR q=tgt:=by
 refine cy (body:=fun(s:Int×Int×(List Int))=>ff q s.1 s.2.1 s.2.2) ((n:Int),0,b)
  (fun s=>∃m k:Nat,s.1=(m:Int)/\s.2.1=((9-k:Nat):Int)/\k<=9/\m<10^k/\s.2.2++dR (q*10^k+m)=tgt)
  (fun s=>(9-s.2.1).toNat) (fun r=>r++dR q=tgt) ⟨n,9,rfl,rfl,by omega,hn,hb⟩ ?_
 rintro⟨i,j,b⟩ ⟨m,k,hi,hj,hk,hm,hb⟩;simp only at hi hj hb|-;subst hi;subst hj;unfold ff;by_cases h9:k=0
 ·right
  subst h9;rw[if_neg (by simp),Option.bind_some];simp only;rw[Nat.pow_zero]at hm hb;refine⟨b,rfl,?_⟩;rw[show q=q*1+m from by omega];exact hb
 obtain⟨k,rfl⟩:=Nat.exists_eq_succ_of_ne_zero h9;have hlt:((9-(k+1):Nat):Int)<9:=by omega
 rw[Nat.succ_eq_add_one,if_pos (decide_eq_true hlt)];by_cases hz:q=0/\m=0
 ·right
  obtain⟨rfl,rfl⟩:=hz;rw[if_neg (by rw[hq.2 rfl];decide),if_neg (by decide),Option.bind_some];refine⟨b,rfl,?_⟩;rw[Nat.zero_mul]at hb;exact hb
 ·left
  have hp:q*10^(k+1)+m≠0:=by
   intro h;apply hz
   constructor
   ·apply Classical.byContradiction;intro h1;have:=Nat.mul_pos (Nat.pos_of_ne_zero h1) (show 0<10^(k+1)from Nat.pow_pos (by decide));omega
   ·omega
  have hgo:(if(decide (((aL q).length:Int)>0))=true then some (Ex.cf ())else(if(decide ((m:Int)>0))=true then some (Ex.cf ())else some (Ex.ret ())):Option (Ex Unit Unit))=some (Ex.cf ()):=by
   by_cases h1:q=0
   ·rw[if_neg (by rw[hq.2 h1];decide),if_pos (decide_eq_true (by have:=fun h=>hz ⟨h1,h⟩;omega))]
   ·rw[if_pos (decide_eq_true (by have:=fun h=>h1 (hq.1 h);omega))]
  rw[hgo,Option.bind_some];simp only;have hm':m<1000000000:=Nat.lt_of_lt_of_le hm (show 10^(k+1)<=10^9 from Nat.pow_le_pow_right (by decide) (by omega));have e1:IntKind.u8.wrap (IntKind.u64.wrap (48+Int.tmod (m:Int) 10))=((48+(q*10^(k+1)+m)%10:Nat):Int):=by
   rw[Int.tmod_eq_emod_of_nonneg (by omega),u64_in (by omega) (by omega),Ed _ (by omega)];have:(q*10^(k+1)+m)%10=m%10:=by
    rw[Nat.pow_succ,←Nat.mul_assoc,Nat.add_comm,Nat.add_mul_mod_self_right]
   rw[this];omega
  have e2:IntKind.u64.wrap (Int.tdiv (m:Int) 10)=((m/10:Nat):Int):=by
   rw[Int.tdiv_eq_ediv_of_nonneg (by omega),u64_in (by omega) (by omega)];omega
  have e3:(q*10^(k+1)+m)/10=q*10^k+m/10:=by
   rw[Nat.pow_succ,←Nat.mul_assoc,Nat.add_comm,Nat.add_mul_div_right _ _ (by decide),Nat.add_comm]
  have e4:IntKind.i64.wrap (((9-(k+1):Nat):Int)+1)=((9-k:Nat):Int):=by rw[wrap_small (by omega) (by omega)];omega
  rw[oi hp,e3]at hb;rw[e1,e2,e4];have hbl:b.length+1<=tgt.length:=by rw[←hb,List.length_append,List.length_cons];omega
  refine⟨_,cE ⟨by simp only[List.length_cons,List.length_nil];omega,by simp only[List.length_cons,List.length_nil];omega⟩ rfl,⟨m/10,k,rfl,rfl,by omega,?_,?_⟩,by simp only;omega⟩
  ·rw[Nat.pow_succ]at hm;exact Nat.div_lt_of_lt_mul (by rw[Nat.mul_comm];exact hm)
  ·simp only;rw[←hb,List.append_assoc];rfl
theorem FV(a:Nat)(h:sm a):Loop (fun(s:Nat×(List Int))=>fg s.1 s.2) (a,[])=some (dR a):=by
 obtain⟨r,hr,rfl⟩:=cy (body:=fun(s:Nat×(List Int))=>fg s.1 s.2) (a,[]) (fun s=>sm s.1/\s.2++dR s.1=dR a) (fun s=>s.1) (fun r=>r=dR a) ⟨h,rfl⟩ (by
  rintro⟨x,b⟩ ⟨hx,hb⟩;simp only at hx hb|-;unfold fg;by_cases h0:x=0
  ·right
   subst h0;rw[if_neg (by rw[mu.2 rfl];decide)];refine⟨b,rfl,?_⟩;rw[ka,List.append_nil]at hb;exact hb
  ·left
   have hl:=dv h0;rw[if_pos (decide_eq_true (by omega)),zp hx ⟨by decide,by decide⟩,Option.bind_some];simp only;have en:(1000000000:Int).toNat=1000000000:=rfl;rw[en];have hlt:x%1000000000<1000000000:=Nat.mod_lt _ (by decide);rw[pE (by omega),Option.bind_some];obtain⟨b',hb',hb2⟩:=DV (dR a) (x/1000000000) (x%1000000000) b hlt (vF h) mu (by
    rw[show x/1000000000*1000000000+x%1000000000=x from Nat.div_add_mod' x 1000000000];exact hb)
   rw[hb'];exact⟨_,rfl,⟨nv (Nat.div_le_self _ _) hx,hb2⟩,Nat.div_lt_self (Nat.pos_of_ne_zero h0) (by decide)⟩)
 exact hr
theorem HS(a:Nat)(h:sm a):kf a=some (iO a):=by
 unfold kf iO;by_cases h0:a=0
 ·subst h0;rw[if_pos (by rw[mu.2 rfl];rfl),if_pos rfl]
 ·have hl:=dv h0;have hl2:¬(((aL a).length:Int)==0)=true:=by rw[beq_iff_eq];omega
  rw[if_neg hl2,if_neg h0,FV a h,Option.bind_some,zy _ (Nat.le_trans (vF h) (by omega))]
  rfl
theorem G5{a:Nat}{r:List UInt8}(h:AD a=some r):bh PP 176 [] [ao a] [] (cw r):=by
 obtain⟨h0,h⟩:=av h;injection h with h;subst h;exact vj (HS a h0)
end Go.Am
namespace Go.Am
open Go.RowKit
def qC(x:Rat):List D:=[.bool (decide (x.num<0)),ao x.num.natAbs,ao (x.den-1)]
def qD(x:Rat):D:=.agg (qC x)
def ak.rat:ak Rat:=⟨3,qC,fun _=>rfl,fun _=>rfl⟩
theorem l3:Le (.bool false) (.bool (decide ((0:Rat).num<0))):=.refl _
theorem lZ:Le .nil (ao (0:Rat).num.natAbs):=bm
theorem l4:Le .nil (ao ((0:Rat).den-1)):=bm
def aD(x:Nat):List Int:=if h:x=0 then []else((x%10000:Nat):Int)::aD (x/10000)
termination_by x
decreasing_by exact Nat.div_lt_self (by omega) (by omega)
theorem dD:aD 0=[]:=by rw[aD];simp
theorem jC{x:Nat}(h:x≠0):aD x=((x%10000:Nat):Int)::aD (x/10000):=by rw[aD];simp[h]
def Iw(d:Nat):D where
 p:=fun ε w S v=>∃l:List Int,(l=aD d\/(d=1/\l=[]))/\(ai (ak.int .i64) l).p ε w S v
 nm:=[]
 sh:=.one
 mono:=fun⟨l,hl,h⟩ he hS=>⟨l,hl,(ai (ak.int .i64) l).mono h (fun r hr=>by cases hr) hS⟩
 jR:=fun⟨l,_,h⟩=>(ai (ak.int .i64) l).jR h
def iB(x:Rat):List D:=[.bool (decide (x.num<0)),ai (ak.int .i64) (aD x.num.natAbs),.bool false,Iw x.den]
def qd(x:Rat):D:=.agg (iB x)
def ak.rq:ak Rat:=⟨4,iB,fun _=>rfl,fun _=>rfl⟩
theorem EL:Le .nil (ai (ak.int .i64) (aD 0)):=by rw[dD];exact .ju _
theorem Cz:Le (.bool false) (.bool (decide ((0:Rat).num<0))):=.refl _
theorem EG:Le .nil (ai (ak.int .i64) (aD (0:Rat).num.natAbs)):=EL
theorem D4:Le .nil (Iw (0:Rat).den):=⟨fun ε w S v h=>⟨[],.inr ⟨rfl,rfl⟩,(Le.ju (ak.int .i64)).1 ε w S v h⟩,fun r hr=>by cases hr⟩
def sz(x:Rat):Nat:=max (bO x.num.natAbs) (bO x.den)
def dm(x:Rat):Prop:=sz x<=400000000000
instance (x:Rat):Decidable (dm x):=inferInstanceAs (Decidable (sz x<=400000000000))
def fq(n:Int):Prop:=-9223372036854775808<=n/\n<9223372036854775808
instance (n:Int):Decidable (fq n):=inferInstanceAs (Decidable (_/\_))
def wD(x:Rat):Int:=if x<0 then-1 else if x=0 then 0 else 1
def iM(x y:Rat):Int:=if x<y then-1 else if y<x then 1 else 0
def f_(n:Int):Option Rat:=cl (fq n) (some (n:Rat))
def GA(n d:Int):Option (Rat×Int):=cl (fq n/\fq d) (some (if d=0 then(0,9)else((n:Rat)/(d:Rat),0)))
def jl(a b:Rat):Option Rat:=cl (dm a/\dm b) (some (a+b))
def kv(a b:Rat):Option Rat:=cl (dm a/\dm b) (some (a-b))
def fp(a b:Rat):Option Rat:=cl (dm a/\dm b) (some (a*b))
def fU(a b:Rat):Option Rat:=cl (b≠0/\dm a/\dm b) (some (a/b))
def pg(a:Rat):Option Rat:=some (-a)
def AJ(a:Rat):Option Rat:=some (if a<0 then-a else a)
def lB(a b:Rat):Option Int:=cl (dm a/\dm b) (some (iM a b))
def cZ(a:Rat):Option Int:=some (wD a)
def ux(a:Rat):Option Rat:=cl (dm a) (some (a.den:Rat))
def qH(a:Rat):Option Rat:=cl (dm a) (some (a.floor:Rat))
def Iz(a:Rat):List UInt8:=(if a.num<0 then [45]else [])++iO a.num.natAbs++(if a.den=1 then []else 47::iO a.den)
def rK(a:Rat):Option (List UInt8):=cl (dm a) (some (Iz a))
end Go.Am
namespace Go.Am
open Go.RowKit
set_option maxRecDepth 100000
noncomputable section
def di(a1:Bool)(a2:Nat):Option (Bool×Nat):=(if a1=true then some ((decide (((aL a2).length:Int)>0)),a2)else some (false,a2))
theorem fc{a1:Bool}{a2:Nat}{r4:Bool}{r5:Nat}(h:di a1 a2=some (r4,r5)):bh PP 152 [] [D.bool a1,ao a2] [] (D.agg ([D.bool r4,ao r5])):=by
 unfold di at h;refine .of Go.Proofs.Tryz.func152 rfl (by kernel_rfl) rfl rfl rfl rfl rfl rfl (fun A w0 L b=>?_);show Ok PP _ [(0,D.bool a1),(1,ao a2)] [] _ _;refine .al (.fN ([D.bool false,ao 0]) eB ⟨.refl _,bm,trivial⟩ rfl<|.nil) rfl ?_;by_cases c3:a1=true
 ·replace h:=aa c3 h;refine .al (.mv rfl<|.mv rfl<|.aO rfl rfl rfl c3<|.mv rfl<|.aO rfl rfl rfl c3<|.y7 rfl aw<|.aO rfl rfl rfl c3<|.cm rfl rfl rfl<|.aZ rfl c3 rfl<|.mv rfl<|.ox ([D.bool (decide (((aL a2).length:Int)>0)),ao a2]) [(0,_,D.bool (decide (((aL a2).length:Int)>0)),[D.bool (decide (((aL a2).length:Int)>0))]),(1,_,ao a2,[ao a2])] eB iz ⟨rfl,rfl,.one rfl,rfl,rfl,rfl,.one rfl,rfl,trivial⟩ ⟨rfl,rfl,trivial⟩ ⟨.refl _,.refl _,trivial⟩<|.cW ([D.bool (decide (((aL a2).length:Int)>0)),ao a2]) rfl rfl rfl bD rfl rfl rfl<|.nil) rfl ?_;cases h;refine .aQ (fun _ _ hb=>hb) rfl (.cons (.agg rfl rfl bD rfl) .nil) (.refl _) trivial trivial
 ·replace h:=ab c3 h;refine .al (.mv rfl<|.mv rfl<|.aM rfl rfl rfl c3<|.aM rfl rfl rfl c3<|.aM rfl rfl rfl c3<|.aV rfl c3 rfl<|.mv rfl<|.ox ([D.bool false,ao a2]) [(0,_,D.bool false,[D.bool false]),(1,_,ao a2,[ao a2])] eB iz ⟨rfl,rfl,.one rfl,rfl,rfl,rfl,.one rfl,rfl,trivial⟩ ⟨rfl,rfl,trivial⟩ ⟨.refl _,.refl _,trivial⟩<|.cW ([D.bool false,ao a2]) rfl rfl rfl bD rfl rfl rfl<|.nil) rfl ?_;cases h;refine .aQ (fun _ _ hb=>hb) rfl (.cons (.agg rfl rfl bD rfl) .nil) (.refl _) trivial trivial
def jK(a1:Bool)(a2:Nat):Option Int:=(if a1=true then some (-1)else(if(((aL a2).length:Int)==0)=true then some 0 else some 1))
theorem xg{a1:Bool}{a2:Nat}{r5:Int}(h:jK a1 a2=some r5):bh PP 153 [] [D.agg ([D.bool a1,ao a2])] [] (D.int .i64 r5):=by
 unfold jK at h;refine .of Go.Proofs.Tryz.func153 rfl (by kernel_rfl) rfl rfl rfl rfl rfl rfl (fun A w0 L b=>?_);show Ok PP _ [(0,D.agg ([D.bool a1,ao a2]))] [] _ _;refine .al (.i3 rfl rfl<|.aq rfl<|.nil) rfl ?_;refine .sq ?_;refine .block ?_;refine .al (.fa rfl bb<|.bz (D.bool a1) rfl rfl bU rfl<|.aq rfl<|.nil) rfl ?_;by_cases c3:a1=true
 ·replace h:=aa c3 h;refine .cp rfl c3 ?_;refine .al (.aq rfl<|.nil) rfl ?_;cases h;refine .aQ (fun _ _ hb=>hb) rfl (.t1 (.tmp rfl)) (.refl _) trivial trivial
 ·replace h:=ab c3 h;refine .ct rfl c3 ?_;refine .al (.fa rfl aW<|.bz (ao a2) rfl rfl bj rfl<|.y7 rfl aw<|.cm rfl rfl rfl<|.aq rfl<|.nil) rfl ?_;by_cases c4:(((aL a2).length:Int)==0)=true
  ·replace h:=aa c4 h;refine .cp rfl c4 ?_;refine .al (.aq rfl<|.nil) rfl ?_;cases h;refine .aQ (fun _ _ hb=>hb) rfl (.t1 (.tmp rfl)) (.refl _) trivial trivial
  ·replace h:=ab c4 h;refine .ct rfl c4 ?_;refine .skip (Ok.on ?_);refine .al (.aq rfl<|.nil) rfl ?_;cases h;refine .aQ (fun _ _ hb=>hb) rfl (.t1 (.tmp rfl)) (.refl _) trivial trivial
def ky(a1:Bool)(a2:Nat)(a3:Bool)(a4:Nat):Option (Bool×Nat):=(if(a1==a3)=true then(vG a2 a4).bind fun v6=>(di a1 v6).bind fun(v8,v9)=>some (v8,v9)else(vA a2 a4).bind fun v11=>(if(decide (v11>=0))=true then(xR a2 a4).bind fun v14=>(di a1 v14).bind fun(v16,v17)=>some (v16,v17)else(xR a4 a2).bind fun v19=>(di a3 v19).bind fun(v21,v22)=>some (v21,v22)))
theorem x_{a1:Bool}{a2:Nat}{a3:Bool}{a4:Nat}{r24:Bool}{r25:Nat}(h:ky a1 a2 a3 a4=some (r24,r25)):bh PP 180 [] [D.agg ([D.bool a1,ao a2]),D.agg ([D.bool a3,ao a4])] [] (D.agg ([D.bool r24,ao r25])):=by
 unfold ky at h;refine .of Go.Proofs.Tryz.func180 rfl (by kernel_rfl) rfl rfl rfl rfl rfl rfl (fun A w0 L b=>?_);show Ok PP _ [(0,D.agg ([D.bool a1,ao a2])),(1,D.agg ([D.bool a3,ao a4]))] [] _ _;refine .al (.i3 rfl rfl<|.i3 rfl rfl<|.fN ([D.bool false,ao 0]) eB ⟨.refl _,bm,trivial⟩ rfl<|.nil) rfl ?_;refine .sq ?_;refine .block ?_;refine .al (.fa rfl bb<|.bz (D.bool a1) rfl rfl bU rfl<|.fa rfl bb<|.bz (D.bool a3) rfl rfl bU rfl<|.bc i7 rfl rfl rfl<|.aq rfl<|.nil) rfl ?_;by_cases c5:(a1==a3)=true
 ·replace h:=aa c5 h;refine .cp rfl c5 ?_;obtain⟨v6,e7,h⟩:=bind_some h;obtain⟨⟨v8,v9⟩,e10,h⟩:=bind_some h;refine .c_ cj (.fa rfl bb<|.bz (D.bool a1) rfl rfl bU rfl<|.fa rfl aW<|.bz (ao a2) rfl rfl bj rfl<|.fa rfl aW<|.bz (ao a4) rfl rfl bj rfl<|.ag (Bm e7) ⟨rfl,rfl,trivial⟩ trivial trivial<|.ag (fc e10) ⟨rfl,rfl,trivial⟩ trivial trivial<|.cW ([D.bool v8,ao v9]) rfl rfl rfl bD rfl rfl rfl<|.nil) rfl (by kernel_rfl) ?_;cases h;refine .aQ (fun _ _ hb=>hb) rfl (.cons (.agg rfl rfl bD rfl) .nil) (.refl _) trivial trivial
 ·replace h:=ab c5 h;refine .ct rfl c5 ?_;obtain⟨v11,e12,h⟩:=bind_some h;refine .al (.fa rfl aW<|.bz (ao a2) rfl rfl bj rfl<|.fa rfl aW<|.bz (ao a4) rfl rfl bj rfl<|.ag (AN e12) ⟨rfl,rfl,trivial⟩ trivial trivial<|.cm rfl rfl rfl<|.aq rfl<|.nil) rfl ?_;by_cases c13:(decide (v11>=0))=true
  ·replace h:=aa c13 h;refine .cp rfl c13 ?_;obtain⟨v14,e15,h⟩:=bind_some h;obtain⟨⟨v16,v17⟩,e18,h⟩:=bind_some h;refine .c_ cj (.fa rfl bb<|.bz (D.bool a1) rfl rfl bU rfl<|.fa rfl aW<|.bz (ao a2) rfl rfl bj rfl<|.fa rfl aW<|.bz (ao a4) rfl rfl bj rfl<|.ag (DO e15) ⟨rfl,rfl,trivial⟩ trivial trivial<|.ag (fc e18) ⟨rfl,rfl,trivial⟩ trivial trivial<|.cW ([D.bool v16,ao v17]) rfl rfl rfl bD rfl rfl rfl<|.nil) rfl (by kernel_rfl) ?_;cases h;refine .aQ (fun _ _ hb=>hb) rfl (.cons (.agg rfl rfl bD rfl) .nil) (.refl _) trivial trivial
  ·replace h:=ab c13 h;refine .ct rfl c13 ?_;refine .skip (Ok.on ?_);obtain⟨v19,e20,h⟩:=bind_some h;obtain⟨⟨v21,v22⟩,e23,h⟩:=bind_some h;refine .c_ cj (.fa rfl bb<|.bz (D.bool a3) rfl rfl bU rfl<|.fa rfl aW<|.bz (ao a4) rfl rfl bj rfl<|.fa rfl aW<|.bz (ao a2) rfl rfl bj rfl<|.ag (DO e20) ⟨rfl,rfl,trivial⟩ trivial trivial<|.ag (fc e23) ⟨rfl,rfl,trivial⟩ trivial trivial<|.cW ([D.bool v21,ao v22]) rfl rfl rfl bD rfl rfl rfl<|.nil) rfl (by kernel_rfl) ?_;cases h;refine .aQ (fun _ _ hb=>hb) rfl (.cons (.agg rfl rfl bD rfl) .nil) (.refl _) trivial trivial
def eX(a1:Bool)(a2:Nat)(a3:Nat):Option (Bool×Nat):=(qI a2 a3).bind fun v4=>(di a1 v4).bind fun(v6,v7)=>some (v6,v7)
theorem j9{a1:Bool}{a2:Nat}{a3:Nat}{r9:Bool}{r10:Nat}(h:eX a1 a2 a3=some (r9,r10)):bh PP 177 [] [D.agg ([D.bool a1,ao a2]),ao a3] [] (D.agg ([D.bool r9,ao r10])):=by
 unfold eX at h;refine .of Go.Proofs.Tryz.func177 rfl (by kernel_rfl) rfl rfl rfl rfl rfl rfl (fun A w0 L b=>?_);show Ok PP _ [(0,D.agg ([D.bool a1,ao a2])),(1,ao a3)] [] _ _;refine .al (.i3 rfl rfl<|.fN ([D.bool false,ao 0]) eB ⟨.refl _,bm,trivial⟩ rfl<|.nil) rfl ?_;obtain⟨v4,e5,h⟩:=bind_some h;obtain⟨⟨v6,v7⟩,e8,h⟩:=bind_some h;refine .c_ cj (.fa rfl bb<|.bz (D.bool a1) rfl rfl bU rfl<|.fa rfl aW<|.bz (ao a2) rfl rfl bj rfl<|.mv rfl<|.ag (uc e5) ⟨rfl,rfl,trivial⟩ trivial trivial<|.ag (fc e8) ⟨rfl,rfl,trivial⟩ trivial trivial<|.cW ([D.bool v6,ao v7]) rfl rfl rfl bD rfl rfl rfl<|.nil) rfl (by kernel_rfl) ?_;cases h;refine .aQ (fun _ _ hb=>hb) rfl (.cons (.agg rfl rfl bD rfl) .nil) (.refl _) trivial trivial
def ks(a1:Bool)(a2:Nat)(a3:Bool)(a4:Nat):Option Int:=(if(!(a1==a3))=true then(if a1=true then some (-1)else some 1)else(if a1=true then(vA a4 a2).bind fun v8=>some v8 else(vA a2 a4).bind fun v10=>some v10))
theorem xY{a1:Bool}{a2:Nat}{a3:Bool}{a4:Nat}{r12:Int}(h:ks a1 a2 a3 a4=some r12):bh PP 178 [] [D.agg ([D.bool a1,ao a2]),D.agg ([D.bool a3,ao a4])] [] (D.int .i64 r12):=by
 unfold ks at h;refine .of Go.Proofs.Tryz.func178 rfl (by kernel_rfl) rfl rfl rfl rfl rfl rfl (fun A w0 L b=>?_);show Ok PP _ [(0,D.agg ([D.bool a1,ao a2])),(1,D.agg ([D.bool a3,ao a4]))] [] _ _;refine .al (.i3 rfl rfl<|.i3 rfl rfl<|.aq rfl<|.nil) rfl ?_;refine .sq ?_;refine .block ?_;by_cases c5:(!(a1==a3))=true
 ·replace h:=aa c5 h;refine .al (.fa rfl bb<|.bz (D.bool a1) rfl rfl bU rfl<|.fa rfl bb<|.bz (D.bool a3) rfl rfl bU rfl<|.bc i7 rfl rfl rfl<|.mv rfl<|.aO rfl rfl rfl c5<|.fa rfl bb<|.aO rfl rfl rfl c5<|.bz (D.bool a1) rfl rfl bU rfl<|.aZ rfl c5 rfl<|.aq rfl<|.nil) rfl ?_;by_cases c6:a1=true
  ·replace h:=aa c6 h;refine .cp rfl c6 ?_;refine .al (.aq rfl<|.nil) rfl ?_;cases h;refine .aQ (fun _ _ hb=>hb) rfl (.t1 (.tmp rfl)) (.refl _) trivial trivial
  ·replace h:=ab c6 h;refine .ct rfl c6 ?_;refine .al (.fa rfl bb<|.bz (D.bool a1) rfl rfl bU rfl<|.fa rfl bb<|.bz (D.bool a3) rfl rfl bU rfl<|.bc i7 rfl rfl rfl<|.aq rfl<|.nil) rfl ?_;refine .cp rfl c5 ?_;refine .al (.aq rfl<|.nil) rfl ?_;cases h;refine .aQ (fun _ _ hb=>hb) rfl (.t1 (.tmp rfl)) (.refl _) trivial trivial
 ·replace h:=ab c5 h;refine .al (.fa rfl bb<|.bz (D.bool a1) rfl rfl bU rfl<|.fa rfl bb<|.bz (D.bool a3) rfl rfl bU rfl<|.bc i7 rfl rfl rfl<|.mv rfl<|.aM rfl rfl rfl c5<|.aM rfl rfl rfl c5<|.aV rfl c5 rfl<|.aq rfl<|.nil) rfl ?_;refine .ct rfl (by decide) ?_;refine .al (.fa rfl bb<|.bz (D.bool a1) rfl rfl bU rfl<|.fa rfl bb<|.bz (D.bool a3) rfl rfl bU rfl<|.bc i7 rfl rfl rfl<|.aq rfl<|.nil) rfl ?_;refine .ct rfl c5 ?_;refine .al (.fa rfl bb<|.bz (D.bool a1) rfl rfl bU rfl<|.aq rfl<|.nil) rfl ?_;by_cases c7:a1=true
  ·replace h:=aa c7 h;refine .cp rfl c7 ?_;obtain⟨v8,e9,h⟩:=bind_some h;refine .al (.fa rfl aW<|.bz (ao a4) rfl rfl bj rfl<|.fa rfl aW<|.bz (ao a2) rfl rfl bj rfl<|.ag (AN e9) ⟨rfl,rfl,trivial⟩ trivial trivial<|.aq rfl<|.nil) rfl ?_;cases h;refine .aQ (fun _ _ hb=>hb) rfl (.t1 (.tmp rfl)) (.refl _) trivial trivial
  ·replace h:=ab c7 h;refine .ct rfl c7 ?_;refine .skip (Ok.on ?_);obtain⟨v10,e11,h⟩:=bind_some h;refine .al (.fa rfl aW<|.bz (ao a2) rfl rfl bj rfl<|.fa rfl aW<|.bz (ao a4) rfl rfl bj rfl<|.ag (AN e11) ⟨rfl,rfl,trivial⟩ trivial trivial<|.aq rfl<|.nil) rfl ?_;cases h;refine .aQ (fun _ _ hb=>hb) rfl (.t1 (.tmp rfl)) (.refl _) trivial trivial
def iW(a1:Bool)(a2:Nat)(a3:Nat):Option (Bool×Nat):=(lY a2 a3).bind fun(v4,v5)=>((if a1=true then(if(decide (((aL v5).length:Int)>0))=true then(nj 1).bind fun v11=>(vG v4 v11).bind fun v13=>some (v13)else some (v4))else some (v4))).bind fun v15=>(di a1 v15).bind fun(v16,v17)=>some (v16,v17)
theorem vh{a1:Bool}{a2:Nat}{a3:Nat}{r19:Bool}{r20:Nat}(h:iW a1 a2 a3=some (r19,r20)):bh PP 188 [] [D.agg ([D.bool a1,ao a2]),ao a3] [] (D.agg ([D.bool r19,ao r20])):=by
 unfold iW at h;refine .of Go.Proofs.Tryz.func188 rfl (by kernel_rfl) rfl rfl rfl rfl rfl rfl (fun A w0 L b=>?_);show Ok PP _ [(0,D.agg ([D.bool a1,ao a2])),(1,ao a3)] [] _ _;refine .al (.i3 rfl rfl<|.fN ([D.bool false,ao 0]) eB ⟨.refl _,bm,trivial⟩ rfl<|.nil) rfl ?_;obtain⟨⟨v4,v5⟩,e6,h⟩:=bind_some h;refine .al (.fa rfl aW<|.bz (ao a2) rfl rfl bj rfl<|.mv rfl<|.ag (rW e6) ⟨rfl,rfl,trivial⟩ trivial trivial<|.mv rfl<|.ext rfl rfl<|.ext rfl rfl<|.aq rfl<|.aq rfl<|.nil) rfl ?_;obtain⟨v15,hp8,h⟩:=bind_some h;refine .cd (fun i=>v15=i) (fun(i:Nat)=>[(2,D.ref 2 0),(4,D.ref 4 0),(5,ao i)]) (fun(i:Nat)=>[(2,Hp.box 26 ([D.bool a1,ao a2])),(4,Hp.box 26 ([D.bool false,ao 0]))]) ?_ ?_
 ·have ho1:=h;have h:=hp8;by_cases c9:a1=true
  ·replace h:=aa c9 h;refine .al (.fa rfl bb<|.bz (D.bool a1) rfl rfl bU rfl<|.mv rfl<|.aO rfl rfl rfl c9<|.mv rfl<|.aO rfl rfl rfl c9<|.y7 rfl aw<|.aO rfl rfl rfl c9<|.cm rfl rfl rfl<|.aZ rfl c9 rfl<|.nil) rfl ?_;by_cases c10:(decide (((aL v5).length:Int)>0))=true
   ·replace h:=aa c10 h;refine .cp rfl c10 ?_;obtain⟨v11,e12,h⟩:=bind_some h;obtain⟨v13,e14,h⟩:=bind_some h;refine .region (.mv rfl<|.ag (uZ e12) ⟨rfl,trivial⟩ trivial trivial<|.ag (Bm e14) ⟨rfl,rfl,trivial⟩ trivial trivial<|.aq rfl<|.nil) rfl (fun _ _ hs=>⟨v13,(sj h),hs.sub (.of rfl) (.of rfl) rfl rfl⟩)
   ·replace h:=ab c10 h;refine .ct rfl c10 ?_;refine .skip (fun _ _ hs=>⟨v4,(sj h),hs.sub (.of rfl) (.of rfl) rfl rfl⟩)
  ·replace h:=ab c9 h;refine .al (.fa rfl bb<|.bz (D.bool a1) rfl rfl bU rfl<|.mv rfl<|.aM rfl rfl rfl c9<|.aM rfl rfl rfl c9<|.aM rfl rfl rfl c9<|.aV rfl c9 rfl<|.nil) rfl ?_;refine .ct rfl (by decide) ?_;refine .skip (fun _ _ hs=>⟨v4,(sj h),hs.sub (.of rfl) (.of rfl) rfl rfl⟩)
 ·rintro _ rfl
  try dsimp only
  obtain⟨⟨v16,v17⟩,e18,h⟩:=bind_some h;refine .al (.fa rfl bb<|.bz (D.bool a1) rfl rfl bU rfl<|.mv rfl<|.ag (fc e18) ⟨rfl,rfl,trivial⟩ trivial trivial<|.cW ([D.bool v16,ao v17]) rfl rfl rfl bD rfl rfl rfl<|.nil) rfl ?_;cases h;refine .aQ (fun _ _ hb=>hb) rfl (.cons (.agg rfl rfl bD rfl) .nil) (.refl _) trivial trivial
def fO(a1:Bool)(a2:Nat)(a3:Nat):Option Nat:=(nj 1).bind fun v4=>(vG a3 v4).bind fun v6=>some v6
theorem i6{a1:Bool}{a2:Nat}{a3:Nat}{r8:Nat}(h:fO a1 a2 a3=some r8):bh PP 168 [] [D.agg ([D.bool a1,ao a2,ao a3])] [] (ao r8):=by
 unfold fO at h;refine .of Go.Proofs.Tryz.func168 rfl (by kernel_rfl) rfl rfl rfl rfl rfl rfl (fun A w0 L b=>?_);show Ok PP _ [(0,D.agg ([D.bool a1,ao a2,ao a3]))] [] _ _;refine .al (.i3 rfl rfl<|.aq rfl<|.nil) rfl ?_;obtain⟨v4,e5,h⟩:=bind_some h;obtain⟨v6,e7,h⟩:=bind_some h;refine .c_ cj (.fa rfl l6<|.bz (ao a3) rfl rfl bj rfl<|.ag (uZ e5) ⟨rfl,trivial⟩ trivial trivial<|.ag (Bm e7) ⟨rfl,rfl,trivial⟩ trivial trivial<|.aq rfl<|.nil) rfl (by kernel_rfl) ?_;cases h;refine .aQ (fun _ _ hb=>hb) rfl (.t1 (.tmp rfl)) (.refl _) trivial trivial
def fj(a1:Bool)(a2:Nat)(a3:Nat):Option ((Bool×Nat)×Nat):=((CM a2 a3).bind fun v6=>(if(((aL v6).length:Int) !=1)=true then(lY a2 v6).bind fun(v9,v10)=>(lY a3 v6).bind fun(v12,v13)=>some ((v12,v9))else(ix (aL v6) 0).bind fun v15=>(if((v15:Int) !=1)=true then(lY a2 v6).bind fun(v18,v19)=>(lY a3 v6).bind fun(v21,v22)=>some ((v21,v18))else some ((a3,a2))))).bind fun(v24,v25)=>(di a1 v25).bind fun(v26,v27)=>(nj 1).bind fun v29=>(xR v24 v29).bind fun v31=>some ((v26,v27),v31)
theorem lD{a1:Bool}{a2:Nat}{a3:Nat}{r33:Bool}{r34:Nat}{r35:Nat}(h:fj a1 a2 a3=some ((r33,r34),r35)):bh PP 151 [] [D.agg ([D.bool a1,ao a2]),ao a3] [] (D.agg ([D.bool r33,ao r34,ao r35])):=by
 unfold fj at h;refine .of Go.Proofs.Tryz.func151 rfl (by kernel_rfl) rfl rfl rfl rfl rfl rfl (fun A w0 L b=>?_);show Ok PP _ [(0,D.agg ([D.bool a1,ao a2])),(1,ao a3)] [] _ _;refine .al (.i3 rfl rfl<|.fN ([D.bool false,ao 0,ao 0]) aI ⟨.refl _,bm,bm,trivial⟩ rfl<|.nil) rfl ?_;obtain⟨o4,hp5,h⟩:=bind_some h;refine .cd (fun i=>o4=i) (fun(i:Nat×Nat)=>[(1,ao i.1),(2,D.ref 2 0),(4,D.ref 4 0)]) (fun(i:Nat×Nat)=>[(2,Hp.box 26 ([D.bool a1,ao i.2])),(4,Hp.box 28 ([D.bool false,ao 0,ao 0]))]) ?_ ?_
 ·have ho1:=h;have h:=hp5;obtain⟨v6,e7,h⟩:=bind_some h;refine .al (.fa rfl aW<|.bz (ao a2) rfl rfl bj rfl<|.mv rfl<|.ag (IN e7) ⟨rfl,rfl,trivial⟩ trivial trivial<|.aq rfl<|.nil) rfl ?_;by_cases c8:(((aL v6).length:Int) !=1)=true
  ·replace h:=aa c8 h;refine .al (.mv rfl<|.y7 rfl aw<|.cm rfl rfl rfl<|.mv rfl<|.eh rfl rfl rfl c8<|.eh rfl rfl rfl c8<|.eh rfl rfl rfl c8<|.eh rfl rfl rfl c8<|.aZ rfl c8 rfl<|.nil) rfl ?_;refine .cp rfl rfl ?_;obtain⟨⟨v9,v10⟩,e11,h⟩:=bind_some h;refine .al (.fa rfl aW<|.bz (ao a2) rfl rfl bj rfl<|.mv rfl<|.ag (rW e11) ⟨rfl,rfl,trivial⟩ trivial trivial<|.mv rfl<|.ext rfl rfl<|.ext rfl rfl<|.fa rfl aW<|.zF ([D.bool a1,ao v9]) rfl rfl rfl bj rfl rfl rfl<|.nil) rfl ?_;obtain⟨⟨v12,v13⟩,e14,h⟩:=bind_some h;refine .region (.mv rfl<|.mv rfl<|.ag (rW e14) ⟨rfl,rfl,trivial⟩ trivial trivial<|.mv rfl<|.ext rfl rfl<|.ext rfl rfl<|.aq rfl<|.nil) rfl (fun _ _ hs=>⟨(v12,v9),(sj h),hs.sub (.of rfl) (.of rfl) rfl rfl⟩)
  ·replace h:=ab c8 h;obtain⟨v15,e16,h⟩:=bind_some h;refine .al (.mv rfl<|.y7 rfl aw<|.cm rfl rfl rfl<|.mv rfl<|.cx rfl rfl rfl c8<|.mv rfl<|.cx rfl rfl rfl c8<|.Jw rfl rfl aB e16<|.cx rfl rfl rfl c8<|.i4 rfl bf<|.cx rfl rfl rfl c8<|.cm rfl rfl rfl<|.aV rfl c8 rfl<|.nil) rfl ?_;by_cases c17:((v15:Int) !=1)=true
   ·replace h:=aa c17 h;refine .cp rfl c17 ?_;obtain⟨⟨v18,v19⟩,e20,h⟩:=bind_some h;refine .al (.fa rfl aW<|.bz (ao a2) rfl rfl bj rfl<|.mv rfl<|.ag (rW e20) ⟨rfl,rfl,trivial⟩ trivial trivial<|.mv rfl<|.ext rfl rfl<|.ext rfl rfl<|.fa rfl aW<|.zF ([D.bool a1,ao v18]) rfl rfl rfl bj rfl rfl rfl<|.nil) rfl ?_;obtain⟨⟨v21,v22⟩,e23,h⟩:=bind_some h;refine .region (.mv rfl<|.mv rfl<|.ag (rW e23) ⟨rfl,rfl,trivial⟩ trivial trivial<|.mv rfl<|.ext rfl rfl<|.ext rfl rfl<|.aq rfl<|.nil) rfl (fun _ _ hs=>⟨(v21,v18),(sj h),hs.sub (.of rfl) (.of rfl) rfl rfl⟩)
   ·replace h:=ab c17 h;refine .ct rfl c17 ?_;refine .skip (fun _ _ hs=>⟨(a3,a2),(sj h),hs.sub (.of rfl) (.of rfl) rfl rfl⟩)
 ·rintro⟨v24,v25⟩ rfl
  try dsimp only
  obtain⟨⟨v26,v27⟩,e28,h⟩:=bind_some h;obtain⟨v29,e30,h⟩:=bind_some h;obtain⟨v31,e32,h⟩:=bind_some h;refine .al (.fa rfl bb<|.bz (D.bool a1) rfl rfl bU rfl<|.fa rfl aW<|.bz (ao v25) rfl rfl bj rfl<|.ag (fc e28) ⟨rfl,rfl,trivial⟩ trivial trivial<|.mv rfl<|.ag (uZ e30) ⟨rfl,trivial⟩ trivial trivial<|.ag (DO e32) ⟨rfl,rfl,trivial⟩ trivial trivial<|.ox ([D.bool v26,ao v27,ao v31]) [(0,_,D.agg ([D.bool v26,ao v27]),[D.bool v26,ao v27]),(2,_,ao v31,[ao v31])] aI da ⟨rfl,rfl,.agg _,rfl,rfl,rfl,.one rfl,rfl,trivial⟩ ⟨rfl,rfl,trivial⟩ ⟨.refl _,.refl _,.refl _,trivial⟩<|.cW ([D.bool v26,ao v27,ao v31]) rfl rfl rfl ae rfl rfl rfl<|.nil) rfl ?_;cases h;refine .aQ (fun _ _ hb=>hb) rfl (.cons (.agg rfl rfl ae rfl) .nil) (.refl _) trivial trivial
def uY(a1:Bool)(a2:Nat):Option ((Bool×Nat)×Nat):=some ((a1,a2),0)
theorem C7{a1:Bool}{a2:Nat}{r3:Bool}{r4:Nat}{r5:Nat}(h:uY a1 a2=some ((r3,r4),r5)):bh PP 169 [] [D.agg ([D.bool a1,ao a2])] [] (D.agg ([D.bool r3,ao r4,ao r5])):=by
 unfold uY at h;refine .of Go.Proofs.Tryz.func169 rfl (by kernel_rfl) rfl rfl rfl rfl rfl rfl (fun A w0 L b=>?_);show Ok PP _ [(0,D.agg ([D.bool a1,ao a2]))] [] _ _;refine .al (.i3 rfl rfl<|.fN ([D.bool false,ao 0,ao 0]) aI ⟨.refl _,bm,bm,trivial⟩ rfl<|.nil) rfl ?_;refine .al (.ck ([D.bool a1,ao a2]) rfl rfl bD rfl rfl<|.ox ([D.bool a1,ao a2,ao 0]) [(0,_,D.agg ([D.bool a1,ao a2]),[D.bool a1,ao a2])] aI da ⟨rfl,rfl,.agg _,rfl,trivial⟩ ⟨rfl,trivial⟩ ⟨.refl _,.refl _,bm,trivial⟩<|.cW ([D.bool a1,ao a2,ao 0]) rfl rfl rfl ae rfl rfl rfl<|.nil) rfl ?_;cases h;refine .aQ (fun _ _ hb=>hb) rfl (.cons (.agg rfl rfl ae rfl) .nil) (.refl _) trivial trivial
def iu(a1:Int):Option Nat:=(if(decide (a1<0))=true then(nj (IntKind.u64.wrap (0-(IntKind.u64.wrap a1)))).bind fun v3=>some v3 else(nj (IntKind.u64.wrap a1)).bind fun v5=>some v5)
theorem og{a1:Int}{r7:Nat}(h:iu a1=some r7):bh PP 179 [] [D.int .i64 a1] [] (ao r7):=by
 unfold iu at h;refine .of Go.Proofs.Tryz.func179 rfl (by kernel_rfl) rfl rfl rfl rfl rfl rfl (fun A w0 L b=>?_);show Ok PP _ [(0,D.int .i64 a1)] [] _ _;refine .al (.aq rfl<|.nil) rfl ?_;refine .sq ?_;refine .al (.mv rfl<|.cm rfl rfl rfl<|.nil) rfl ?_;by_cases c2:(decide (a1<0))=true
 ·replace h:=aa c2 h;refine .cp rfl c2 ?_;obtain⟨v3,e4,h⟩:=bind_some h;refine .al (.mv rfl<|.cv rfl nt rfl<|.neg rfl rfl<|.ag (uZ e4) ⟨rfl,trivial⟩ trivial trivial<|.aq rfl<|.nil) rfl ?_;cases h;refine .aQ (fun _ _ hb=>hb) rfl (.t1 (.tmp rfl)) (.refl _) trivial trivial
 ·replace h:=ab c2 h;refine .ct rfl c2 ?_;refine .skip (Ok.on ?_);obtain⟨v5,e6,h⟩:=bind_some h;refine .al (.mv rfl<|.cv rfl nt rfl<|.ag (uZ e6) ⟨rfl,trivial⟩ trivial trivial<|.aq rfl<|.nil) rfl ?_;cases h;refine .aQ (fun _ _ hb=>hb) rfl (.t1 (.tmp rfl)) (.refl _) trivial trivial
def AS(a1:Int):Option ((Bool×Nat)×Nat):=(iu a1).bind fun v2=>(di (decide (a1<0)) v2).bind fun(v4,v5)=>(uY v4 v5).bind fun((v7,v8),v9)=>some ((v7,v8),v9)
theorem IM{a1:Int}{r11:Bool}{r12:Nat}{r13:Nat}(h:AS a1=some ((r11,r12),r13)):bh PP 40 [] [D.int .i64 a1] [] (D.agg ([D.bool r11,ao r12,ao r13])):=by
 unfold AS at h;refine .of Go.Proofs.Tryz.func40 rfl (by kernel_rfl) rfl rfl rfl rfl rfl rfl (fun A w0 L b=>?_);show Ok PP _ [(0,D.int .i64 a1)] [] _ _;refine .al (.fN ([D.bool false,ao 0,ao 0]) aI ⟨.refl _,bm,bm,trivial⟩ rfl<|.nil) rfl ?_;obtain⟨v2,e3,h⟩:=bind_some h;obtain⟨⟨v4,v5⟩,e6,h⟩:=bind_some h;obtain⟨⟨⟨v7,v8⟩,v9⟩,e10,h⟩:=bind_some h;refine .al (.mv rfl<|.cm rfl rfl rfl<|.mv rfl<|.ag (og e3) ⟨rfl,trivial⟩ trivial trivial<|.ag (fc e6) ⟨rfl,rfl,trivial⟩ trivial trivial<|.ag (C7 e10) ⟨rfl,trivial⟩ trivial trivial<|.cW ([D.bool v7,ao v8,ao v9]) rfl rfl rfl ae rfl rfl rfl<|.nil) rfl ?_;cases h;refine .aQ (fun _ _ hb=>hb) rfl (.cons (.agg rfl rfl ae rfl) .nil) (.refl _) trivial trivial
def FH(a1:Int)(a2:Int):Option (((Bool×Nat)×Nat)×Int):=(if(a2==0)=true then some (((false,0),0),9)else(iu a1).bind fun v4=>(di (!((decide (a1<0))==(decide (a2<0)))) v4).bind fun(v6,v7)=>(iu a2).bind fun v9=>(fj v6 v7 v9).bind fun((v11,v12),v13)=>some (((v11,v12),v13),0))
theorem I3{a1:Int}{a2:Int}{r15:Bool}{r16:Nat}{r17:Nat}{r18:Int}(h:FH a1 a2=some (((r15,r16),r17),r18)):bh PP 36 [] [D.int .i64 a1,D.int .i64 a2] [] (D.ig [D.agg ([D.bool r15,ao r16,ao r17]),D.int .i64 r18]):=by
 unfold FH at h;refine .of Go.Proofs.Tryz.func36 rfl (by kernel_rfl) rfl rfl rfl rfl rfl rfl (fun A w0 L b=>?_);show Ok PP _ [(0,D.int .i64 a1),(1,D.int .i64 a2)] [] _ _;refine .al (.fN ([D.bool false,ao 0,ao 0]) aI ⟨.refl _,bm,bm,trivial⟩ rfl<|.aq rfl<|.nil) rfl ?_;refine .sq ?_;refine .al (.mv rfl<|.cm rfl rfl rfl<|.nil) rfl ?_;by_cases c3:(a2==0)=true
 ·replace h:=aa c3 h;refine .cp rfl c3 ?_;refine .al (.ox ([D.bool false,ao 0,ao 0]) [] aI da trivial trivial ⟨.refl _,bm,bm,trivial⟩<|.cW ([D.bool false,ao 0,ao 0]) rfl rfl rfl ae rfl rfl rfl<|.aq rfl<|.nil) rfl ?_;cases h;refine .aQ (fun _ _ hb=>hb) rfl (.cons (.agg rfl rfl ae rfl) (.t1 (.tmp rfl))) (.refl _) trivial trivial
 ·replace h:=ab c3 h;refine .ct rfl c3 ?_;refine .skip (Ok.on ?_);obtain⟨v4,e5,h⟩:=bind_some h;obtain⟨⟨v6,v7⟩,e8,h⟩:=bind_some h;obtain⟨v9,e10,h⟩:=bind_some h;obtain⟨⟨⟨v11,v12⟩,v13⟩,e14,h⟩:=bind_some h;refine .al (.mv rfl<|.cm rfl rfl rfl<|.mv rfl<|.cm rfl rfl rfl<|.bc i7 rfl rfl rfl<|.mv rfl<|.ag (og e5) ⟨rfl,trivial⟩ trivial trivial<|.ag (fc e8) ⟨rfl,rfl,trivial⟩ trivial trivial<|.mv rfl<|.ag (og e10) ⟨rfl,trivial⟩ trivial trivial<|.ag (lD e14) ⟨rfl,rfl,trivial⟩ trivial trivial<|.cW ([D.bool v11,ao v12,ao v13]) rfl rfl rfl ae rfl rfl rfl<|.aq rfl<|.nil) rfl ?_;cases h;refine .aQ (fun _ _ hb=>hb) rfl (.cons (.agg rfl rfl ae rfl) (.t1 (.tmp rfl))) (.refl _) trivial trivial
def qe(a1:Bool)(a2:Nat)(a3:Nat):Option (List UInt8):=(AD a2).bind fun v4=>((if a1=true then cl (([45]:List UInt8).length+v4.length<=9223372036854775807) (some ((([45]:List UInt8)++v4)))else some (v4))).bind fun v10=>((if(decide (((aL a3).length:Int)>0))=true then(fO a1 a2 a3).bind fun v14=>(AD v14).bind fun v16=>cl (([47]:List UInt8).length+v16.length<=9223372036854775807) (cl (v10.length+(([47]:List UInt8)++v16).length<=9223372036854775807) (some ((v10++(([47]:List UInt8)++v16)))))else some (v10))).bind fun v20=>some v20
theorem CK{a1:Bool}{a2:Nat}{a3:Nat}{r21:List UInt8}(h:qe a1 a2 a3=some r21):bh PP 33 [] [D.agg ([D.bool a1,ao a2,ao a3])] [] (cw r21):=by
 unfold qe at h;refine .of Go.Proofs.Tryz.func33 rfl (by kernel_rfl) rfl rfl rfl rfl rfl rfl (fun A w0 L b=>?_);show Ok PP _ [(0,D.agg ([D.bool a1,ao a2,ao a3]))] [] _ _;refine .al (.i3 rfl rfl<|.aq rfl<|.nil) rfl ?_;obtain⟨v4,e5,h⟩:=bind_some h;refine .al (.fa rfl cu<|.fa rfl aW<|.bz (ao a2) rfl rfl bj rfl<|.ag (G5 e5) ⟨rfl,trivial⟩ trivial trivial<|.aq rfl<|.nil) rfl ?_;obtain⟨v10,hp7,h⟩:=bind_some h;refine .cd (fun i=>v10=i) (fun(i:(List UInt8))=>[(1,D.ref 1 0),(3,cw i)]) (fun(i:(List UInt8))=>[(1,Hp.box 28 ([D.bool a1,ao a2,ao a3]))]) ?_ ?_
 ·have ho1:=h;have h:=hp7;refine .al (.fa rfl cu<|.fa rfl bb<|.bz (D.bool a1) rfl rfl bU rfl<|.nil) rfl ?_;by_cases c8:a1=true
  ·replace h:=aa c8 h;refine .cp rfl c8 ?_;obtain⟨k9,h⟩:=av h;refine .region (.mv rfl<|.x6 rfl rfl k9<|.aq rfl<|.nil) rfl (fun _ _ hs=>⟨(([45]:List UInt8)++v4),(sj h),hs.sub (.of rfl) (.of rfl) rfl rfl⟩)
  ·replace h:=ab c8 h;refine .ct rfl c8 ?_;refine .skip (fun _ _ hs=>⟨v4,(sj h),hs.sub (.of rfl) (.of rfl) rfl rfl⟩)
 ·rintro _ rfl
  try dsimp only
  obtain⟨v20,hp12,h⟩:=bind_some h;refine .cd (fun i=>v20=i) (fun(i:(List UInt8))=>[(3,cw i)]) (fun(i:(List UInt8))=>[]) ?_ ?_
  ·have ho1:=h;have h:=hp12;refine .al (.fa rfl l6<|.bz (ao a3) rfl rfl bj rfl<|.y7 rfl aw<|.cm rfl rfl rfl<|.nil) rfl ?_;by_cases c13:(decide (((aL a3).length:Int)>0))=true
   ·replace h:=aa c13 h;refine .cp rfl c13 ?_;obtain⟨v14,e15,h⟩:=bind_some h;obtain⟨v16,e17,h⟩:=bind_some h;obtain⟨k18,h⟩:=av h;obtain⟨k19,h⟩:=av h;refine .region (.mv rfl<|.ck ([D.bool a1,ao a2,ao a3]) rfl rfl ae rfl rfl<|.ag (i6 e15) ⟨rfl,trivial⟩ trivial trivial<|.ag (G5 e17) ⟨rfl,trivial⟩ trivial trivial<|.x6 rfl rfl k18<|.x6 rfl rfl k19<|.aq rfl<|.nil) rfl (fun _ _ hs=>⟨(v10++(([47]:List UInt8)++v16)),(sj h),hs.sub (.of rfl) trivial rfl rfl⟩)
   ·replace h:=ab c13 h;refine .ct rfl c13 ?_;refine .skip (fun _ _ hs=>⟨v10,(sj h),hs.sub (.of rfl) trivial rfl rfl⟩)
  ·rintro _ rfl
   try dsimp only
   refine .al (.mv rfl<|.aq rfl<|.nil) rfl ?_;cases h;refine .aQ (fun _ _ hb=>hb) rfl (.t1 (.tmp rfl)) (.refl _) trivial trivial
def qg(a1:Bool)(a2:Nat)(a3:Nat)(a4:Bool)(a5:Nat)(a6:Nat):Option ((Bool×Nat)×Nat):=(fO a1 a2 a3).bind fun v7=>(fO a4 a5 a6).bind fun v9=>(eX a1 a2 v9).bind fun(v11,v12)=>(eX a4 a5 v7).bind fun(v14,v15)=>(ky v11 v12 v14 v15).bind fun(v17,v18)=>(qI v7 v9).bind fun v20=>(fj v17 v18 v20).bind fun((v22,v23),v24)=>some ((v22,v23),v24)
theorem Bi{a1:Bool}{a2:Nat}{a3:Nat}{a4:Bool}{a5:Nat}{a6:Nat}{r26:Bool}{r27:Nat}{r28:Nat}(h:qg a1 a2 a3 a4 a5 a6=some ((r26,r27),r28)):bh PP 42 [] [D.agg ([D.bool a1,ao a2,ao a3]),D.agg ([D.bool a4,ao a5,ao a6])] [] (D.agg ([D.bool r26,ao r27,ao r28])):=by
 unfold qg at h;refine .of Go.Proofs.Tryz.func42 rfl (by kernel_rfl) rfl rfl rfl rfl rfl rfl (fun A w0 L b=>?_);show Ok PP _ [(0,D.agg ([D.bool a1,ao a2,ao a3])),(1,D.agg ([D.bool a4,ao a5,ao a6]))] [] _ _;refine .al (.i3 rfl rfl<|.i3 rfl rfl<|.fN ([D.bool false,ao 0,ao 0]) aI ⟨.refl _,bm,bm,trivial⟩ rfl<|.nil) rfl ?_;obtain⟨v7,e8,h⟩:=bind_some h;obtain⟨v9,e10,h⟩:=bind_some h;refine .c_ cj (.ck ([D.bool a1,ao a2,ao a3]) rfl rfl ae rfl rfl<|.ag (i6 e8) ⟨rfl,trivial⟩ trivial trivial<|.ck ([D.bool a4,ao a5,ao a6]) rfl rfl ae rfl rfl<|.ag (i6 e10) ⟨rfl,trivial⟩ trivial trivial<|.aq rfl<|.aq rfl<|.nil) rfl (by kernel_rfl) ?_;obtain⟨⟨v11,v12⟩,e13,h⟩:=bind_some h;obtain⟨⟨v14,v15⟩,e16,h⟩:=bind_some h;obtain⟨⟨v17,v18⟩,e19,h⟩:=bind_some h;obtain⟨v20,e21,h⟩:=bind_some h;obtain⟨⟨⟨v22,v23⟩,v24⟩,e25,h⟩:=bind_some h;refine .c_ cj (.fa rfl cu<|.ck ([D.bool a1,ao a2]) rfl rfl bD rfl rfl<|.mv rfl<|.ag (j9 e13) ⟨rfl,rfl,trivial⟩ trivial trivial<|.fa rfl cu<|.ck ([D.bool a4,ao a5]) rfl rfl bD rfl rfl<|.mv rfl<|.ag (j9 e16) ⟨rfl,rfl,trivial⟩ trivial trivial<|.ag (x_ e19) ⟨rfl,rfl,trivial⟩ trivial trivial<|.mv rfl<|.mv rfl<|.ag (uc e21) ⟨rfl,rfl,trivial⟩ trivial trivial<|.ag (lD e25) ⟨rfl,rfl,trivial⟩ trivial trivial<|.cW ([D.bool v22,ao v23,ao v24]) rfl rfl rfl ae rfl rfl rfl<|.nil) rfl (by kernel_rfl) ?_;cases h;refine .aQ (fun _ _ hb=>hb) rfl (.cons (.agg rfl rfl ae rfl) .nil) (.refl _) trivial trivial
def qZ(a1:Bool)(a2:Nat)(a3:Nat):Option ((Bool×Nat)×Nat):=(di (!a1) a2).bind fun(v4,v5)=>some ((v4,v5),a3)
theorem Be{a1:Bool}{a2:Nat}{a3:Nat}{r7:Bool}{r8:Nat}{r9:Nat}(h:qZ a1 a2 a3=some ((r7,r8),r9)):bh PP 48 [] [D.agg ([D.bool a1,ao a2,ao a3])] [] (D.agg ([D.bool r7,ao r8,ao r9])):=by
 unfold qZ at h;refine .of Go.Proofs.Tryz.func48 rfl (by kernel_rfl) rfl rfl rfl rfl rfl rfl (fun A w0 L b=>?_);show Ok PP _ [(0,D.agg ([D.bool a1,ao a2,ao a3]))] [] _ _;refine .al (.i3 rfl rfl<|.fN ([D.bool false,ao 0,ao 0]) aI ⟨.refl _,bm,bm,trivial⟩ rfl<|.nil) rfl ?_;obtain⟨⟨v4,v5⟩,e6,h⟩:=bind_some h;refine .c_ cj (.fa rfl cu<|.fa rfl bb<|.bz (D.bool a1) rfl rfl bU rfl<|.not rfl<|.fa rfl cu<|.fa rfl aW<|.bz (ao a2) rfl rfl bj rfl<|.ag (fc e6) ⟨rfl,rfl,trivial⟩ trivial trivial<|.fa rfl l6<|.bz (ao a3) rfl rfl bj rfl<|.ox ([D.bool v4,ao v5,ao a3]) [(0,_,D.agg ([D.bool v4,ao v5]),[D.bool v4,ao v5]),(2,_,ao a3,[ao a3])] aI da ⟨rfl,rfl,.agg _,rfl,rfl,rfl,.one rfl,rfl,trivial⟩ ⟨rfl,rfl,trivial⟩ ⟨.refl _,.refl _,.refl _,trivial⟩<|.cW ([D.bool v4,ao v5,ao a3]) rfl rfl rfl ae rfl rfl rfl<|.nil) rfl (by kernel_rfl) ?_;cases h;refine .aQ (fun _ _ hb=>hb) rfl (.cons (.agg rfl rfl ae rfl) .nil) (.refl _) trivial trivial
def sI(a1:Bool)(a2:Nat)(a3:Nat)(a4:Bool)(a5:Nat)(a6:Nat):Option ((Bool×Nat)×Nat):=(qZ a4 a5 a6).bind fun((v7,v8),v9)=>(qg a1 a2 a3 v7 v8 v9).bind fun((v11,v12),v13)=>some ((v11,v12),v13)
theorem E5{a1:Bool}{a2:Nat}{a3:Nat}{a4:Bool}{a5:Nat}{a6:Nat}{r15:Bool}{r16:Nat}{r17:Nat}(h:sI a1 a2 a3 a4 a5 a6=some ((r15,r16),r17)):bh PP 44 [] [D.agg ([D.bool a1,ao a2,ao a3]),D.agg ([D.bool a4,ao a5,ao a6])] [] (D.agg ([D.bool r15,ao r16,ao r17])):=by
 unfold sI at h;refine .of Go.Proofs.Tryz.func44 rfl (by kernel_rfl) rfl rfl rfl rfl rfl rfl (fun A w0 L b=>?_);show Ok PP _ [(0,D.agg ([D.bool a1,ao a2,ao a3])),(1,D.agg ([D.bool a4,ao a5,ao a6]))] [] _ _;refine .al (.i3 rfl rfl<|.i3 rfl rfl<|.fN ([D.bool false,ao 0,ao 0]) aI ⟨.refl _,bm,bm,trivial⟩ rfl<|.nil) rfl ?_;obtain⟨⟨⟨v7,v8⟩,v9⟩,e10,h⟩:=bind_some h;obtain⟨⟨⟨v11,v12⟩,v13⟩,e14,h⟩:=bind_some h;refine .c_ cj (.ck ([D.bool a1,ao a2,ao a3]) rfl rfl ae rfl rfl<|.ck ([D.bool a4,ao a5,ao a6]) rfl rfl ae rfl rfl<|.ag (Be e10) ⟨rfl,trivial⟩ trivial trivial<|.ag (Bi e14) ⟨rfl,rfl,trivial⟩ trivial trivial<|.cW ([D.bool v11,ao v12,ao v13]) rfl rfl rfl ae rfl rfl rfl<|.nil) rfl (by kernel_rfl) ?_;cases h;refine .aQ (fun _ _ hb=>hb) rfl (.cons (.agg rfl rfl ae rfl) .nil) (.refl _) trivial trivial
def sS(a1:Bool)(a2:Nat)(a3:Nat)(a4:Bool)(a5:Nat)(a6:Nat):Option ((Bool×Nat)×Nat):=(qI a2 a5).bind fun v7=>(di (!(a1==a4)) v7).bind fun(v9,v10)=>(fO a1 a2 a3).bind fun v12=>(fO a4 a5 a6).bind fun v14=>(qI v12 v14).bind fun v16=>(fj v9 v10 v16).bind fun((v18,v19),v20)=>some ((v18,v19),v20)
theorem Gx{a1:Bool}{a2:Nat}{a3:Nat}{a4:Bool}{a5:Nat}{a6:Nat}{r22:Bool}{r23:Nat}{r24:Nat}(h:sS a1 a2 a3 a4 a5 a6=some ((r22,r23),r24)):bh PP 46 [] [D.agg ([D.bool a1,ao a2,ao a3]),D.agg ([D.bool a4,ao a5,ao a6])] [] (D.agg ([D.bool r22,ao r23,ao r24])):=by
 unfold sS at h;refine .of Go.Proofs.Tryz.func46 rfl (by kernel_rfl) rfl rfl rfl rfl rfl rfl (fun A w0 L b=>?_);show Ok PP _ [(0,D.agg ([D.bool a1,ao a2,ao a3])),(1,D.agg ([D.bool a4,ao a5,ao a6]))] [] _ _;refine .al (.i3 rfl rfl<|.i3 rfl rfl<|.fN ([D.bool false,ao 0,ao 0]) aI ⟨.refl _,bm,bm,trivial⟩ rfl<|.nil) rfl ?_;obtain⟨v7,e8,h⟩:=bind_some h;obtain⟨⟨v9,v10⟩,e11,h⟩:=bind_some h;obtain⟨v12,e13,h⟩:=bind_some h;obtain⟨v14,e15,h⟩:=bind_some h;obtain⟨v16,e17,h⟩:=bind_some h;obtain⟨⟨⟨v18,v19⟩,v20⟩,e21,h⟩:=bind_some h;refine .c_ cj (.fa rfl cu<|.fa rfl bb<|.bz (D.bool a1) rfl rfl bU rfl<|.fa rfl cu<|.fa rfl bb<|.bz (D.bool a4) rfl rfl bU rfl<|.bc i7 rfl rfl rfl<|.fa rfl cu<|.fa rfl aW<|.bz (ao a2) rfl rfl bj rfl<|.fa rfl cu<|.fa rfl aW<|.bz (ao a5) rfl rfl bj rfl<|.ag (uc e8) ⟨rfl,rfl,trivial⟩ trivial trivial<|.ag (fc e11) ⟨rfl,rfl,trivial⟩ trivial trivial<|.ck ([D.bool a1,ao a2,ao a3]) rfl rfl ae rfl rfl<|.ag (i6 e13) ⟨rfl,trivial⟩ trivial trivial<|.ck ([D.bool a4,ao a5,ao a6]) rfl rfl ae rfl rfl<|.ag (i6 e15) ⟨rfl,trivial⟩ trivial trivial<|.ag (uc e17) ⟨rfl,rfl,trivial⟩ trivial trivial<|.ag (lD e21) ⟨rfl,rfl,trivial⟩ trivial trivial<|.cW ([D.bool v18,ao v19,ao v20]) rfl rfl rfl ae rfl rfl rfl<|.nil) rfl (by kernel_rfl) ?_;cases h;refine .aQ (fun _ _ hb=>hb) rfl (.cons (.agg rfl rfl ae rfl) .nil) (.refl _) trivial trivial
def mW(a1:Bool)(a2:Nat)(a3:Nat)(a4:Bool)(a5:Nat)(a6:Nat):Option ((Bool×Nat)×Nat):=(fO a4 a5 a6).bind fun v7=>(qI a2 v7).bind fun v9=>(di (!(a1==a4)) v9).bind fun(v11,v12)=>(fO a1 a2 a3).bind fun v14=>(qI v14 a5).bind fun v16=>(fj v11 v12 v16).bind fun((v18,v19),v20)=>some ((v18,v19),v20)
theorem xL{a1:Bool}{a2:Nat}{a3:Nat}{a4:Bool}{a5:Nat}{a6:Nat}{r22:Bool}{r23:Nat}{r24:Nat}(h:mW a1 a2 a3 a4 a5 a6=some ((r22,r23),r24)):bh PP 164 [] [D.agg ([D.bool a1,ao a2,ao a3]),D.agg ([D.bool a4,ao a5,ao a6])] [] (D.agg ([D.bool r22,ao r23,ao r24])):=by
 unfold mW at h;refine .of Go.Proofs.Tryz.func164 rfl (by kernel_rfl) rfl rfl rfl rfl rfl rfl (fun A w0 L b=>?_);show Ok PP _ [(0,D.agg ([D.bool a1,ao a2,ao a3])),(1,D.agg ([D.bool a4,ao a5,ao a6]))] [] _ _;refine .al (.i3 rfl rfl<|.i3 rfl rfl<|.fN ([D.bool false,ao 0,ao 0]) aI ⟨.refl _,bm,bm,trivial⟩ rfl<|.nil) rfl ?_;obtain⟨v7,e8,h⟩:=bind_some h;obtain⟨v9,e10,h⟩:=bind_some h;obtain⟨⟨v11,v12⟩,e13,h⟩:=bind_some h;obtain⟨v14,e15,h⟩:=bind_some h;obtain⟨v16,e17,h⟩:=bind_some h;obtain⟨⟨⟨v18,v19⟩,v20⟩,e21,h⟩:=bind_some h;refine .c_ cj (.fa rfl cu<|.fa rfl bb<|.bz (D.bool a1) rfl rfl bU rfl<|.fa rfl cu<|.fa rfl bb<|.bz (D.bool a4) rfl rfl bU rfl<|.bc i7 rfl rfl rfl<|.fa rfl cu<|.fa rfl aW<|.bz (ao a2) rfl rfl bj rfl<|.ck ([D.bool a4,ao a5,ao a6]) rfl rfl ae rfl rfl<|.ag (i6 e8) ⟨rfl,trivial⟩ trivial trivial<|.ag (uc e10) ⟨rfl,rfl,trivial⟩ trivial trivial<|.ag (fc e13) ⟨rfl,rfl,trivial⟩ trivial trivial<|.ck ([D.bool a1,ao a2,ao a3]) rfl rfl ae rfl rfl<|.ag (i6 e15) ⟨rfl,trivial⟩ trivial trivial<|.fa rfl cu<|.fa rfl aW<|.bz (ao a5) rfl rfl bj rfl<|.ag (uc e17) ⟨rfl,rfl,trivial⟩ trivial trivial<|.ag (lD e21) ⟨rfl,rfl,trivial⟩ trivial trivial<|.cW ([D.bool v18,ao v19,ao v20]) rfl rfl rfl ae rfl rfl rfl<|.nil) rfl (by kernel_rfl) ?_;cases h;refine .aQ (fun _ _ hb=>hb) rfl (.cons (.agg rfl rfl ae rfl) .nil) (.refl _) trivial trivial
def nP(a1:Bool)(a2:Nat)(a3:Nat):Option Int:=(jK a1 a2).bind fun v4=>some v4
theorem yB{a1:Bool}{a2:Nat}{a3:Nat}{r6:Int}(h:nP a1 a2 a3=some r6):bh PP 24 [] [D.agg ([D.bool a1,ao a2,ao a3])] [] (D.int .i64 r6):=by
 unfold nP at h;refine .of Go.Proofs.Tryz.func24 rfl (by kernel_rfl) rfl rfl rfl rfl rfl rfl (fun A w0 L b=>?_);show Ok PP _ [(0,D.agg ([D.bool a1,ao a2,ao a3]))] [] _ _;refine .al (.i3 rfl rfl<|.aq rfl<|.nil) rfl ?_;obtain⟨v4,e5,h⟩:=bind_some h;refine .al (.fa rfl cu<|.ck ([D.bool a1,ao a2]) rfl rfl bD rfl rfl<|.ag (xg e5) ⟨rfl,trivial⟩ trivial trivial<|.aq rfl<|.nil) rfl ?_;cases h;refine .aQ (fun _ _ hb=>hb) rfl (.t1 (.tmp rfl)) (.refl _) trivial trivial
def sF(a1:Bool)(a2:Nat)(a3:Nat):Option ((Bool×Nat)×Nat):=(di false a2).bind fun(v4,v5)=>some ((v4,v5),a3)
theorem Gr{a1:Bool}{a2:Nat}{a3:Nat}{r7:Bool}{r8:Nat}{r9:Nat}(h:sF a1 a2 a3=some ((r7,r8),r9)):bh PP 50 [] [D.agg ([D.bool a1,ao a2,ao a3])] [] (D.agg ([D.bool r7,ao r8,ao r9])):=by
 unfold sF at h;refine .of Go.Proofs.Tryz.func50 rfl (by kernel_rfl) rfl rfl rfl rfl rfl rfl (fun A w0 L b=>?_);show Ok PP _ [(0,D.agg ([D.bool a1,ao a2,ao a3]))] [] _ _;refine .al (.i3 rfl rfl<|.fN ([D.bool false,ao 0,ao 0]) aI ⟨.refl _,bm,bm,trivial⟩ rfl<|.nil) rfl ?_;obtain⟨⟨v4,v5⟩,e6,h⟩:=bind_some h;refine .c_ cj (.fa rfl cu<|.fa rfl aW<|.bz (ao a2) rfl rfl bj rfl<|.ag (fc e6) ⟨rfl,rfl,trivial⟩ trivial trivial<|.fa rfl l6<|.bz (ao a3) rfl rfl bj rfl<|.ox ([D.bool v4,ao v5,ao a3]) [(0,_,D.agg ([D.bool v4,ao v5]),[D.bool v4,ao v5]),(2,_,ao a3,[ao a3])] aI da ⟨rfl,rfl,.agg _,rfl,rfl,rfl,.one rfl,rfl,trivial⟩ ⟨rfl,rfl,trivial⟩ ⟨.refl _,.refl _,.refl _,trivial⟩<|.cW ([D.bool v4,ao v5,ao a3]) rfl rfl rfl ae rfl rfl rfl<|.nil) rfl (by kernel_rfl) ?_;cases h;refine .aQ (fun _ _ hb=>hb) rfl (.cons (.agg rfl rfl ae rfl) .nil) (.refl _) trivial trivial
def sN(a1:Bool)(a2:Nat)(a3:Nat)(a4:Bool)(a5:Nat)(a6:Nat):Option Int:=(fO a4 a5 a6).bind fun v7=>(eX a1 a2 v7).bind fun(v9,v10)=>(fO a1 a2 a3).bind fun v12=>(eX a4 a5 v12).bind fun(v14,v15)=>(ks v9 v10 v14 v15).bind fun v17=>some v17
theorem FZ{a1:Bool}{a2:Nat}{a3:Nat}{a4:Bool}{a5:Nat}{a6:Nat}{r19:Int}(h:sN a1 a2 a3 a4 a5 a6=some r19):bh PP 35 [] [D.agg ([D.bool a1,ao a2,ao a3]),D.agg ([D.bool a4,ao a5,ao a6])] [] (D.int .i64 r19):=by
 unfold sN at h;refine .of Go.Proofs.Tryz.func35 rfl (by kernel_rfl) rfl rfl rfl rfl rfl rfl (fun A w0 L b=>?_);show Ok PP _ [(0,D.agg ([D.bool a1,ao a2,ao a3])),(1,D.agg ([D.bool a4,ao a5,ao a6]))] [] _ _;refine .al (.i3 rfl rfl<|.i3 rfl rfl<|.aq rfl<|.nil) rfl ?_;obtain⟨v7,e8,h⟩:=bind_some h;obtain⟨⟨v9,v10⟩,e11,h⟩:=bind_some h;obtain⟨v12,e13,h⟩:=bind_some h;obtain⟨⟨v14,v15⟩,e16,h⟩:=bind_some h;obtain⟨v17,e18,h⟩:=bind_some h;refine .c_ cj (.fa rfl cu<|.ck ([D.bool a1,ao a2]) rfl rfl bD rfl rfl<|.ck ([D.bool a4,ao a5,ao a6]) rfl rfl ae rfl rfl<|.ag (i6 e8) ⟨rfl,trivial⟩ trivial trivial<|.ag (j9 e11) ⟨rfl,rfl,trivial⟩ trivial trivial<|.fa rfl cu<|.ck ([D.bool a4,ao a5]) rfl rfl bD rfl rfl<|.ck ([D.bool a1,ao a2,ao a3]) rfl rfl ae rfl rfl<|.ag (i6 e13) ⟨rfl,trivial⟩ trivial trivial<|.ag (j9 e16) ⟨rfl,rfl,trivial⟩ trivial trivial<|.ag (xY e18) ⟨rfl,rfl,trivial⟩ trivial trivial<|.aq rfl<|.nil) rfl (by kernel_rfl) ?_;cases h;refine .aQ (fun _ _ hb=>hb) rfl (.t1 (.tmp rfl)) (.refl _) trivial trivial
def s9(a1:Bool)(a2:Nat)(a3:Nat):Option ((Bool×Nat)×Nat):=(fO a1 a2 a3).bind fun v4=>(uY false v4).bind fun((v6,v7),v8)=>some ((v6,v7),v8)
theorem Gf{a1:Bool}{a2:Nat}{a3:Nat}{r10:Bool}{r11:Nat}{r12:Nat}(h:s9 a1 a2 a3=some ((r10,r11),r12)):bh PP 76 [] [D.agg ([D.bool a1,ao a2,ao a3])] [] (D.agg ([D.bool r10,ao r11,ao r12])):=by
 unfold s9 at h;refine .of Go.Proofs.Tryz.func76 rfl (by kernel_rfl) rfl rfl rfl rfl rfl rfl (fun A w0 L b=>?_);show Ok PP _ [(0,D.agg ([D.bool a1,ao a2,ao a3]))] [] _ _;refine .al (.i3 rfl rfl<|.fN ([D.bool false,ao 0,ao 0]) aI ⟨.refl _,bm,bm,trivial⟩ rfl<|.nil) rfl ?_;obtain⟨v4,e5,h⟩:=bind_some h;obtain⟨⟨⟨v6,v7⟩,v8⟩,e9,h⟩:=bind_some h;refine .al (.ck ([D.bool a1,ao a2,ao a3]) rfl rfl ae rfl rfl<|.ag (i6 e5) ⟨rfl,trivial⟩ trivial trivial<|.ox ([D.bool false,ao v4]) [(1,_,ao v4,[ao v4])] eB iz ⟨rfl,rfl,.one rfl,rfl,trivial⟩ ⟨rfl,trivial⟩ ⟨.refl _,.refl _,trivial⟩<|.ag (C7 e9) ⟨rfl,trivial⟩ trivial trivial<|.cW ([D.bool v6,ao v7,ao v8]) rfl rfl rfl ae rfl rfl rfl<|.nil) rfl ?_;cases h;refine .aQ (fun _ _ hb=>hb) rfl (.cons (.agg rfl rfl ae rfl) .nil) (.refl _) trivial trivial
def oZ(a1:Bool)(a2:Nat)(a3:Nat):Option ((Bool×Nat)×Nat):=(fO a1 a2 a3).bind fun v4=>(iW a1 a2 v4).bind fun(v6,v7)=>(uY v6 v7).bind fun((v9,v10),v11)=>some ((v9,v10),v11)
theorem BL{a1:Bool}{a2:Nat}{a3:Nat}{r13:Bool}{r14:Nat}{r15:Nat}(h:oZ a1 a2 a3=some ((r13,r14),r15)):bh PP 78 [] [D.agg ([D.bool a1,ao a2,ao a3])] [] (D.agg ([D.bool r13,ao r14,ao r15])):=by
 unfold oZ at h;refine .of Go.Proofs.Tryz.func78 rfl (by kernel_rfl) rfl rfl rfl rfl rfl rfl (fun A w0 L b=>?_);show Ok PP _ [(0,D.agg ([D.bool a1,ao a2,ao a3]))] [] _ _;refine .al (.i3 rfl rfl<|.fN ([D.bool false,ao 0,ao 0]) aI ⟨.refl _,bm,bm,trivial⟩ rfl<|.nil) rfl ?_;obtain⟨v4,e5,h⟩:=bind_some h;obtain⟨⟨v6,v7⟩,e8,h⟩:=bind_some h;obtain⟨⟨⟨v9,v10⟩,v11⟩,e12,h⟩:=bind_some h;refine .c_ cj (.fa rfl cu<|.ck ([D.bool a1,ao a2]) rfl rfl bD rfl rfl<|.ck ([D.bool a1,ao a2,ao a3]) rfl rfl ae rfl rfl<|.ag (i6 e5) ⟨rfl,trivial⟩ trivial trivial<|.ag (vh e8) ⟨rfl,rfl,trivial⟩ trivial trivial<|.ag (C7 e12) ⟨rfl,trivial⟩ trivial trivial<|.cW ([D.bool v9,ao v10,ao v11]) rfl rfl rfl ae rfl rfl rfl<|.nil) rfl (by kernel_rfl) ?_;cases h;refine .aQ (fun _ _ hb=>hb) rfl (.cons (.agg rfl rfl ae rfl) .nil) (.refl _) trivial trivial
def rP(a1:Int):Option ((Bool×Nat)×Nat):=(nj 1).bind fun v2=>(vB v2 a1).bind fun v4=>(uY false v4).bind fun((v6,v7),v8)=>some ((v6,v7),v8)
theorem HN{a1:Int}{r10:Bool}{r11:Nat}{r12:Nat}(h:rP a1=some ((r10,r11),r12)):bh PP 171 [] [D.int .i64 a1] [] (D.agg ([D.bool r10,ao r11,ao r12])):=by
 unfold rP at h;refine .of Go.Proofs.Tryz.func171 rfl (by kernel_rfl) rfl rfl rfl rfl rfl rfl (fun A w0 L b=>?_);show Ok PP _ [(0,D.int .i64 a1)] [] _ _;refine .al (.fN ([D.bool false,ao 0,ao 0]) aI ⟨.refl _,bm,bm,trivial⟩ rfl<|.nil) rfl ?_;obtain⟨v2,e3,h⟩:=bind_some h;obtain⟨v4,e5,h⟩:=bind_some h;obtain⟨⟨⟨v6,v7⟩,v8⟩,e9,h⟩:=bind_some h;refine .al (.ag (uZ e3) ⟨rfl,trivial⟩ trivial trivial<|.mv rfl<|.ag (DN e5) ⟨rfl,rfl,trivial⟩ trivial trivial<|.ox ([D.bool false,ao v4]) [(1,_,ao v4,[ao v4])] eB iz ⟨rfl,rfl,.one rfl,rfl,trivial⟩ ⟨rfl,trivial⟩ ⟨.refl _,.refl _,trivial⟩<|.ag (C7 e9) ⟨rfl,trivial⟩ trivial trivial<|.cW ([D.bool v6,ao v7,ao v8]) rfl rfl rfl ae rfl rfl rfl<|.nil) rfl ?_;cases h;refine .aQ (fun _ _ hb=>hb) rfl (.cons (.agg rfl rfl ae rfl) .nil) (.refl _) trivial trivial
def pX(a1:Bool)(a2:Nat)(a3:Nat)(a4:Int):Option (((Bool×Nat)×Nat)×Int):=(if(decide (a4<0))=true then some (((false,0),0),3)else(if(decide (a4>64))=true then some (((false,0),0),3)else(nP a1 a2 a3).bind fun v7=>(if(decide (v7<0))=true then some (((false,0),0),8)else(vB a2 (IntKind.i64.wrap (2*a4))).bind fun v10=>(fO a1 a2 a3).bind fun v12=>(lY v10 v12).bind fun(v14,v15)=>(zo v14).bind fun v17=>(uY false v17).bind fun((v19,v20),v21)=>(rP a4).bind fun((v23,v24),v25)=>(mW v19 v20 v21 v23 v24 v25).bind fun((v27,v28),v29)=>some (((v27,v28),v29),0))))
theorem tu{a1:Bool}{a2:Nat}{a3:Nat}{a4:Int}{r31:Bool}{r32:Nat}{r33:Nat}{r34:Int}(h:pX a1 a2 a3 a4=some (((r31,r32),r33),r34)):bh PP 29 [] [D.agg ([D.bool a1,ao a2,ao a3]),D.int .i64 a4] [] (D.ig [D.agg ([D.bool r31,ao r32,ao r33]),D.int .i64 r34]):=by
 unfold pX at h;refine .of Go.Proofs.Tryz.func29 rfl (by kernel_rfl) rfl rfl rfl rfl rfl rfl (fun A w0 L b=>?_);show Ok PP _ [(0,D.agg ([D.bool a1,ao a2,ao a3])),(1,D.int .i64 a4)] [] _ _;refine .al (.i3 rfl rfl<|.fN ([D.bool false,ao 0,ao 0]) aI ⟨.refl _,bm,bm,trivial⟩ rfl<|.aq rfl<|.nil) rfl ?_;refine .sq ?_;refine .block ?_;by_cases c5:(decide (a4<0))=true
 ·replace h:=aa c5 h;refine .al (.mv rfl<|.cm rfl rfl rfl<|.mv rfl<|.eh rfl rfl rfl c5<|.eh rfl rfl rfl c5<|.aZ rfl c5 rfl<|.aq rfl<|.nil) rfl ?_;refine .cp rfl rfl ?_;refine .al (.ox ([D.bool false,ao 0,ao 0]) [] aI da trivial trivial ⟨.refl _,bm,bm,trivial⟩<|.cW ([D.bool false,ao 0,ao 0]) rfl rfl rfl ae rfl rfl rfl<|.aq rfl<|.nil) rfl ?_;cases h;refine .aQ (fun _ _ hb=>hb) rfl (.cons (.agg rfl rfl ae rfl) (.t1 (.tmp rfl))) (.refl _) trivial trivial
 ·replace h:=ab c5 h;refine .al (.mv rfl<|.cm rfl rfl rfl<|.mv rfl<|.cx rfl rfl rfl c5<|.mv rfl<|.cx rfl rfl rfl c5<|.cm rfl rfl rfl<|.aV rfl c5 rfl<|.aq rfl<|.nil) rfl ?_;by_cases c6:(decide (a4>64))=true
  ·replace h:=aa c6 h;refine .cp rfl c6 ?_;refine .al (.ox ([D.bool false,ao 0,ao 0]) [] aI da trivial trivial ⟨.refl _,bm,bm,trivial⟩<|.cW ([D.bool false,ao 0,ao 0]) rfl rfl rfl ae rfl rfl rfl<|.aq rfl<|.nil) rfl ?_;cases h;refine .aQ (fun _ _ hb=>hb) rfl (.cons (.agg rfl rfl ae rfl) (.t1 (.tmp rfl))) (.refl _) trivial trivial
  ·replace h:=ab c6 h;refine .ct rfl c6 ?_;obtain⟨v7,e8,h⟩:=bind_some h;refine .al (.ck ([D.bool a1,ao a2,ao a3]) rfl rfl ae rfl rfl<|.ag (yB e8) ⟨rfl,trivial⟩ trivial trivial<|.cm rfl rfl rfl<|.aq rfl<|.nil) rfl ?_;by_cases c9:(decide (v7<0))=true
   ·replace h:=aa c9 h;refine .cp rfl c9 ?_;refine .al (.ox ([D.bool false,ao 0,ao 0]) [] aI da trivial trivial ⟨.refl _,bm,bm,trivial⟩<|.cW ([D.bool false,ao 0,ao 0]) rfl rfl rfl ae rfl rfl rfl<|.aq rfl<|.nil) rfl ?_;cases h;refine .aQ (fun _ _ hb=>hb) rfl (.cons (.agg rfl rfl ae rfl) (.t1 (.tmp rfl))) (.refl _) trivial trivial
   ·replace h:=ab c9 h;refine .ct rfl c9 ?_;refine .skip (Ok.on ?_);obtain⟨v10,e11,h⟩:=bind_some h;obtain⟨v12,e13,h⟩:=bind_some h;obtain⟨⟨v14,v15⟩,e16,h⟩:=bind_some h;refine .c_ cj (.fa rfl cu<|.fa rfl aW<|.bz (ao a2) rfl rfl bj rfl<|.mv rfl<|.ar rfl rfl rfl<|.ag (DN e11) ⟨rfl,rfl,trivial⟩ trivial trivial<|.ck ([D.bool a1,ao a2,ao a3]) rfl rfl ae rfl rfl<|.ag (i6 e13) ⟨rfl,trivial⟩ trivial trivial<|.ag (rW e16) ⟨rfl,rfl,trivial⟩ trivial trivial<|.mv rfl<|.ext rfl rfl<|.ext rfl rfl<|.aq rfl<|.aq rfl<|.nil) rfl (by kernel_rfl) ?_;obtain⟨v17,e18,h⟩:=bind_some h;obtain⟨⟨⟨v19,v20⟩,v21⟩,e22,h⟩:=bind_some h;obtain⟨⟨⟨v23,v24⟩,v25⟩,e26,h⟩:=bind_some h;obtain⟨⟨⟨v27,v28⟩,v29⟩,e30,h⟩:=bind_some h;refine .al (.mv rfl<|.ag (Hy e18) ⟨rfl,trivial⟩ trivial trivial<|.ox ([D.bool false,ao v17]) [(1,_,ao v17,[ao v17])] eB iz ⟨rfl,rfl,.one rfl,rfl,trivial⟩ ⟨rfl,trivial⟩ ⟨.refl _,.refl _,trivial⟩<|.ag (C7 e22) ⟨rfl,trivial⟩ trivial trivial<|.mv rfl<|.ag (HN e26) ⟨rfl,trivial⟩ trivial trivial<|.ag (xL e30) ⟨rfl,rfl,trivial⟩ trivial trivial<|.cW ([D.bool v27,ao v28,ao v29]) rfl rfl rfl ae rfl rfl rfl<|.aq rfl<|.nil) rfl ?_;cases h;refine .aQ (fun _ _ hb=>hb) rfl (.cons (.agg rfl rfl ae rfl) (.t1 (.tmp rfl))) (.refl _) trivial trivial
end
end Go.Am
namespace Go.Am
open Go.RowKit
theorem dp{x y m n:Nat}(h:bO x<=m)(k:bO y<=n):bO (x*y)<=m+n:=by
 rw[ik]at*;rw[Nat.pow_add];exact Nat.mul_lt_mul'' h k
theorem kB{x y:Int}{n:Nat}(h:bO x.natAbs<=n)(k:bO y.natAbs<=n):bO (x+y).natAbs<=n+1:=
 Nat.le_trans (dJ (Int.natAbs_add_le x y)) (q5 h k)
def sg(neg:Bool)(n:Nat):Int:=if neg then-(n:Int)else n
theorem Fb(z:Int):sg (decide (z<0)) z.natAbs=z:=by
 unfold sg;by_cases h:z<0
 ·rw[decide_eq_true h,if_pos rfl];omega
 ·rw[decide_eq_false h,if_neg (by decide)];omega
theorem n8(neg:Bool)(n:Nat):(sg neg n).natAbs=n:=by unfold sg;split<;>omega
theorem zq(z w:Int):sg (!(decide (z<0)==decide (w<0))) (z.natAbs*w.natAbs)=z*w:=by
 unfold sg;rcases Int.lt_or_le z 0 with h|h<;>rcases Int.lt_or_le w 0 with k|k
 ·rw[decide_eq_true h,decide_eq_true k,if_neg (by decide)];rw[Int.natCast_mul,Int.ofNat_natAbs_of_nonpos (Int.le_of_lt h),Int.ofNat_natAbs_of_nonpos (Int.le_of_lt k),Int.neg_mul_neg]
 ·rw[decide_eq_true h,decide_eq_false (by omega),if_pos (by decide)];rw[Int.natCast_mul,Int.ofNat_natAbs_of_nonpos (Int.le_of_lt h),Int.natAbs_of_nonneg k,Int.neg_mul,Int.neg_neg]
 ·rw[decide_eq_false (by omega),decide_eq_true k,if_pos (by decide)];rw[Int.natCast_mul,Int.natAbs_of_nonneg h,Int.ofNat_natAbs_of_nonpos (Int.le_of_lt k),Int.mul_neg,Int.neg_neg]
 ·rw[decide_eq_false (by omega),decide_eq_false (by omega),if_neg (by decide)];rw[Int.natCast_mul,Int.natAbs_of_nonneg h,Int.natAbs_of_nonneg k]
theorem GG(z:Int)(d:Nat):sg (decide (z<0)) (z.natAbs*d)=z*d:=by
 have:=zq z d;rw[show decide ((d:Int)<0)=false from decide_eq_false (by omega)]at this;rw[←this];cases decide (z<0)<;>rfl
theorem DH(z:Int):sg (!decide (z<0)) z.natAbs=-z:=by
 unfold sg;by_cases h:z<0
 ·rw[decide_eq_true h,if_neg (by decide)];omega
 ·rw[decide_eq_false h,if_pos (by decide)];omega
theorem nG(n:Nat):decide (((aL n).length:Int)>0)=decide (n≠0):=by
 by_cases h:n=0
 ·subst h;rw[dC];rfl
 ·have:=dv h;rw[decide_eq_true (by omega),decide_eq_true h]
theorem qX(n:Nat):(((aL n).length:Int)==0)=decide (n=0):=by
 by_cases h:n=0
 ·subst h;rw[dC];rfl
 ·have:=dv h;rw[decide_eq_false h,beq_eq_false_iff_ne];omega
theorem ee(neg:Bool)(n:Nat):di neg n=some (decide (sg neg n<0),(sg neg n).natAbs):=by
 unfold di;rw[n8,nG];cases neg
 ·rw[if_neg (by decide)];unfold sg;rw[if_neg (by decide),decide_eq_false (by omega)]
 ·rw[if_pos rfl];unfold sg;rw[if_pos rfl];by_cases h:n=0
  ·subst h;rfl
  ·rw[decide_eq_true h,decide_eq_true (by omega)]
theorem u_(z:Int):jK (decide (z<0)) z.natAbs=some (if z<0 then-1 else if z=0 then 0 else 1):=by
 unfold jK;rw[qX];by_cases h:z<0
 ·rw[if_pos (decide_eq_true h),if_pos h]
 ·rw[if_neg (by simpa using h),if_neg h];by_cases h0:z=0
  ·subst h0;rfl
  ·rw[if_neg (by simpa using h0),if_neg h0]
theorem wv(z w:Int)(hz:sm z.natAbs)(hw:sm w.natAbs):ky (decide (z<0)) z.natAbs (decide (w<0)) w.natAbs=some (decide (z+w<0),(z+w).natAbs):=by
 unfold ky;have e1:∀(neg:Bool) (n:Nat),sg neg n=z+w->di neg n=some (decide (z+w<0),(z+w).natAbs):=fun neg n h=>by rw[ee,h]
 by_cases hs:(decide (z<0)==decide (w<0))=true
 ·rw[if_pos hs,qY hz hw,Option.bind_some,e1]
  ·rfl
  ·unfold sg;rw[beq_iff_eq]at hs;by_cases h:z<0
   ·rw[decide_eq_true h]at*;have hs:=of_decide_eq_true hs.symm;rw[if_pos rfl];omega
   ·rw[decide_eq_false h]at*;have hs:=of_decide_eq_false hs.symm;rw[if_neg (by decide)];omega
 ·rw[if_neg hs,p9 hz hw,Option.bind_some];have hs2:(z<0/\0<=w)\/(0<=z/\w<0):=by
   rw[beq_iff_eq]at hs;by_cases h:z<0<;>by_cases k:w<0
   ·rw[decide_eq_true h,decide_eq_true k]at hs;exact absurd rfl hs
   ·left;omega
   ·right;omega
   ·rw[decide_eq_false h,decide_eq_false k]at hs;exact absurd rfl hs
  by_cases hc:w.natAbs<=z.natAbs
  ·rw[if_pos (decide_eq_true (qA hc)),tX hc hz,Option.bind_some,e1]
   ·rfl
   ·unfold sg;split<;>rename_i h<;>simp only[decide_eq_true_eq]at h<;>omega
  ·have:fK z.natAbs w.natAbs=-1:=by unfold fK;rw[if_pos (by omega)]
   rw[this,if_neg (by decide),tX (by omega) hw,Option.bind_some,e1]
   ·rfl
   ·unfold sg;split<;>rename_i h<;>simp only[decide_eq_true_eq]at h<;>omega
theorem jq(z:Int)(d:Nat)(hz:sm z.natAbs)(hd:sm d):eX (decide (z<0)) z.natAbs d=some (decide (z*d<0),(z*d).natAbs):=by
 unfold eX;rw[lC hz hd,Option.bind_some,ee,GG];rfl
def BM(z w:Int):Int:=if z<w then-1 else if w<z then 1 else 0
theorem wH(z w:Int)(hz:sm z.natAbs)(hw:sm w.natAbs):ks (decide (z<0)) z.natAbs (decide (w<0)) w.natAbs=some (BM z w):=by
 unfold ks BM;by_cases h:z<0<;>by_cases k:w<0
 ·rw[decide_eq_true h,decide_eq_true k,if_neg (by decide),if_pos rfl,p9 hw hz];simp only[Option.bind_some,fK];congr 1;split<;>split<;>(try split)<;>(try split)<;>omega
 ·rw[decide_eq_true h,decide_eq_false k,if_pos (by decide),if_pos rfl,if_pos (by omega)]
 ·rw[decide_eq_false h,decide_eq_true k,if_pos (by decide),if_neg (by decide),if_neg (by omega),if_pos (by omega)]
 ·rw[decide_eq_false h,decide_eq_false k,if_neg (by decide),if_neg (by decide),p9 hz hw];simp only[Option.bind_some,fK];congr 1;split<;>split<;>(try split)<;>(try split)<;>omega
theorem tV(z:Int)(d:Nat)(h0:d≠0)(hz:sm z.natAbs)(hd:sm d):iW (decide (z<0)) z.natAbs d=some (decide (z/d<0),(z/d).natAbs):=by
 unfold iW;rw[jM h0 hz hd,Option.bind_some];simp only;have hm:=Nat.div_add_mod z.natAbs d;have hlt:=Nat.mod_lt z.natAbs (Nat.pos_of_ne_zero h0);have hq:sm (z.natAbs/d):=nv (Nat.div_le_self _ _) hz;have e1:nj (1:Int)=some 1:=kU (n:=1) (by omega);rw[e1,nG];have hsm1:sm 1:=jQ (by omega);by_cases h:z<0
 ·rw[decide_eq_true h,if_pos rfl];by_cases hr:z.natAbs%d=0
  ·rw[if_neg (by simpa using hr),Option.bind_some,ee];have:sg true (z.natAbs/d)=z/d:=by
    unfold sg;rw[if_pos rfl]
    symm;apply Int.ediv_eq_of_eq_mul_left (by omega)
    rw[Int.neg_mul,←Int.natCast_mul,Nat.mul_comm];omega
   rw[this];rfl
  ·rw[if_pos (by simpa using hr),Option.bind_some,qY hq hsm1,Option.bind_some,Option.bind_some,ee];have:sg true (z.natAbs/d+1)=z/d:=by
    unfold sg;rw[if_pos rfl]
    symm
    have e:z=(((d-z.natAbs%d:Nat)):Int)+(d:Int)*(-((z.natAbs/d+1:Nat):Int)):=by
     have:((d*(z.natAbs/d):Nat):Int)=(d:Int)*((z.natAbs/d:Nat):Int):=Int.natCast_mul _ _;rw[Int.mul_neg,Int.natCast_add,Int.mul_add];omega
    rw[e,Int.add_mul_ediv_left _ _ (by omega),Int.ediv_eq_zero_of_lt (by omega) (by omega)];rw[←e];omega
   rw[this];rfl
 ·rw[decide_eq_false h,if_neg (by decide),Option.bind_some,ee];have:sg false (z.natAbs/d)=z/d:=by
   unfold sg;rw[if_neg (by decide),Int.natCast_ediv];congr 1;omega
  rw[this];rfl
theorem nk(n:Int)(h:fq n):iu n=some n.natAbs:=by
 unfold iu;obtain⟨h0,h1⟩:=h;by_cases hn:n<0
 ·have e1:IntKind.u64.wrap (0-IntKind.u64.wrap n)=((n.natAbs:Nat):Int):=by
   rw[IntKind.wrap_u64,IntKind.wrap_u64];omega
  rw[if_pos (decide_eq_true hn),e1,kU (by omega)];rfl
 ·have e1:IntKind.u64.wrap n=((n.natAbs:Nat):Int):=by rw[IntKind.wrap_u64];omega
  rw[if_neg (by simpa using hn),e1,kU (by omega)];rfl
end Go.Am
namespace Go.Am
open Go.RowKit
abbrev rp(x:Rat):(Bool×Nat)×Nat:=((decide (x.num<0),x.num.natAbs),x.den-1)
theorem CZ{g:Nat}(h:g≠0):ix (aL g) 0=some (g%4294967296):=by
 rw[lF h];rfl
theorem tv(z:Int)(d:Nat)(hd:d≠0):(mkRat z d).num=z/((Nat.gcd z.natAbs d:Nat):Int)/\(mkRat z d).den=d/Nat.gcd z.natAbs d:=by
 rw[Rat.num_mkRat,Rat.den_mkRat,if_neg hd,if_neg hd,Nat.gcd_comm];exact⟨rfl,rfl⟩
theorem D5(z:Int)(g:Nat)(hg:g∣z.natAbs):sg (decide (z<0)) (z.natAbs/g)=z/(g:Int):=by
 obtain⟨k,hk⟩:=hg;rcases Nat.eq_zero_or_pos g with h0|h0
 ·subst h0;rw[Nat.zero_mul]at hk;have:z=0:=by omega
  subst this;rfl
 rw[hk,Nat.mul_div_cancel_left _ h0];unfold sg;by_cases h:z<0
 ·rw[decide_eq_true h,if_pos rfl]
  symm;apply Int.ediv_eq_of_eq_mul_right (by omega)
  rw[Int.mul_neg,←Int.natCast_mul];omega
 ·rw[decide_eq_false h,if_neg (by decide)]
  symm;apply Int.ediv_eq_of_eq_mul_right (by omega)
  rw[←Int.natCast_mul];omega
theorem ki(z:Int)(d:Nat)(hd:d≠0)(hz:sm z.natAbs)(hs:sm d):fj (decide (z<0)) z.natAbs d=some (rp (mkRat z d)):=by
 obtain⟨e1,e2⟩:=tv z d hd;unfold fj rp;rw[Eu hz hs,Option.bind_some,e1,e2];have hg0:Nat.gcd z.natAbs d≠0:=fun h=>hd (Nat.eq_zero_of_gcd_eq_zero_right h);have hgd:Nat.gcd z.natAbs d∣d:=Nat.gcd_dvd_right _ _;have hgs:sm (Nat.gcd z.natAbs d):=nv (Nat.le_of_dvd (Nat.pos_of_ne_zero hd) hgd) hs;have hsg:=D5 z _ (Nat.gcd_dvd_left z.natAbs d);have hq1:d/Nat.gcd z.natAbs d≠0:=Nat.pos_iff_ne_zero.1 (Nat.div_pos (Nat.le_of_dvd (Nat.pos_of_ne_zero hd) hgd) (Nat.pos_of_ne_zero hg0));have hq2:sm (d/Nat.gcd z.natAbs d):=nv (Nat.div_le_self _ _) hs;generalize Nat.gcd z.natAbs d=g at*;have dw:(if(((aL g).length:Int) !=1)=true then(lY z.natAbs g).bind fun(v9,v10)=>(lY d g).bind fun(v12,v13)=>some ((v12,v9))else(ix (aL g) 0).bind fun v15=>(if((v15:Int) !=1)=true then(lY z.natAbs g).bind fun(v18,v19)=>(lY d g).bind fun(v21,v22)=>some ((v21,v18))else some ((d,z.natAbs))))=some (d/g,z.natAbs/g):=by
  by_cases h1:(((aL g).length:Int) !=1)=true
  ·rw[if_pos h1,jM hg0 hz hgs,Option.bind_some];dsimp only;rw[jM hg0 hs hgs,Option.bind_some]
  ·rw[if_neg h1,CZ hg0,Option.bind_some];by_cases h2:(((g%4294967296:Nat):Int) !=1)=true
   ·rw[if_pos h2,jM hg0 hz hgs,Option.bind_some];dsimp only;rw[jM hg0 hs hgs,Option.bind_some]
   ·rw[if_neg h2];have h3:(aL g).length=1:=by
     have:((aL g).length:Int)=1:=by simpa using h1
     omega
    have:=l_ (x:=g);rw[h3]at this;have h4:g%4294967296=1:=by simp at h2;omega
    have:g=1:=by omega
    subst this;rw[Nat.div_one,Nat.div_one]
 rw[dw,Option.bind_some];simp only;rw[ee,hsg,Option.bind_some];simp only;have e3:nj (1:Int)=some 1:=kU (n:=1) (by omega);rw[e3,Option.bind_some,tX (by omega) hq2];rfl
def qw(x:Rat):Prop:=sz x<=2000000000000
theorem jT{x:Rat}(h:dm x):qw x:=Nat.le_trans h (by omega)
theorem pI{x:Rat}(h:qw x):bO x.num.natAbs<=2000000000000:=Nat.le_trans (Nat.le_max_left _ _) h
theorem pS{x:Rat}(h:qw x):bO x.den<=2000000000000:=Nat.le_trans (Nat.le_max_right _ _) h
theorem gf{x n:Nat}(h:bO x<=n)(k:n<=4398046511104):sm x:=Nat.le_trans h k
theorem fR{x:Rat}(h:qw x):sm x.num.natAbs:=gf (pI h) (by omega)
theorem eL{x:Rat}(h:qw x):sm x.den:=gf (pS h) (by omega)
theorem my{a b:Rat}(h:qw a)(k:qw b):bO (a.num*b.den).natAbs<=4000000000000:=by
 rw[Int.natAbs_mul];exact Nat.le_trans (dp (pI h) (pS k)) (by omega)
theorem A8{a b:Rat}(h:qw a)(k:qw b):bO (a.den*b.den)<=4000000000000:=Nat.le_trans (dp (pS h) (pS k)) (by omega)
theorem G1{a b:Rat}(h:qw a)(k:qw b):bO (a.num*b.num).natAbs<=4000000000000:=by
 rw[Int.natAbs_mul];exact Nat.le_trans (dp (pI h) (pI k)) (by omega)
theorem gQ(a:Rat)(neg:Bool)(n:Nat)(h:qw a):fO neg n (a.den-1)=some a.den:=by
 unfold fO;have e3:nj (1:Int)=some 1:=kU (n:=1) (by omega);have:=a.den_pos;rw[e3,Option.bind_some,qY (nv (Nat.sub_le _ _) (eL h)) (jQ (by omega)),Nat.sub_add_cancel this];rfl
theorem x8(a b:Rat)(h:qw a)(k:qw b):qg (decide (a.num<0)) a.num.natAbs (a.den-1) (decide (b.num<0)) b.num.natAbs (b.den-1)=some (rp (a+b)):=by
 unfold qg;rw[gQ a _ _ h,Option.bind_some,gQ b _ _ k,Option.bind_some,jq _ _ (fR h) (eL k),Option.bind_some];simp only;rw[jq _ _ (fR k) (eL h),Option.bind_some];simp only;rw[wv _ _ (gf (my h k) (by omega)) (gf (my k h) (by omega)),Option.bind_some];simp only;rw[lC (eL h) (eL k),Option.bind_some,ki _ _ (Nat.mul_ne_zero a.den_nz b.den_nz) (gf (kB (my h k) (my k h)) (by omega)) (gf (A8 h k) (by omega)),←Rat.add_def']
 rfl
theorem yr(a:Rat):qZ (decide (a.num<0)) a.num.natAbs (a.den-1)=some (rp (-a)):=by
 unfold qZ rp;rw[ee,DH,Rat.neg_num,Rat.neg_den];rfl
theorem CD(a:Rat):qw (-a)=qw a:=by unfold qw sz;rw[Rat.neg_num,Rat.neg_den,Int.natAbs_neg]
theorem DE(a b:Rat)(h:qw a)(k:qw b):sI (decide (a.num<0)) a.num.natAbs (a.den-1) (decide (b.num<0)) b.num.natAbs (b.den-1)=some (rp (a-b)):=by
 unfold sI;rw[yr,Option.bind_some];simp only;rw[x8 a (-b) h (by rw[CD];exact k),←Rat.sub_eq_add_neg];rfl
theorem Ev(a b:Rat)(h:qw a)(k:qw b):sS (decide (a.num<0)) a.num.natAbs (a.den-1) (decide (b.num<0)) b.num.natAbs (b.den-1)=some (rp (a*b)):=by
 unfold sS;rw[lC (fR h) (fR k),Option.bind_some,ee,zq,Option.bind_some];simp only;rw[gQ a _ _ h,Option.bind_some,gQ b _ _ k,Option.bind_some,lC (eL h) (eL k),Option.bind_some,ki _ _ (Nat.mul_ne_zero a.den_nz b.den_nz) (gf (G1 h k) (by omega)) (gf (A8 h k) (by omega)),←Rat.mul_def']
 rfl
theorem Ak(a b:Rat)(hb:b≠0):a/b=mkRat (sg (!(decide (a.num<0)==decide (b.num<0))) (a.num.natAbs*b.den)) (a.den*b.num.natAbs):=by
 have hn:b.num≠0:=fun h=>hb (Rat.num_eq_zero.1 h);have e:a/b=Rat.divInt (a.num*b.den) (a.den*b.num):=by
  have ea:=Rat.num_divInt_den a;rw[Rat.div_def,Rat.inv_def]
  conv=>lhs;rw[←ea]
  rw[Rat.divInt_mul_divInt]
 rw[e];have hden:((a.den*b.num.natAbs:Nat):Int)=(a.den:Int)*(b.num.natAbs:Int):=Int.natCast_mul _ _;rw[←Rat.divInt_ofNat,hden];have hnum:((a.num.natAbs*b.den:Nat):Int)=(a.num.natAbs:Int)*(b.den:Int):=Int.natCast_mul _ _;rcases Int.lt_or_le b.num 0 with h|h
 ·have h1:(b.num.natAbs:Int)=-b.num:=Int.ofNat_natAbs_of_nonpos (Int.le_of_lt h);rw[h1,Int.mul_neg,Rat.divInt_neg']
  congr 1
  unfold sg;rw[decide_eq_true h];rcases Int.lt_or_le a.num 0 with k|k
  ·rw[decide_eq_true k,if_neg (by decide),hnum,Int.ofNat_natAbs_of_nonpos (Int.le_of_lt k),Int.neg_mul,Int.neg_neg]
  ·rw[decide_eq_false (by omega),if_pos (by decide),hnum,Int.natAbs_of_nonneg k,Int.neg_neg]
 ·have h1:(b.num.natAbs:Int)=b.num:=Int.natAbs_of_nonneg h;rw[h1]
  congr 1
  unfold sg;rw[decide_eq_false (p:=b.num<0) (by omega)];rcases Int.lt_or_le a.num 0 with k|k
  ·rw[decide_eq_true k,if_pos (by decide),hnum,Int.ofNat_natAbs_of_nonpos (Int.le_of_lt k),Int.neg_mul,Int.neg_neg]
  ·rw[decide_eq_false (by omega),if_neg (by decide),hnum,Int.natAbs_of_nonneg k]
theorem vZ(a b:Rat)(hb:b≠0)(h:qw a)(k:qw b):mW (decide (a.num<0)) a.num.natAbs (a.den-1) (decide (b.num<0)) b.num.natAbs (b.den-1)=some (rp (a/b)):=by
 have hn:b.num.natAbs≠0:=fun h=>hb (Rat.num_eq_zero.1 (by omega));unfold mW;rw[gQ b _ _ k,Option.bind_some,lC (fR h) (eL k),Option.bind_some,ee,Option.bind_some];simp only;rw[gQ a _ _ h,Option.bind_some,lC (eL h) (fR k),Option.bind_some,ki _ _ (Nat.mul_ne_zero a.den_nz hn) (by rw[n8];exact gf (dp (pI h) (pS k)) (by omega)) (gf (dp (pS h) (pI k)) (by omega)),←Ak a b hb]
 rfl
theorem A6(a:Rat):(if a.num<0 then(-1:Int)else if a.num=0 then 0 else 1)=wD a:=by
 unfold wD;have h1:a.num<0↔a<0:=by
  rw[Rat.lt_iff];simp
 have h2:a.num=0↔a=0:=Rat.num_eq_zero;simp only[h1,h2]
theorem wq(a:Rat)(d:Nat):nP (decide (a.num<0)) a.num.natAbs d=some (wD a):=by
 unfold nP;rw[u_,A6];rfl
theorem CP(a:Rat):sF (decide (a.num<0)) a.num.natAbs (a.den-1)=some (rp (if a<0 then-a else a)):=by
 have h1:a.num<0↔a<0:=by rw[Rat.lt_iff];simp
 unfold sF rp;rw[ee,Option.bind_some];have e1:decide (sg false a.num.natAbs<0)=false:=by unfold sg;rw[if_neg (by decide)];exact decide_eq_false (by omega)
 rw[e1,n8];by_cases h:a<0
 ·have:=h1.2 h;rw[if_pos h,Rat.neg_num,Rat.neg_den,Int.natAbs_neg,decide_eq_false (p:=-a.num<0) (by omega)]
 ·have:=fun k=>h (h1.1 k);rw[if_neg h,decide_eq_false (p:=a.num<0) this]
theorem Ap(a b:Rat):BM (a.num*b.den) (b.num*a.den)=iM a b:=by
 unfold BM iM;simp only[Rat.lt_iff]
theorem EC(a b:Rat)(h:qw a)(k:qw b):sN (decide (a.num<0)) a.num.natAbs (a.den-1) (decide (b.num<0)) b.num.natAbs (b.den-1)=some (iM a b):=by
 unfold sN;rw[gQ b _ _ k,Option.bind_some,jq _ _ (fR h) (eL k),Option.bind_some];simp only;rw[gQ a _ _ h,Option.bind_some,jq _ _ (fR k) (eL h),Option.bind_some];simp only;rw[wH _ _ (gf (my h k) (by omega)) (gf (my k h) (by omega)),Ap];rfl
theorem Iu(z:Int):rp (z:Rat)=((decide (z<0),z.natAbs),0):=by
 unfold rp;rw[Rat.num_intCast,Rat.den_intCast]
theorem CW(z:Int):uY (decide (z<0)) z.natAbs=some (rp (z:Rat)):=by rw[Iu];rfl
theorem y9(n:Nat):uY false n=some (rp (n:Rat)):=by
 have:=CW n;rw[decide_eq_false (by omega)]at this;exact this
theorem DQ(a:Rat)(neg:Bool)(n:Nat)(h:qw a):s9 neg n (a.den-1)=some (rp (a.den:Rat)):=by
 unfold s9;rw[gQ a _ _ h,Option.bind_some,y9];rfl
theorem zX(a:Rat)(h:qw a):oZ (decide (a.num<0)) a.num.natAbs (a.den-1)=some (rp (a.floor:Rat)):=by
 unfold oZ;rw[gQ a _ _ h,Option.bind_some,tV _ _ a.den_nz (fR h) (eL h),Option.bind_some];simp only;rw[CW,Rat.floor_def];rfl
end Go.Am
namespace Go.Am
open Go.RowKit
theorem DM:nj (1:Int)=some 1:=kU (n:=1) (by omega)
theorem Hz(n:Int)(h:fq n):AS n=some (rp (n:Rat)):=by
 unfold AS;rw[nk n h,Option.bind_some,ee,Fb,Option.bind_some];dsimp only;rw[CW];rfl
theorem wB{n:Int}(h:fq n):sm n.natAbs:=jQ (by unfold fq at h;omega)
theorem FE(a b:Int)(hb:b≠0):(a:Rat)/(b:Rat)=mkRat (sg (!(decide (a<0)==decide (b<0))) a.natAbs) b.natAbs:=by
 have h1:(b:Rat)≠0:=fun h=>hb (by rw[←Rat.intCast_zero,Rat.intCast_inj]at h;exact h);have:=Ak a b h1;rw[Rat.num_intCast,Rat.num_intCast,Rat.den_intCast,Rat.den_intCast,Nat.mul_one,Nat.one_mul]at this;exact this
theorem IQ(n d:Int)(h:fq n)(k:fq d):FH n d=some (if d=0 then(rp 0,9)else(rp ((n:Rat)/(d:Rat)),0)):=by
 unfold FH;by_cases h0:d=0
 ·subst h0;rfl
 ·rw[if_neg (by rw[beq_iff_eq];exact h0),if_neg h0,nk n h,Option.bind_some,ee,Option.bind_some];dsimp only;rw[nk d k,Option.bind_some,ki _ _ (by omega) (by rw[n8];exact wB h) (wB k),←FE n d h0]
  rfl
theorem o0(z:Int)(d:Nat):(mkRat z d).num.natAbs<=z.natAbs:=by
 rw[Rat.num_mkRat]
 split
 ·exact Nat.zero_le _
 ·rename_i h;rw[Int.natAbs_ediv_of_dvd]
  ·exact Nat.div_le_self _ _
  ·rw[Int.ofNat_dvd_left];exact Nat.gcd_dvd_right _ _
theorem jW(z:Int)(d:Nat)(h:d≠0):(mkRat z d).den<=d:=by
 rw[Rat.den_mkRat,if_neg h];exact Nat.div_le_self _ _
theorem iL{x:Rat}{n:Nat}:sz x<=n↔bO x.num.natAbs<=n/\bO x.den<=n:=Nat.max_le
theorem nT:bO 1=1:=rfl
theorem kD(a b:Rat):sz (a+b)<=sz a+sz b+1:=by
 rw[Rat.add_def'];have ha:=iL.1 (Nat.le_refl (sz a));have hb:=iL.1 (Nat.le_refl (sz b));refine iL.2 ⟨Nat.le_trans (dJ (o0 _ _)) (kB ?_ ?_),Nat.le_trans (dJ (jW _ _ (Nat.mul_ne_zero a.den_nz b.den_nz))) ?_⟩
 ·rw[Int.natAbs_mul];exact dp ha.1 hb.2
 ·rw[Int.natAbs_mul,Nat.add_comm];exact dp hb.1 ha.2
 ·exact Nat.le_trans (dp ha.2 hb.2) (by omega)
theorem l7(a:Rat):sz (-a)=sz a:=by unfold sz;rw[Rat.neg_num,Rat.neg_den,Int.natAbs_neg]
theorem pO(a b:Rat):sz (a-b)<=sz a+sz b+1:=by
 rw[Rat.sub_eq_add_neg,←l7 b];exact kD a (-b)
theorem gX(a b:Rat):sz (a*b)<=sz a+sz b:=by
 rw[Rat.mul_def'];have ha:=iL.1 (Nat.le_refl (sz a));have hb:=iL.1 (Nat.le_refl (sz b));refine iL.2 ⟨Nat.le_trans (dJ (o0 _ _)) ?_,Nat.le_trans (dJ (jW _ _ (Nat.mul_ne_zero a.den_nz b.den_nz))) ?_⟩
 ·rw[Int.natAbs_mul];exact dp ha.1 hb.1
 ·exact dp ha.2 hb.2
theorem He(a b:Rat)(h:b≠0):sz (a/b)<=sz a+sz b:=by
 rw[Ak a b h];have hn:b.num.natAbs≠0:=fun h'=>h (Rat.num_eq_zero.1 (by omega));have ha:=iL.1 (Nat.le_refl (sz a));have hb:=iL.1 (Nat.le_refl (sz b));refine iL.2 ⟨Nat.le_trans (dJ (o0 _ _)) ?_,Nat.le_trans (dJ (jW _ _ (Nat.mul_ne_zero a.den_nz hn))) ?_⟩
 ·rw[n8];exact dp ha.1 hb.2
 ·exact dp ha.2 hb.1
theorem rH(z:Int):sz (z:Rat)<=bO z.natAbs+1:=by
 rw[iL,Rat.num_intCast,Rat.den_intCast,nT];omega
theorem yP(a:Rat):sz (a.floor:Rat)<=sz a+1:=by
 have ha:=iL.1 (Nat.le_refl (sz a));refine Nat.le_trans (rH _) (Nat.succ_le_succ (Nat.le_trans (dJ ?_) ha.1));rw[Rat.floor_def];exact Int.natAbs_ediv_le_natAbs _ _
theorem Hq(a:Rat):sz (if a<0 then-a else a)=sz a:=by split<;>simp[l7]
theorem zi(a:Rat):sz (a.den:Rat)<=sz a+1:=by
 have ha:=iL.1 (Nat.le_refl (sz a));have:=rH (a.den:Int);rw[Int.natAbs_natCast]at this;exact Nat.le_trans this (by omega)
end Go.Am
namespace Go.Am
open Go.RowKit
theorem yj(a:Rat):decide (((aL (a.den-1)).length:Int)>0)=decide (a.den≠1):=by
 have:=a.den_pos;rw[nG];by_cases h:a.den=1
 ·rw[decide_eq_false (by omega),decide_eq_false (by omega)]
 ·rw[decide_eq_true (by omega),decide_eq_true h]
theorem nN{x n:Nat}(h:bO x<=n):(iO x).length<=n+1:=by
 unfold iO
 split
 ·simp
 ·unfold bytesOf;rw[List.length_map,List.length_reverse];exact Nat.le_trans (zw n x (pL h)) (by omega)
theorem yL{a:Nat}(h:sm a):AD a=some (iO a):=cE h rfl
theorem FU(a:Rat)(h:dm a):qe (decide (a.num<0)) a.num.natAbs (a.den-1)=some (Iz a):=by
 have h1:(iO a.num.natAbs).length<=400000000001:=nN (iL.1 h).1;have h2:(iO a.den).length<=400000000001:=nN (iL.1 h).2;unfold qe Iz;rw[yL (fR (jT h)),Option.bind_some,yj];have e1:(if decide (a.num<0)=true then cl (([45]:List UInt8).length+(iO a.num.natAbs).length<=9223372036854775807) (some ((([45]:List UInt8)++iO a.num.natAbs)))else some (iO a.num.natAbs))=some ((if a.num<0 then [45]else [])++iO a.num.natAbs):=by
  by_cases h:a.num<0
  ·rw[if_pos (decide_eq_true h),if_pos h];exact cE (by simp only[List.length_cons,List.length_nil];omega) rfl
  ·rw[if_neg (by simpa using h),if_neg h];rfl
 rw[e1,Option.bind_some];have h3:((if a.num<0 then [45]else [])++iO a.num.natAbs:List UInt8).length<=400000000002:=by
  rw[List.length_append];split<;>simp only[List.length_cons,List.length_nil]<;>omega
 generalize ((if a.num<0 then [45]else [])++iO a.num.natAbs:List UInt8)=t at*;by_cases hd:a.den=1
 ·rw[if_neg (by simpa using hd),if_pos hd,List.append_nil];rfl
 ·rw[if_pos (decide_eq_true hd),if_neg hd,gQ a _ _ (jT h),Option.bind_some,yL (eL (jT h)),Option.bind_some];rw[aS (by simp only[List.length_cons,List.length_nil];omega),aS (by simp only[List.length_append,List.length_cons,List.length_nil];omega)]
  rfl
theorem AB(k:Nat):((2^k:Nat):Rat)=2^k:=by rw[Rat.natCast_pow];rfl
theorem FI(k:Int)(h:0<=k/\k<=100000):rP k=some (rp ((2:Rat)^k.toNat)):=by
 obtain⟨n,rfl⟩:∃n:Nat,k=n:=⟨k.toNat,by omega⟩;unfold rP;rw[DM,Option.bind_some,tJ (jQ (by omega)) (by omega),Option.bind_some,Nat.one_mul,y9,Int.toNat_natCast,AB]
 rfl
theorem Ae{x m:Nat}(h:bO x<=2*m):bO (eY x)<=m:=by
 rw[ik]at*;apply Classical.byContradiction;intro hc;have h1:=Nat.mul_le_mul (Nat.le_of_not_lt hc) (Nat.le_of_not_lt hc);have h2:=qR x;rw[←Nat.pow_add,show m+m=2*m from by omega]at h1;omega
def G8(a:Rat)(k:Nat):Rat:=((eY (a.num.natAbs*2^(2*k)/a.den):Nat):Rat)/2^k
def Ea(a:Rat)(k:Int):Option (Rat×Int):=cl (dm a/\fq k) (some (if k<0\/64<k then(0,3)else if a<0 then(0,8)else(G8 a k.toNat,0)))
theorem Ip(k:Nat):sz ((2:Rat)^k)<=k+1:=by
 rw[←AB,iL,Rat.num_natCast,Rat.den_natCast,Int.natAbs_natCast,nT];exact⟨t_ (Nat.lt_succ_self k),by omega⟩
theorem Iq(k:Nat)(h:k<=100000):qw ((2:Rat)^k):=by
 have:=Ip k;unfold qw;generalize sz ((2:Rat)^k)=t at*;omega
theorem HT(k:Nat):(2:Rat)^k≠0:=by
 have:(0:Rat)<2^k:=Rat.pow_pos (by decide);intro h;rw[h]at this;exact Rat.lt_irrefl this
theorem Fc{x n:Nat}(hx:bO x<=400000000000)(hn:n<=64):bO (x*2^(2*n))<=400000000129:=by
 have h1:2*n<129:=by omega
 exact Nat.le_trans (dp hx (t_ h1)) (by decide)
theorem BP(N d n:Nat)(hn:n<=64)(hd:d≠0)(hN:sm N)(hsd:sm d)(hb:bO (N*2^(2*n))<=400000000129)(hq:bO (N*2^(2*n)/d)<=400000000130):
  (vB N (IntKind.i64.wrap (2*(n:Int)))).bind (fun v10=>(lY v10 d).bind fun(v14,_)=>zo v14)=some (eY (N*2^(2*n)/d)):=by
 have ew:IntKind.i64.wrap (2*(n:Int))=((2*n:Nat):Int):=by rw[wrap_small (by omega) (by omega)];omega
 have hk:2*n<35184372088832:=by omega
 rw[ew,tJ hN hk,Option.bind_some];generalize N*2^(2*n)=X at*;rw[jM hd (gf hb (by omega)) hsd,Option.bind_some];dsimp only;exact cE (Nat.le_trans hq (by omega)) rfl
theorem F_(X:Nat)(h:bO X<=400000000130):qw ((eY X:Nat):Rat):=by
 have h2:bO (eY X)<=200000000065:=Ae h;refine iL.2 ⟨?_,by rw[Rat.den_natCast,nT];omega⟩;rw[Rat.num_natCast,Int.natAbs_natCast];exact Nat.le_trans h2 (by omega)
theorem Et(X n:Nat)(hn:n<=64)(hq:bO X<=400000000130):((uY false (eY X)).bind fun((v19,v20),v21)=>(rP (n:Int)).bind fun((v23,v24),v25)=>(mW v19 v20 v21 v23 v24 v25).bind fun((v27,v28),v29)=>some (((v27,v28),v29),(0:Int)))=some (rp (((eY X:Nat):Rat)/2^n),0):=by
 have hf:=FI (n:Int) ⟨by omega,by omega⟩;have hw:=Iq n (by omega);have hne:=HT n;rw[Int.toNat_natCast]at hf;rw[hf,y9];simp only[Option.bind_some,rp];rw[vZ _ _ hne (F_ _ hq) hw]
 rfl
theorem Fs(a:Rat)(k:Int)(h:dm a):pX (decide (a.num<0)) a.num.natAbs (a.den-1) k=some (if k<0\/64<k then(rp 0,3)else if a<0 then(rp 0,8)else(rp (G8 a k.toNat),0)):=by
 unfold pX;by_cases h0:k<0
 ·rw[if_pos (decide_eq_true h0),if_pos (.inl h0)];rfl
 rw[if_neg (by simpa using h0)];by_cases h1:64<k
 ·rw[if_pos (decide_eq_true h1),if_pos (.inr h1)];rfl
 obtain⟨n,rfl⟩:∃n:Nat,k=n:=⟨k.toNat,by omega⟩;have hn64:n<=64:=by omega
 rw[if_neg (by simpa using h1),if_neg (by omega),wq,Option.bind_some];by_cases hn:a<0
 ·rw[if_pos (by unfold wD;rw[if_pos hn];decide),if_pos hn];rfl
 rw[if_neg (by unfold wD;rw[if_neg hn];split<;>decide),if_neg hn];have hb:=Fc (iL.1 h).1 hn64;have hq:=Nat.le_trans (Nat.le_trans (dJ (Nat.div_le_self (a.num.natAbs*2^(2*n)) a.den)) hb) (show 400000000129<=400000000130 by decide);have hc:=BP a.num.natAbs a.den n hn64 a.den_nz (fR (jT h)) (eL (jT h)) hb hq;obtain⟨v10,e10,hc⟩:=bind_some hc;obtain⟨⟨v14,v15⟩,e14,hc⟩:=bind_some hc;rw[e10,Option.bind_some,gQ a _ _ (jT h),Option.bind_some,e14,Option.bind_some];dsimp only at hc|-;rw[hc,Option.bind_some];exact Et _ n hn64 hq
theorem kK{a1:Int}{r2:Rat}(h:f_ a1=some r2):bh PP 40 [] [D.int .i64 a1] [] (qD r2):=by
 obtain⟨h0,h⟩:=av h;injection h with h;subst h;exact IM (Hz a1 h0)
theorem JK{a1:Int}{a2:Int}{r3:Rat}{r4:Int}(h:GA a1 a2=some (r3,r4)):bh PP 36 [] [D.int .i64 a1,D.int .i64 a2] [] (D.ig [qD r3,D.int .i64 r4]):=by
 obtain⟨h0,h⟩:=av h;have e:=IQ a1 a2 h0.1 h0.2;injection h with h;by_cases hd:a2=0
 ·rw[if_pos hd]at h e;injection h with h1 h2;subst h1;subst h2;exact I3 e
 ·rw[if_neg hd]at h e;injection h with h1 h2;subst h1;subst h2;exact I3 e
theorem mI{a1:Rat}{a2:Rat}{r3:Rat}(h:jl a1 a2=some r3):bh PP 42 [] [qD a1,qD a2] [] (qD r3):=by
 obtain⟨h0,h⟩:=av h;injection h with h;subst h;exact Bi (x8 a1 a2 (jT h0.1) (jT h0.2))
theorem sv{a1:Rat}{a2:Rat}{r3:Rat}(h:kv a1 a2=some r3):bh PP 44 [] [qD a1,qD a2] [] (qD r3):=by
 obtain⟨h0,h⟩:=av h;injection h with h;subst h;exact E5 (DE a1 a2 (jT h0.1) (jT h0.2))
theorem lT{a1:Rat}{a2:Rat}{r3:Rat}(h:fp a1 a2=some r3):bh PP 46 [] [qD a1,qD a2] [] (qD r3):=by
 obtain⟨h0,h⟩:=av h;injection h with h;subst h;exact Gx (Ev a1 a2 (jT h0.1) (jT h0.2))
theorem lM{a1:Rat}{a2:Rat}{r3:Rat}(h:fU a1 a2=some r3):bh PP 164 [] [qD a1,qD a2] [] (qD r3):=by
 obtain⟨h0,h⟩:=av h;injection h with h;subst h;exact xL (vZ a1 a2 h0.1 (jT h0.2.1) (jT h0.2.2))
theorem C3{a1:Rat}{r2:Rat}(h:pg a1=some r2):bh PP 48 [] [qD a1] [] (qD r2):=by
 injection h with h;subst h;exact Be (yr a1)
theorem GZ{a1:Rat}{r2:Rat}(h:AJ a1=some r2):bh PP 50 [] [qD a1] [] (qD r2):=by
 injection h with h;subst h;exact Gr (CP a1)
theorem vU{a1:Rat}{a2:Rat}{r3:Int}(h:lB a1 a2=some r3):bh PP 35 [] [qD a1,qD a2] [] (D.int .i64 r3):=by
 obtain⟨h0,h⟩:=av h;injection h with h;subst h;exact FZ (EC a1 a2 (jT h0.1) (jT h0.2))
theorem iA{a1:Rat}{r2:Int}(h:cZ a1=some r2):bh PP 24 [] [qD a1] [] (D.int .i64 r2):=by
 injection h with h;subst h;exact yB (wq a1 _)
theorem DR{a1:Rat}{r2:Rat}(h:ux a1=some r2):bh PP 76 [] [qD a1] [] (qD r2):=by
 obtain⟨h0,h⟩:=av h;injection h with h;subst h;exact Gf (DQ a1 _ _ (jT h0))
theorem Bf{a1:Rat}{r2:Rat}(h:qH a1=some r2):bh PP 78 [] [qD a1] [] (qD r2):=by
 obtain⟨h0,h⟩:=av h;injection h with h;subst h;exact BL (zX a1 (jT h0))
theorem Ec{a1:Rat}{r2:List UInt8}(h:rK a1=some r2):bh PP 33 [] [qD a1] [] (cw r2):=by
 obtain⟨h0,h⟩:=av h;exact CK ((FU a1 h0).trans h)
theorem Ie{a1:Rat}{a2:Int}{r3:Rat}{r4:Int}(h:Ea a1 a2=some (r3,r4)):bh PP 29 [] [qD a1,D.int .i64 a2] [] (D.ig [qD r3,D.int .i64 r4]):=by
 obtain⟨h0,h⟩:=av h;have e:=Fs a1 a2 h0.1;injection h with h;by_cases hd:a2<0\/64<a2
 ·rw[if_pos hd]at h e;injection h with h1 h2;subst h1;subst h2;exact tu e
 ·rw[if_neg hd]at h e;by_cases hn:a1<0
  ·rw[if_pos hn]at h e;injection h with h1 h2;subst h1;subst h2;exact tu e
  ·rw[if_neg hn]at h e;injection h with h1 h2;subst h1;subst h2;exact tu e
end Go.Am
