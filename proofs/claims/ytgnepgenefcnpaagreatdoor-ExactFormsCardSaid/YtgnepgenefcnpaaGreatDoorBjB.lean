/- Part 2 of 6 of what the laws of layer 1 share: contracts of functions of the program, each for every argument of its description; no condition beyond it. -/
import Derived.Test.YtgnepgenefcnpaaGreatDoorBjA
import Derived.Laws.BytesString
import Derived.Laws.Bits64b
set_option linter.unusedVariables false
set_option linter.unusedSimpArgs false
namespace Go.Am
open Go.RowKit
section
variable {P:Program} {os:List Oper} {c:Ctx} {T T':List (Nat×D)} {H H':List (Nat×Hp)} {sps:List Spec}
variable {ops:Array Oper} {dst:Option Nat} {ty:TypeId} {pos:String} {aft:Array Edge} {Q:Exit->Act->World->Prop} {x y:Code}
theorem ai.FU{α:Type}{e:an α}{t te:TypeId}{r:Nat}{parts:List (Nat×Operand)}{m bt n:Nat}{z:List D}(xs:List α)(q:List (Nat×Operand×D×List D))(hm:mM P t=some (te,m,bt,z))(hmn:m=e.n)(hs:Nat.ble (n*m) 16777216=true)(hn0:Nat.blt 0 n=true)(hq:gR (AG m 0 n) (n*m) parts q)(he:∀x∈qs q,ev T x.1=some x.2)
  (hle:over (List.replicate n z).flatten q=flat e xs)(hln:xs.length=n)(hf:af H r=none)
  (hr:ai P ops c os ((r,.own r)::T) ((r,aS e te xs)::H) sps T' H'):
  ai P ops c (⟨some r,.buildSlice t n parts.toArray,ty,pos,aft,none⟩::os) T H (rws (qs q) r (aS e te xs)::sps) T' H':=by
 subst hmn;subst hln;refine .cons (sp:=rws (qs q) r (aS e te xs)) ?_ (dV he) trivial ⟨hf,trivial⟩ hr;intro hd T0 H0 hi _ hnew a w ⟨ε,φ,hs'⟩ Q K hK;rw[if_pos (aX rfl _)];have hx:∀x∈qs q,eP T0 (eL x.1 x.2):=cl hi;obtain⟨i,v,hu,hinf,hzv,hsz,_,ez,hv1,hvs,hm0⟩:=fW hm;obtain⟨hpl,hg⟩:=iZ hq;have hn1:0<xs.length:=by simpa using hn0
 have hcs:=fq hvs hm0 xs.length;have hz0:bI ε w (ak c H0 φ) (List.replicate xs.length z).flatten (madeCells v.cells (xs.length*e.n)).toList:=by rw[hcs,ez];exact fL (i2 _ _ _ _) _
 have hzl:(List.replicate xs.length z).flatten.length=xs.length*e.n:=by
  have h1:v.cells.toList.length=e.n:=by rw[Array.length_toList,hvs]
  rw[fG,ez,List.length_map,h1]
 obtain⟨cs',hfl,hA,hO⟩:=kp (a:=a) (place:=fun i=>some (i*e.n,e.n)) hpl (fun k u x hu' hx=>by
  have:=hg k u x hu' hx;have h2:=pQ e.n 0 xs.length u.1 _ this.2.1;simp only[Prod.mk.injEq,Nat.zero_add]at h2;exact⟨this.1,by rw[h2.1,h2.2],this.2.2.1,by rw[hzl];exact this.2.2.2⟩) hz0 (by
   intro u hu';rw[hcs]at hu';simp only[List.mem_flatten,List.mem_replicate]at hu';obtain⟨l',⟨_,rfl⟩,hu'⟩:=hu';exact hv1 u hu') (fun x hxm=>(hs'.ev (hx (x.2.1,x.2.2.1) (List.mem_map.2 ⟨x,hxm,rfl⟩)) (aw (he (x.2.1,x.2.2.1) (List.mem_map.2 ⟨x,hxm,rfl⟩))).2).1)
 have hlim:¬(xs.length*e.n>2^24):=by have:=Nat.le_of_ble_eq_true hs;omega
 have hf':Instr.fill (fun i=>some (i*e.n,e.n)) (madeCells v.cells (xs.length*e.n)) (parts.map fun x=>(x.1,a.eval x.2))=some cs':=hfl;have h0:¬(xs.length*e.n=0):=by
  intro h;rcases Nat.mul_eq_zero.1 h with h|h<;>omega
 have hrun:(execOp a.eval ⟨some r,.buildSlice t xs.length parts.toArray,ty,pos,aft,none⟩).run P w=.ok (.value (.slice (some ⟨w.heap.size,0,none⟩) xs.length xs.length)) (w.alloc (.cells cs' te)):=by
  simp only[execOp,Instr.buildSlice,run_underlying hu,Sem.run_bind,Result.andThen_ok,sizeOf,typeInfo,run_program,hinf,Sem.run_pure,hsz];simp[hlim,h0,zeroValue,typeInfo,hinf,hzv,newRow];rw[show(Array.map (fun x=>v.cells[x%v.cells.size]!) (Array.range (xs.length*e.n)))=madeCells v.cells (xs.length*e.n)from rfl,hf'];simp
 simp only[Oper.wp,hrun,Oper.upon];rw[hle]at hA;have hlen:=aF hA;have hmx:xs.length<=maxLen:=by
  have h1:=Nat.le_of_ble_eq_true hs;have h2:xs.length*1<=xs.length*e.n:=Nat.mul_le_mul_left _ hm0;unfold maxLen;omega
 have hA':bI (cS ε r (.slice (some ⟨w.heap.size,0,none⟩) xs.length xs.length)) (w.alloc (.cells cs' te)) (Am.ak c (bm H0 [(r,aS e te xs)]) (cS φ r (only w.heap.size))) (flat e xs) cs'.toList:=by
  refine bC (fun k hk hlt=>⟨⟨hk.1,fun r' hr'=>?_⟩,Below.heap_alloc _ _ _ hlt⟩) hA (by rw[et];intro r' hr';cases hr');rw[bj]at hr';by_cases e':r'=r
  ·subst e';rw[aq];intro hf';simp only[only]at hf';omega
  ·rw[az _ _ e']at hr'|-;exact hk.2 r' hr'
 have hN:=hs'.jW (x:=aS e te xs) (b:=.slice (some ⟨w.heap.size,0,none⟩) xs.length xs.length) (F:=only w.heap.size) (w':=w.alloc (.cells cs' te)) (r:=r) hnew.1 ((Below.refl _ _).alloc (Nat.le_refl _) _)
  (fun k hk=>by simp only[only]at hk;subst hk;simp)
  (.inr ⟨w.heap.size,xs.length,xs.length,cs'.toList,[],rfl,rfl,by rw[gd,List.append_nil],hO,by rw[List.append_nil,hlen,bh],hmx,bh e xs,hA'⟩) (fun r' hr'=>by cases hr')
 exact hK _ _ ⟨_,_,hN.put (dst:=some r) (d:=.own r) (cI hd) ⟨(aq _ _ _).symm,rfl⟩ (by simp[D.own,bj,aq])⟩
theorem oG{ε:Env}{w:World}{S:ca}{d:D}:∀{l:List D} {vs:List Value} {i:Nat} {v:Value},bI ε w S l vs->vs[i]?=some v->d.p ε w S v->bI ε w S (l.set i d) vs
 |[],[],_,_,_,h,_=>by simp at h
 |d0::l,v0::vs,0,v,h,hi,hd=>by simp at hi;subst hi;exact⟨hd,h.2⟩
 |d0::l,v0::vs,i+1,v,h,hi,hd=>⟨h.1,oG h.2 (by simpa using hi) hd⟩
 |[],_::_,_,_,h,_,_=>h.elim
 |_::_,[],_,_,h,_,_=>h.elim
theorem o0{l:List D}{d:D}{i r:Nat}(h:r∈bz (l.set i d)):r∈bz l\/r∈d.nm:=by
 obtain⟨d',hd',hr⟩:=bE.1 h;rcases List.mem_or_eq_of_mem_set hd' with h|rfl
 ·exact .inl (bE.2 ⟨d',h,hr⟩)
 ·exact .inr hr
theorem cc.tell{T0:Nat->Option D}{H0:Nat->Option Hp}{a:Act}{w:World}{ε:Env}{φ:Nat->ca}(hs:cc c T0 H0 a w ε φ){r0:Nat}{x y:Hp}(hr:H0 r0=some x)(hy:y.p ε w (Am.ak c H0 φ) (ε r0) (φ r0))(hn:∀r'∈y.nm,H0 r'≠none):cc c T0 (bm H0 [(r0,y)]) a w ε φ:=
 hs.qA hr rfl rfl rfl rfl (fun _ _=>rfl) hy hn
theorem Ok.Fg{α:Type}(e:an α)(r0 off r te:Nat){tb:TypeId}{l:List D}(l':List D)(hh:af H r0=some (.box tb l))(hd:l[off]?=some .nil)(hf:af H r=none)(hl:l.set off (.own r)=l')
  (h:Ok P c T ((r0,.box tb l')::(r,aS e te [])::H) x Q):Ok P c T H x Q:=by
 intro a w ⟨ε,φ,hs⟩;subst hl;have hN:=hs.jW (x:=aS e te []) (b:=.slice none 0 0) (F:=noBlocks) (r:=r) hf (Below.refl _ _) (fun k hk=>hk.elim) (.inl ⟨rfl,rfl,rfl⟩) (fun r' hr'=>by cases hr');have hne:r0≠r:=fun e=>by subst e;rw[hh]at hf;cases hf
 have hr0:bm (af H) [(r,aS e te [])] r0=some (.box tb l):=by rw[bj,az _ _ hne];exact hh
 obtain⟨eF,cs,hb,h1,hc⟩:=hN.h r0 _ hr0;obtain⟨v,hv,hp⟩:=fz hc hd;have hS:=hN.tell (y:=.box tb (l.set off (.own r))) hr0 ⟨eF,cs,hb,h1,oG hc hv ⟨by rw[show v=_ from hp,aq],by rw[show v=_ from hp];rfl⟩⟩ (fun r' hr'=>by
  rcases o0 (show r'∈bz (l.set off (.own r))from hr')with h|h
  ·exact hN.hn r0 _ hr0 r' h
  ·have:r'=r:=by simpa [D.own]using h
   subst this;rw[bj,aq];simp)
 refine h a w (Sat.ext (T:=aG T) (H:=bm (bm (af H) [(r,aS e te [])]) [(r0,.box tb (l.set off (.own r)))]) ⟨_,_,hS⟩ (fun _=>rfl) (fun r'=>?_));rw[bg,bg];rfl
theorem Ok.En{α:Type}{e:an α}{te:TypeId}{xs:List α}(r0 off:Nat){r:Nat}{tb:TypeId}{l:List D}(l':List D)(hh:af H r0=some (.box tb l))(hd:l[off]?=some (.own r))(hr:af H r=some (aS e te xs))(hm:Nat.blt 0 e.n=true)(hl:l.set off (al e xs)=l')
  (h:Ok P c T ((r0,.box tb l')::(r,.dead)::H) x Q):Ok P c T H x Q:=by
 intro a w ⟨ε,φ,hs⟩;subst hl;have hne:r0≠r:=fun e=>by subst e;rw[hh]at hr;injection hr with hr;exact absurd (congrArg Hp.nm hr) (by intro hq;have:=List.getElem?_eq_some_iff.1 hd;have hx:r0∈bz l:=bE.2 ⟨.own r0,List.mem_of_getElem? hd,by simp[D.own]⟩;rw[show bz l=[]from hq]at hx;cases hx)
 have hm0:0<e.n:=by simpa using hm
 have hG:=sy hs hr;have hr0:af ((r,Hp.dead)::H) r0=some (.box tb l):=by
  simp only[af]
  cases hb:Nat.beq r0 r with
  |true=>exact absurd (Nat.eq_of_beq_eq_true hb) hne
  |false=>exact hh
 obtain⟨eF,cs,hb,h1,hc⟩:=hG.h r0 _ hr0;obtain⟨v,hv,hp⟩:=fz hc hd;have hev:v=ε r:=hp.1;have hrow:=hs.h r _ hr;have hslc:(al e xs).p ε w (Am.ak c (af ((r,Hp.dead)::H)) (cS φ r noBlocks)) v:=by
  have hH:af ((r,Hp.dead)::H)=cS (af H) r (some .dead):=by rw[←bj,bg];rfl
  have hliv:∀r',r'≠r->af ((r,Hp.dead)::H) r'≠none->af H r'≠none:=by
   intro r' e' hr';rw[hH,az _ _ e']at hr';exact hr'
  rcases hrow with⟨e0,eb,_⟩|⟨g,n',cap,cs,rest,eb,eF',hg,h1',hcap,_,hln,hcs⟩
  ·have h0:=bh e xs;rw[e0]at h0;have:xs.length=0:=by rcases Nat.mul_eq_zero.1 h0.symm with h|h<;>omega
   exact⟨none,0,by rw[hev,eb,this],by omega,bh e xs,.inl this⟩
  ·have hn':n'=xs.length:=Nat.eq_of_mul_eq_mul_right hm0 (hln.symm.trans (bh e xs));subst hn';have hlo:=hs.lo r (by simp[hr]) g (by rw[eF'];rfl);have hSg:Am.ak c (af ((r,Hp.dead)::H)) (cS φ r noBlocks) g:=by
    refine⟨.inr hlo.1,fun r' hr'=>?_⟩;by_cases e':r'=r
    ·subst e';rw[aq];exact fun h=>h
    ·rw[az _ _ e'];exact hs.dj r r' (by simp[hr]) (hliv r' e' hr') (Ne.symm e') g (by rw[eF'];rfl)
   refine⟨some ⟨g,0,none⟩,cap,by rw[hev,eb],?_,bh e xs,.inr ⟨g,0,rfl,hSg,(cs++rest).toArray,te,(0,0),cs,hg,fun j u hj=>?_,h1',?_⟩⟩
   ·have hle:xs.length*e.n<=cap*e.n:=by rw[←hcap,List.length_append,aF hcs,bh];omega
    exact Nat.le_of_mul_le_mul_right hle hm0
   ·rw[Nat.zero_add];simp only[List.getElem?_toArray];rw[List.getElem?_append_left (List.getElem?_eq_some_iff.1 hj).1];exact hj
   ·refine bC (fun k hk _=>⟨⟨hk.1,fun r' hr'=>?_⟩,rfl⟩) hcs (by rw[et];intro r' hr';cases hr');by_cases e':r'=r
    ·subst e';rw[aq];exact fun h=>h
    ·rw[az _ _ e'];exact hk.2 r' (hliv r' e' hr')
 have hS:=hG.tell (y:=.box tb (l.set off (al e xs))) hr0 ⟨eF,cs,hb,h1,oG hc hv hslc⟩ (fun r' hr'=>by
  rcases o0 (show r'∈bz (l.set off (al e xs))from hr')with h|h
  ·exact hG.hn r0 _ hr0 r' h
  ·cases h)
 refine h a w (Sat.ext (T:=aG T) (H:=bm (af ((r,Hp.dead)::H)) [(r0,.box tb (l.set off (al e xs)))]) ⟨_,_,hS⟩ (fun _=>rfl) (fun r'=>?_));rw[bg];rfl
theorem cc.qR{α:Type}{T0:Nat->Option D}{H0:Nat->Option Hp}{a:Act}{w:World}{ε:Env}{φ:Nat->ca}{e:an α}{te:TypeId}{xs:List α}{r:Nat}(hs:cc c T0 H0 a w ε φ)(hh:H0 r=some (aS e te xs))(hm0:0<e.n):
  cc c T0 (cS H0 r (some .dead)) a w ε (cS φ r noBlocks)/\(al e xs).p ε w (Am.ak c (cS H0 r (some .dead)) (cS φ r noBlocks)) (ε r):=by
 have hl2:∀r',cS H0 r (some .dead) r'≠none↔H0 r'≠none:=by
  intro r';by_cases e':r'=r
  ·subst e';simp[aq,hh]
  ·rw[az _ _ e']
 have hreg:∀k,Am.ak c H0 φ k->k<w.heap.size->Am.ak c (cS H0 r (some .dead)) (cS φ r noBlocks) k/\w.heap[k]?=w.heap[k]?:=by
  intro k hk _;refine⟨⟨hk.1,fun r' hr'=>?_⟩,rfl⟩;by_cases e':r'=r
  ·subst e';rw[aq];exact fun h=>h
  ·rw[az _ _ e'];exact hk.2 r' ((hl2 r').1 hr')
 refine⟨?_,?_⟩
 ·constructor
  ·exact fun t d ht=>d.mono (hs.t t d ht) (fun _ _=>rfl) hreg
  ·exact fun t d ht r' hr'=>(hl2 r').2 (hs.tn t d ht r' hr')
  ·intro r' y hy;by_cases e':r'=r
   ·subst e';rw[aq]at hy;injection hy with hy;subst hy;rw[aq];rfl
   ·rw[az _ _ e']at hy;rw[az _ _ e'];exact y.mono (hs.h r' y hy) (fun _ _=>rfl) hreg (fun _ _=>rfl)
  ·intro r' y hy r2 h2;by_cases e':r'=r
   ·subst e';rw[aq]at hy;injection hy with hy;subst hy;cases h2
   ·rw[az _ _ e']at hy;exact(hl2 r2).2 (hs.hn r' y hy r2 h2)
  ·intro r' hr' k hk;by_cases e':r'=r
   ·subst e';rw[aq]at hk;exact hk.elim
   ·rw[az _ _ e']at hk;exact hs.lo r' ((hl2 r').1 hr') k hk
  ·intro ra rb ha hb hne k hk;by_cases ea:ra=r
   ·subst ea;rw[aq]at hk;exact hk.elim
   ·by_cases eb:rb=r
    ·subst eb;rw[aq];exact fun h=>h
    ·rw[az _ _ ea]at hk;rw[az _ _ eb];exact hs.dj ra rb ((hl2 ra).1 ha) ((hl2 rb).1 hb) hne k hk
  ·exact hs.oV
  ·exact hs.bs
  ·exact hs.sz
  ·exact hs.df
 ·rcases hs.h r _ hh with⟨e0,eb,_⟩|⟨g,n',cap,cs,rest,eb,eF',hg,h1',hcap,_,hln,hcs⟩
  ·have h0:=bh e xs;rw[e0]at h0;have:xs.length=0:=by rcases Nat.mul_eq_zero.1 h0.symm with h|h<;>omega
   exact⟨none,0,by rw[eb,this],by omega,bh e xs,.inl this⟩
  ·have hn':n'=xs.length:=Nat.eq_of_mul_eq_mul_right hm0 (hln.symm.trans (bh e xs));subst hn';have hlo:=hs.lo r (by simp[hh]) g (by rw[eF'];rfl);have hSg:Am.ak c (cS H0 r (some .dead)) (cS φ r noBlocks) g:=by
    refine⟨.inr hlo.1,fun r' hr'=>?_⟩;by_cases e':r'=r
    ·subst e';rw[aq];exact fun h=>h
    ·rw[az _ _ e'];exact hs.dj r r' (by simp[hh]) ((hl2 r').1 hr') (Ne.symm e') g (by rw[eF'];rfl)
   refine⟨some ⟨g,0,none⟩,cap,eb,?_,bh e xs,.inr ⟨g,0,rfl,hSg,(cs++rest).toArray,te,(0,0),cs,hg,fun j u hj=>?_,h1',?_⟩⟩
   ·have hle:xs.length*e.n<=cap*e.n:=by rw[←hcap,List.length_append,aF hcs,bh];omega
    exact Nat.le_of_mul_le_mul_right hle hm0
   ·rw[Nat.zero_add];simp only[List.getElem?_toArray];rw[List.getElem?_append_left (List.getElem?_eq_some_iff.1 hj).1];exact hj
   ·refine bC (fun k hk _=>⟨⟨hk.1,fun r' hr'=>?_⟩,rfl⟩) hcs (by rw[et];intro r' hr';cases hr');by_cases e':r'=r
    ·subst e';rw[aq];exact fun h=>h
    ·rw[az _ _ e'];exact hk.2 r' ((hl2 r').1 hr')
theorem ai.gv{α:Type}{o:Oper}{sp:Spec}{r t:Nat}{e:an α}{te:TypeId}{xs:List α}{T1:List (Nat×D)}{H1:List (Nat×Hp)}(h:ai P ops c [o] T H [sp] T1 H1)(hd:o.dst=some t)(ho:sp.out=.own r)(hh:af sp.cK r=some (aS e te xs))(hm:Nat.blt 0 e.n=true)
  (hr:ai P ops c os ((t,al e xs)::T) ((r,.dead)::sp.cK++H) sps T' H'):
  ai P ops c (o::os) T H ({sp with out:=al e xs,cK:=(r,.dead)::sp.cK}::sps) T' H':=by
 cases h with
 |cons hst hi hhi hn _=>
  refine .cons (sp:={sp with out:=al e xs,cK:=(r,.dead)::sp.cK}) ?_ hi hhi hn (by rw[hd];exact hr);intro hdst T0 H0 hi0 hh0 hn0 a w hsat Q K hK;refine hst hdst T0 H0 hi0 hh0 hn0 a w hsat Q K (fun a' w' hs'=>hK a' w' ?_);obtain⟨ε,φ,hs'⟩:=hs';have hu:bm H0 sp.cK r=some (aS e te xs):=by simp only[bm,hh]
  obtain⟨hG,hp⟩:=hs'.qR hu (by simpa using hm);have eH:cS (bm H0 sp.cK) r (some .dead)=bm H0 ((r,.dead)::sp.cK):=by
   funext r'
   simp only[cS,bm,af];by_cases e':r'=r
   ·subst e';simp
   ·have:Nat.beq r' r=false:=by
     cases hb:Nat.beq r' r with
     |false=>rfl
     |true=>exact absurd (Nat.eq_of_beq_eq_true hb) e'
    simp[e',this]
  rw[eH]at hG hp;have hv:a'.tmps.getD t undef=ε r:=by
   have:=hs'.t t (.own r) (by simp only[fy,hd,if_true,ho]);exact this.1
  refine⟨ε,_,{hG with t:=?_,tn:=?_}⟩
  ·intro t' d hd';simp only[fy,hd]at hd';by_cases e':t'=t
   ·rw[if_pos e']at hd';injection hd' with hd';subst hd';rw[e',hv];exact hp
   ·rw[if_neg e']at hd';exact hG.t t' d (by simp only[fy,hd];rw[if_neg e'];exact hd')
  ·intro t' d hd' r' hr';simp only[fy,hd]at hd';by_cases e':t'=t
   ·rw[if_pos e']at hd';injection hd' with hd';subst hd';cases hr'
   ·rw[if_neg e']at hd';exact hG.tn t' d (by simp only[fy,hd];rw[if_neg e'];exact hd') r' hr'
theorem bA{id:Nat}{Q:Exit->Act->World->Prop}{a:Act}{w:World}(h:Q .normal a w):Exit.inBlock id Q (.exit id) a w:=by simp only[Exit.inBlock,if_true];exact h
def E1(P:Program)(s:TypeId)(k:Nat):Option TypeId:=
 match P.underlying s with
 |some (.struct fs)=>(fs[k]?).map (·.type)
 |_=>none
theorem Ad{s k t:Nat}(h:E1 P s k=some t):∀fs f,P.underlying s=some (.struct fs)->fs[k]?=some f->f.type=t:=by
 intro fs f hu hf;simp only[E1,hu,hf,Option.map_some,Option.some.injEq]at h;exact h
theorem ai.F7{s k o t:Nat}{x:Operand}{l:List D}{d:D}(hx:ev T x=some (.agg l))(hf:tR P s k=some o)(ht:E1 P s k=some t)(hl:lay P t=some none)(hd:l[o]?=some d)
  (hr:ai P ops c os (a_ T dst d) H sps T' H'):
  ai P ops c (⟨dst,.field s x k,ty,pos,aft,none⟩::os) T H (ps [(x,.agg l)] d::sps) T' H':=
 .FF hx hf (fun fs f hu hfk=>by rw[Ad ht fs f hu hfk];exact hl) hd hr
def ph(ρ:Nat->Nat):List D->List D->Prop
 |[],[]=>True
 |d::l,d'::l'=>rK ρ d d'/\ph ρ l l'
 |_,_=>False
theorem ph.all{ρ:Nat->Nat}{ε:Env}{w:World}{S:ca}:∀{l l':List D} {vs:List Value},ph ρ l l'->bI ε w S l vs->bI (fun r=>ε (ρ r)) w S l' vs
 |[],[],[],_,_=>trivial
 |[],[],_::_,_,h=>h.elim
 |_::_,_::_,[],_,h=>h.elim
 |_::_,_::_,_::_,h,ha=>⟨h.1.1 _ _ _ _ ha.1,ph.all h.2 ha.2⟩
 |[],_::_,_,h,_=>h.elim
 |_::_,[],_,h,_=>h.elim
theorem ph.bz{ρ:Nat->Nat}:∀{l l':List D},ph ρ l l'->∀r∈bz l',ρ r∈Am.bz l
 |[],[],_,r,h=>by cases h
 |d::l,d'::l',h,r,hr=>by
  simp only[Am.bz,List.mem_append]at hr|-;exact hr.imp (h.1.2 r) (ph.bz h.2 r)
 |[],_::_,h,_,_=>h.elim
 |_::_,[],h,_,_=>h.elim
theorem sY.box{ρ:Nat->Nat}{ty:TypeId}{l l':List D}(h:ph ρ l l'):sY ρ (.box ty l) (.box ty l'):=⟨fun _ _ _ _ _ ⟨e,cs,hb,h1,ha⟩=>⟨e,cs,hb,h1,h.all ha⟩,fun r hr=>h.bz r hr⟩
end
end Go.Am
namespace Go.Am
open Go.RowKit
theorem aU.Bm{P:Program}{f:FuncId}{Hi Ho Hi' Ho':List (Nat×Hp)}{ds ds':List D}{d d':D}(h:aU P f Hi ds Ho d)(ρ σ:Nat->Nat)(hσ:(names Ho).all (fun r=>Nat.beq (σ (ρ r)) r)=true)
  (hHi:lG ρ Hi' Hi)(hni:names Hi'=(names Hi).map ρ)(hds:ph ρ ds' ds)(hHo:lG σ Ho Ho')(hno:names Ho'=(names Ho).map ρ)(hd:rK σ d d')
  (w1:cj Hi' (bz ds')=true)(w2:cj Hi' (ja Hi')=true)(w3:cj Ho' (ja Ho')=true)(w4:cj Ho' d'.nm=true)(w5:cj Ho' (names Hi')=true):aU P f Hi' ds' Ho' d' where
 ok:=h.ok
 CE:=w1
 DM:=w2
 CN:=w3
 BO:=w4
 p8:=w5
 calls:=by
  intro A w ε φ vs hlo hdj hp hv;have inv:∀r,af Ho r≠none->σ (ρ r)=r:=fun r hr=>Nat.eq_of_beq_eq_true (List.all_eq_true.1 hσ r (bP.1 hr));have hio:∀r,af Hi r≠none->af Ho r≠none:=fun r hr=>cH h.p8 r (bP.1 hr);have toI:∀r,af Hi r≠none->af Hi' (ρ r)≠none:=fun r hr=>bP.2 (by rw[hni];exact List.mem_map.2 ⟨r,bP.1 hr,rfl⟩);have ofI:∀r',af Hi' r'≠none->∃r,af Hi r≠none/\ρ r=r':=fun r' hr'=>by
   have:=bP.1 hr';rw[hni]at this;obtain⟨r,hr,e⟩:=List.mem_map.1 this;exact⟨r,bP.2 hr,e⟩
  have ofO:∀r',af Ho' r'≠none->∃r,af Ho r≠none/\ρ r=r':=fun r' hr'=>by
   have:=bP.1 hr';rw[hno]at this;obtain⟨r,hr,e⟩:=List.mem_map.1 this;exact⟨r,bP.2 hr,e⟩
  have toO:∀r,af Ho r≠none->af Ho' (ρ r)≠none:=fun r hr=>bP.2 (by rw[hno];exact List.mem_map.2 ⟨r,bP.1 hr,rfl⟩);have inj:∀r r',af Ho r≠none->af Ho r'≠none->r≠r'->ρ r≠ρ r':=fun r r' hr hr' hne e=>hne (by rw[←inv r hr,←inv r' hr',e]);have hL:l9 Hi (fun r=>φ (ρ r))=l9 Hi' φ:=by
   funext k
   apply propext
   constructor
   ·rintro⟨r,hr,hf⟩;exact⟨ρ r,toI r hr,hf⟩
   ·rintro⟨r',hr',hf⟩;obtain⟨r,hr,rfl⟩:=ofI r' hr';exact⟨r,hr,hf⟩
  refine(h.calls A w (fun r=>ε (ρ r)) (fun r=>φ (ρ r)) vs (fun r hr=>hlo (ρ r) (toI r hr)) (fun r r' hr hr' hne=>hdj (ρ r) (ρ r') (toI r hr) (toI r' hr') (inj r r' (hio r hr) (hio r' hr') hne)) (fun r x hr=>?_) (hds.all hv)).mono ?_
  ·obtain⟨y,hy,hle⟩:=kq hHi r x hr;exact hle.1 _ _ _ _ _ (hp (ρ r) y hy)
  rintro e w' ⟨v,ε2,φ2,rfl,hε,hb1,hb2,hb3,hb4,hb5⟩;rw[hL]at hb1 hb2 hb3 hb5;have hreg:∀k,ak ⟨A,w.heap.size,w,0,l9 Hi' φ⟩ (af Ho) φ2 k->k<w'.heap.size->ak ⟨A,w.heap.size,w,0,l9 Hi' φ⟩ (af Ho') (fun r=>φ2 (σ r)) k/\w'.heap[k]?=w'.heap[k]?:=by
   intro k hk _;refine⟨⟨hk.1,fun r' hr'=>?_⟩,rfl⟩;obtain⟨r,hr,rfl⟩:=ofO r' hr';show¬φ2 (σ (ρ r)) k;rw[inv r hr];exact hk.2 r hr
  have hB:xN ⟨A,w.heap.size,w,0,l9 Hi' φ⟩ Ho' d' (fun r=>ε2 (σ r)) w' (fun r=>φ2 (σ r)) v:=by
   refine⟨d'.mono (hd.1 _ _ _ _ hb1) (fun _ _=>rfl) hreg,fun r' x' hr'=>?_,fun r' hr' k hk=>?_,fun r1 r2 h1 h2 hne k hk=>?_,hb5⟩
   ·obtain⟨x,hx,hle⟩:=kq hHo r' x' hr';exact x'.mono (hle.1 _ _ _ _ _ (hb2 (σ r') x hx)) (fun _ _=>rfl) hreg (fun _ _=>rfl)
   ·obtain⟨r,hr,rfl⟩:=ofO r' hr';simp only[inv r hr]at hk;exact hb3 r hr k hk
   ·obtain⟨ra,hra,rfl⟩:=ofO r1 h1;obtain⟨rb,hrb,rfl⟩:=ofO r2 h2;simp only[inv ra hra,inv rb hrb]at hk|-;exact hb4 ra rb hra hrb (fun e=>hne (by rw[e])) k hk
  refine⟨v,fun r=>ε2 (σ r),fun r=>φ2 (σ r),rfl,fun r' hr'=>?_,hB⟩;obtain⟨r,hr,rfl⟩:=ofI r' hr';show ε2 (σ (ρ r))=_;rw[inv r (hio r hr),hε r hr]
section
variable {P:Program} {os:List Oper} {c:Ctx} {T T':List (Nat×D)} {H H':List (Nat×Hp)} {sps:List Spec}
variable {ops:Array Oper} {dst:Option Nat} {ty:TypeId} {pos:String} {aft:Array Edge} {Q:Exit->Act->World->Prop} {x y:Code}
def Fx(P:Program)(s d:TypeId):Bool:=
 match P.underlying s,P.underlying d with
 |some (.slice e),some .string=>match P.underlying e with|some (.int .u8)=>true|_=>false
 |_,_=>false
def bytesOf(l:List Int):List UInt8:=l.map fun n=>UInt8.ofNat n.toNat
theorem ox:∀(ns:List Int) (s:ByteArray),ns.foldl (fun r n=>r.push (UInt8.ofNat n.toNat)) s=⟨(s.data.toList++bytesOf ns).toArray⟩
 |[],s=>by simp[bytesOf]
 |n::ns,s=>by
  rw[List.foldl_cons,ox ns];simp[bytesOf,ByteArray.push]
theorem vc(k:IntKind):∀l:List Int,flat (an.int k) l=l.map (D.int k)
 |[]=>rfl
 |n::l=>by
  have:=vc k l;simp only[flat,List.flatMap_cons]at this|-;rw[this];rfl
theorem sB{k:IntKind}{ε:Env}{w:World}{S:ca}:∀{l:List Int} {vs:List Value},bI ε w S (l.map (D.int k)) vs->vs=l.map (Value.int k)
 |[],[],_=>rfl
 |n::l,v::vs,h=>by rw[List.map_cons,←sB h.2,show v=_ from h.1]
 |[],_::_,h=>h.elim
 |_::_,[],h=>h.elim
theorem ai.F0{s d:TypeId}{x:Operand}{l:List Int}(hx:ev T x=some (al (an.int .u8) l))(ht:Fx P s d=true)(hr:ai P ops c os (a_ T dst (b9 (bytesOf l))) H sps T' H'):
  ai P ops c (⟨dst,.convert s d x,ty,pos,aft,none⟩::os) T H (ps [(x,al (an.int .u8) l)] (b9 (bytesOf l))::sps) T' H':=
 .pure [(x,al (an.int .u8) l)] rfl (by simpa using hx) (i9 rfl) (fun ε w S a ha=>by
  obtain⟨A,cap,h1,_,hln,hA⟩:=ha (x,al (an.int .u8) l) (by simp);dsimp only at h1;unfold Fx at ht
  split at ht<;>try cases ht
  rename_i e hs hd
  split at ht<;>try cases ht
  rename_i he;have hc:∀a':Option Addr,(convert s d (.slice a' l.length cap)).run P w=(Conv.bytesToString (.slice a' l.length cap)).run P w:=fun a'=>run_convert_bytes_string w s d e a' l.length cap hs he hd;refine⟨.string ⟨(bytesOf l).toArray⟩,?_,rfl⟩;rcases hA with h0|⟨b,o,rfl,_,hl⟩
  ·have:l=[]:=List.eq_nil_of_length_eq_zero h0;subst this;have hz:(Conv.bytesToString (.slice A 0 cap)).run P w=.ok (.string ⟨#[]⟩) w:=by
    cases A with
    |none=>rfl
    |some a0=>
     have hq:=run_loadCells_list (P:=P) w a0 [] (fun j v hv=>by simp at hv);have:=run_bytesToString (P:=P) w a0 0 cap [] hq;rw[ox]at this;exact this
   have hc0:(convert s d (.slice A 0 cap)).run P w=_:=(hc A).trans hz;simp only[execOp,h1,Sem.run_bind,List.length_nil,hc0,Result.andThen_ok];rfl
  ·obtain⟨vs,h3,h4,h5⟩:=mw hl;rw[vc]at h5;have hvs:=sB h5;subst hvs;have hld:=run_loadCells_list (P:=P) w ⟨b,o,none⟩ (l.map (Value.int .u8)) (fun j v hv=>by rw[fS];exact h3 j v hv);rw[List.length_map]at hld;have:=run_bytesToString (P:=P) w ⟨b,o,none⟩ l.length cap l hld;rw[ox]at this;simp only[execOp,h1,hc,Sem.run_bind,this,Result.andThen_ok]
   rfl) hr
end
end Go.Am
namespace Go.Am
open Go.RowKit
theorem wrap_u32{z:Int}{n:Nat}(h:z=n):IntKind.u32.wrap z=((n%4294967296:Nat):Int):=by rw[IntKind.wrap_u32];omega
theorem wrap_u64{z:Int}{n:Nat}(h:z=n)(hn:n<18446744073709551616):IntKind.u64.wrap z=(n:Int):=by rw[IntKind.wrap_u64];omega
theorem fN{z:Int}{n:Nat}(h:z=n)(hn:n<9223372036854775808):IntKind.i64.wrap z=(n:Int):=by rw[IntKind.wrap_i64];omega
theorem uO{k:IntKind}{n:Nat}(hk:32<=k.bits):xO .shr k (n:Int) 32=some ((n/4294967296:Nat):Int):=by
 have:min (32:Int).toNat k.bits=32:=by simp;omega
 unfold xO;rw[if_neg (by omega)];simp only[this]
 congr 1
 rw[Int.fdiv_eq_ediv_of_nonneg _ (by decide)];omega
theorem iu(n:Nat):IntKind.u32.wrap (n:Int)=((n%4294967296:Nat):Int):=wrap_u32 rfl
theorem bD{n:Nat}(hn:n<18446744073709551616):IntKind.u64.wrap (n:Int)=(n:Int):=wrap_u64 rfl hn
theorem ft{n:Nat}(hn:n<4294967296):IntKind.u32.wrap (n:Int)=(n:Int):=by rw[iu];omega
theorem so{n m:Nat}(hn:n+m<9223372036854775808):IntKind.i64.wrap ((n:Int)+(m:Int))=((n+m:Nat):Int):=fN (by omega) hn
theorem dB{m:Nat}{ty:TypeId}{l l':List D}{hl:bz l=[]}{hl':bz l'=[]}(h:l=l'):Hp.row m ty l hl=Hp.row m ty l' hl':=by subst h;rfl
theorem C2.of_eq{d d':Hp}(h:d=d'):C2 d d':=h▸.refl d
theorem cR{T:List (Nat×D)}:∀{l:List (Nat×D)},l.map (fun x=>aG T x.1)=l.map (fun x=>some x.2)->gK T l
 |[],_=>trivial
 |(t,d)::l,h=>by simp only[List.map_cons,List.cons.injEq]at h;exact⟨⟨d,h.1,.refl d⟩,cR h.2⟩
theorem iF{H:List (Nat×Hp)}:∀{l:List (Nat×Hp)},l.map (fun x=>af H x.1)=l.map (fun x=>some x.2)->jL H l
 |[],_=>trivial
 |(t,d)::l,h=>by simp only[List.map_cons,List.cons.injEq]at h;exact⟨⟨d,h.1,.refl d⟩,iF h.2⟩
theorem int_eq{k:IntKind}{a b:Int}(h:a=b):Le (.int k a) (.int k b):=.of_eq (by rw[h])
theorem pA(n:Nat)(hn:n<18446744073709551616):j3 PP 145 [.int .u64 n] (ah n):=by
 refine .of Go.Proofs.Tryz.func145 rfl (by kernel_rfl) rfl rfl rfl (fun A w0=>?_);refine .ak (.au rfl .nil) rfl ?_;have hl:cz [n%4294967296,n/4294967296]:=by intro d hd;simp at hd;omega
 have hv:val [n%4294967296,n/4294967296]=n:=by simp only[val];omega
 refine .ak (.mv rfl<|.cv rfl ka (iu n)<|.mv rfl<|.sh rfl rfl (uO (by decide))<|.cv rfl ka (ft (by omega))<|
  .bl (hl:=rfl) [(0,_,.int .u32 (n%4294967296:Nat),[.int .u32 (n%4294967296:Nat)]),(1,_,.int .u32 (n/4294967296:Nat),[.int .u32 (n/4294967296:Nat)])] zb rfl rfl ⟨rfl,rfl,.one rfl,rfl,rfl,rfl,.one rfl,rfl,trivial⟩ (by simp[qs,ev,aG,a_]) rfl rfl<|
  .call (kJ [n%4294967296,n/4294967296] hl (by simp)) ⟨rfl,trivial⟩<|.au rfl .nil) rfl ?_
 refine .ov rfl (.tmp rfl) (.of_eq ?_) rfl;rw[hv]
theorem dp(l:List Nat)(i:Nat):val (l.take (i+1))=val (l.take i)+4294967296^i*l.getD i 0:=by
 by_cases h:i<l.length
 ·rw[dL (List.getElem?_eq_getElem h)];simp[h]
 ·rw[List.take_of_length_le (by omega),List.take_of_length_le (by omega)];simp[List.getD,List.getElem?_eq_none (show l.length<=i by omega)]
theorem fc{l:List Nat}{i:Nat}(h:i<l.length)(d:Nat):val ((l.set i d).take (i+1))=val (l.take i)+4294967296^i*d:=by
 rw[dp]
 congr 1
 ·rw[List.take_set_of_le (Nat.le_refl i)]
 ·simp[h]
theorem gS{l:List Nat}(h:cz l){d:Nat}(hd:d<4294967296)(i:Nat):cz (l.set i d):=fun x hx=>(List.mem_or_eq_of_mem_set hx).elim (h x) (fun e=>e▸hd)
theorem bG{l:List Nat}(h:cz l)(i:Nat):l.getD i 0<4294967296:=by
 by_cases hi:i<l.length
 ·simp[hi];exact h _ (List.getElem_mem hi)
 ·simp[List.getElem?_eq_none (show l.length<=i by omega)]
theorem gh(n:Nat):cz (List.replicate n 0):=fun d hd=>by rw[List.eq_of_mem_replicate hd];omega
theorem kS(n:Nat):List.replicate n (D.int .u32 0)=bB (List.replicate n 0):=by simp[bB]
theorem dZ(l:List Nat)(i d:Nat):(bB l).set ((i:Int).toNat*1) (.int .u32 (d:Nat))=bB (l.set i d):=by rw[Int.toNat_natCast,Nat.mul_one,zj]
theorem yR{p c d e:Nat}{v va vb:Nat}(h:v+p*c=va+vb):v+p*((c+d+e)%4294967296)+p*4294967296*((c+d+e)/4294967296)=va+p*d+(vb+p*e):=by
 have:p*((c+d+e)%4294967296)+p*4294967296*((c+d+e)/4294967296)=p*c+p*d+p*e:=by
  rw[Nat.mul_assoc,←Nat.mul_add,Nat.mod_add_div,Nat.mul_add,Nat.mul_add]
 omega
theorem CS(a b:List Nat)(ha:cz a)(hb:cz b)(hla:a.length<=1099511627776)(hlb:b.length<=1099511627776){s:Nat}(hv0:val a+val b=s):j3 PP 212 [db a,db b] (ah s):=by
 refine .of Go.Proofs.Tryz.func212 rfl (by kernel_rfl) rfl rfl rfl (fun A w0=>?_);refine .ak (.au rfl<|.nil) rfl ?_;refine .rj (ι:={p:List Nat×List Nat//cz p.1/\cz p.2/\p.1.length<=1099511627776/\p.2.length<=p.1.length/\val p.1+val p.2=s}) (fun p=>[(0,db p.1.1),(1,db p.1.2)]) (fun _=>[]) ?_ ?_
 ·by_cases h:a.length<b.length
  ·refine .ak (.mv rfl<|.ln rfl j4<|.mv rfl<|.ln rfl j4<|.cm rfl rfl (b:=true) (by simp[da,h])<|.nil) rfl ?_;refine .cT rfl (.region (.mv rfl<|.mv rfl<|.au rfl<|.au rfl<|.nil) rfl fun _ _ hs=>?_);exact hs.to ⟨(b,a),hb,ha,hlb,Nat.le_of_lt h,(Nat.add_comm _ _).trans hv0⟩ (cR rfl) trivial rfl rfl
  ·refine .ak (.mv rfl<|.ln rfl j4<|.mv rfl<|.ln rfl j4<|.cm rfl rfl (b:=false) (by simp[da];omega)<|.nil) rfl ?_;exact .cF rfl (.skip fun _ _ hs=>hs.to ⟨(a,b),ha,hb,hla,Nat.le_of_not_lt h,hv0⟩ (cR rfl) trivial rfl rfl)
 rintro⟨⟨a',b'⟩,ha',hb',hl,hle,hval⟩;simp only at ha' hb' hl hle hval;clear hv0 ha hb hla hlb;show Ok PP _ [(0,db a'),(1,db b')] [] _ _;refine .ak (.mv rfl<|.ln rfl j4<|.ar rfl rfl (congrArg some (so (n:=a'.length) (m:=1) (by omega)))<|.DF rfl rfl zb rfl (by omega) (by omega) rfl<|.au rfl<|.nil) rfl ?_;refine .ak (.au rfl<|.nil) rfl ?_;refine .rj (ι:={p:List Nat×Nat//p.1.length=a'.length+1/\cz p.1/\p.2<=1/\val (p.1.take a'.length)+4294967296^a'.length*p.2=s})
  (fun p=>[(0,db a'),(1,db b'),(18,.own 18),(5,.own 18),(6,.int .u64 p.1.2)]) (fun p=>[(18,.row 1 230 (bB p.1.1) (aH _))]) ?_ ?_
 ·refine .ak (.mv rfl<|.ln rfl j4<|.mv rfl<|.nil) rfl ?_;refine .block (.loop (ι:={p:List Nat×Nat×Nat//p.1.length=a'.length+1/\cz p.1/\p.2.1<=1/\p.2.2<=a'.length/\val (p.1.take p.2.2)+4294967296^p.2.2*p.2.1=val (a'.take p.2.2)+val (b'.take p.2.2)})
   (fun p=>[(0,db a'),(1,db b'),(18,.own 18),(5,.own 18),(6,.int .u64 p.1.2.1),(20,.int .i64 a'.length),(21,.int .i64 p.1.2.2)]) (fun p=>[(18,.row 1 230 (bB p.1.1) (aH _))])
   (fun p=>a'.length-p.1.2.2) ⟨(List.replicate (a'.length+1) 0,0,0),by simp,gh _,by simp,Nat.zero_le _,by simp[val]⟩
   (cR rfl) ⟨⟨_,rfl,.of_eq (dB (kS _))⟩,trivial⟩ rfl rfl ?_)
  rintro⟨⟨zs,c,i⟩,hzl,hzs,hc,hi,hv⟩;simp only at hzl hzs hc hi hv;show Ok PP _ [(0,db a'),(1,db b'),(18,.own 18),(5,.own 18),(6,.int .u64 c),(20,.int .i64 a'.length),(21,.int .i64 i)] [(18,.row 1 230 (bB zs) (aH _))] _ _;by_cases hlt:i<a'.length
  ·refine .ak (.cm rfl rfl (b:=true) (by simp[da,hlt])<|.nil) rfl (.sq ?_);refine .cT rfl (.skip (Ok.on ?_));refine .rj (ι:={q:List Nat×Nat//q.1.length=a'.length+1/\cz q.1/\q.2<=1/\val (q.1.take (i+1))+4294967296^(i+1)*q.2=val (a'.take (i+1))+val (b'.take (i+1))})
    (fun p=>[(0,db a'),(1,db b'),(18,.own 18),(5,.own 18),(6,.int .u64 p.1.2),(20,.int .i64 a'.length),(21,.int .i64 i)]) (fun p=>[(18,.row 1 230 (bB p.1.1) (aH _))]) ?_ ?_
   ·have hx:a'[i]?=some (a'.getD i 0):=by simp[hlt]
    have hdl:=bG ha' i;have hel:=bG hb' i;have hst:=dp a' i;have hst':=dp b' i;generalize a'.getD i 0=d at hx hdl hst;refine .block (.ak (.mv rfl<|.au rfl<|.nil) rfl ?_);refine .ak (.mv rfl<|.mv rfl<|.mv rfl<|.nN rfl rfl nf (by omega) (by omega) (bb hx)<|.i6 rfl oI<|.cv rfl lJ (bD (by omega))<|
     .ar rfl rfl (congrArg some (wrap_u64 (n:=c+d) (by omega) (by omega)))<|.au rfl<|.nil) rfl ?_
    refine .cut [(0,db a'),(1,db b'),(18,.own 18),(5,.own 18),(6,.int .u64 (c+d+b'.getD i 0:Nat)),(7,.int .i64 i),(20,.int .i64 a'.length),(21,.int .i64 i)] [(18,.row 1 230 (bB zs) (aH _))] ?_ ?_
    ·by_cases hb:i<b'.length
     ·have hy:b'[i]?=some (b'.getD i 0):=by simp[hb]
      generalize b'.getD i 0=e at hy hel hst';refine .ak (.mv rfl<|.mv rfl<|.ln rfl j4<|.cm rfl rfl (b:=true) (by simp[da,hb])<|.nil) rfl ?_;refine .cT rfl (.region (.mv rfl<|.mv rfl<|.mv rfl<|.nN rfl rfl nf (by omega) (by omega) (bb hy)<|.i6 rfl oI<|.cv rfl lJ (bD (by omega))<|
       .ar rfl rfl (congrArg some (wrap_u64 (n:=c+d+e) (by omega) (by omega)))<|.au rfl<|.nil) rfl fun _ _ hs=>?_)
      exact hs.sub (cR rfl) (iF rfl) rfl rfl
     ·have he:b'.getD i 0=0:=by simp[List.getElem?_eq_none (show b'.length<=i by omega)]
      refine .ak (.mv rfl<|.mv rfl<|.ln rfl j4<|.cm rfl rfl (b:=false) (by simp[da];omega)<|.nil) rfl ?_;refine .cF rfl (.skip fun _ _ hs=>?_);exact hs.sub ⟨⟨_,rfl,.refl _⟩,⟨_,rfl,.refl _⟩,⟨_,rfl,.refl _⟩,⟨_,rfl,.refl _⟩,⟨_,rfl,int_eq (by omega)⟩,⟨_,rfl,.refl _⟩,⟨_,rfl,.refl _⟩,⟨_,rfl,.refl _⟩,trivial⟩ (iF rfl) rfl rfl
    generalize b'.getD i 0=e at hel hst';refine .ak (.mv rfl<|.mv rfl<|.mv rfl<|.cv rfl ka (iu _)<|.og (n:=a'.length+1) (m':=1) rfl rfl rfl nf (by rw[bu,hzl];omega) rfl rfl (by omega) (by omega)<|.wC rfl rfl rfl oI rfl rfl (by simp[bu,hzl];try omega)<|.nil) rfl ?_;refine .region (.mv rfl<|.sh rfl rfl (uO (by decide))<|.au rfl<|.nil) rfl fun _ _ hs=>?_;refine hs.to ⟨(zs.set i ((c+d+e)%4294967296),(c+d+e)/4294967296),by simpa using hzl,gS hzs (Nat.mod_lt _ (by omega)) i,?_,?_⟩
     (cR rfl) ⟨⟨_,rfl,.of_eq (dB (dZ ..))⟩,trivial⟩ rfl rfl
    ·simp only;omega
    ·simp only;rw[fc (by omega),hst,hst',Nat.pow_succ];exact yR hv
   ·rintro⟨⟨zs',c'⟩,h1,h2,h3,h4⟩;simp only at h1 h2 h3 h4;show Ok PP _ [(0,db a'),(1,db b'),(18,.own 18),(5,.own 18),(6,.int .u64 c'),(20,.int .i64 a'.length),(21,.int .i64 i)] [(18,.row 1 230 (bB zs') (aH _))] _ _;refine .region (.ar rfl rfl (congrArg some (so (n:=i) (m:=1) (by omega)))<|.mv rfl<|.nil) rfl fun _ _ hs=>?_;exact hs.round (m:=a'.length-i) ⟨(zs',c',i+1),h1,h2,h3,hlt,h4⟩ (by simp only;omega) (cR rfl) (iF rfl) rfl rfl
  ·have:i=a'.length:=by omega
   subst this;refine .ak (.cm rfl rfl (b:=false) (by simp[da])<|.nil) rfl (.sq ?_);refine .cF rfl (.exit fun _ _ hs=>?_);refine hs.to ⟨(zs,c),hzl,hzs,hc,?_⟩ (cR rfl) (iF rfl) rfl rfl;rw[←hval];simpa [List.take_of_length_le hle]using hv
 rintro⟨⟨zs,c⟩,hzl,hzs,hc,hv⟩;simp only at hzl hzs hc hv;show Ok PP _ [(0,db a'),(1,db b'),(18,.own 18),(5,.own 18),(6,.int .u64 c)] [(18,.row 1 230 (bB zs) (aH _))] _ _;refine .ak (.mv rfl<|.mv rfl<|.ln rfl j4<|.mv rfl<|.cv rfl ka (ft (by omega))<|.og (n:=a'.length+1) (m':=1) rfl rfl rfl nf (by rw[bu,hzl];omega) rfl rfl (by omega) (by omega)<|.wC rfl rfl rfl oI rfl rfl (by simp[bu,hzl];try omega)<|.nil) rfl ?_;refine .qR (n:=a'.length+1) (m':=1) 5 rfl rfl (by simp[bu,hzl]) rfl rfl ?_;have hset:(bB zs).set ((a'.length:Int).toNat*1) (.int .u32 c)=bB (zs.set a'.length c):=dZ ..;have hlv:val (zs.set a'.length c)=s:=by
  have:=fc (l:=zs) (i:=a'.length) (by omega) c;rw[List.take_of_length_le (by simp;omega)]at this;rw[this,hv]
 rw[←hlv];refine .sub [(5,db (zs.set a'.length c))] [] ⟨⟨_,rfl,.of_eq (lB (by simp[hzl]) hset)⟩,trivial⟩ trivial rfl rfl ?_;refine .ak (.mv rfl<|.call (kJ _ (gS hzs (by omega) _) (by simp;omega)) ⟨rfl,trivial⟩<|.au rfl<|.nil) rfl ?_;exact .ov rfl (.tmp rfl) (.refl _) rfl
end Go.Am
namespace Go.Am
open Go.RowKit
section
variable {P:Program} {os:List Oper} {c:Ctx} {T T':List (Nat×D)} {H H':List (Nat×Hp)} {sps:List Spec}
variable {ops:Array Oper} {dst:Option Nat} {ty:TypeId} {pos:String} {aft:Array Edge}
theorem ai.FE{xt:TypeId}{x:Operand}{k:IntKind}{n r:Int}(hx:ev T x=some (.int k n))(h:bits .xor k (if k.signed then-1 else k.max) n=r)(hr:ai P ops c os (a_ T dst (.int k r)) H sps T' H'):
  ai P ops c (⟨dst,.unOp .xor xt x,ty,pos,aft,none⟩::os) T H (ps [(x,.int k n)] (.int k r)::sps) T' H':=
 .pure [(x,.int k n)] rfl (by simpa using hx) (i9 rfl) (fun ε w S a ha=>by
  have h1:a.eval x=.int k n:=ha (x,.int k n) (by simp);subst h;exact⟨_,by simp only[execOp,h1,Op.unary,Sem.run_bind,Sem.run_pure];rfl,rfl⟩) hr
end
theorem iT(a b:Nat)(ha:a<4294967296)(hb:b<4294967296):bits .and .u32 (a:Int) (b:Int)=((a&&&b:Nat):Int)/\bits .or .u32 (a:Int) (b:Int)=((a|||b:Nat):Int)/\bits .xor .u32 (a:Int) (b:Int)=((a^^^b:Nat):Int):=by
 have h1:(BitVec.ofInt 32 (a:Int)).toNat=a:=by
  rw[BitVec.ofInt_natCast,BitVec.toNat_ofNat];exact Nat.mod_eq_of_lt (by omega)
 have h2:(BitVec.ofInt 32 (b:Int)).toNat=b:=by
  rw[BitVec.ofInt_natCast,BitVec.toNat_ofNat];exact Nat.mod_eq_of_lt (by omega)
 have x1:a&&&b<2^32:=Nat.and_lt_two_pow _ (by omega);have x2:a|||b<2^32:=Nat.or_lt_two_pow (by omega) (by omega);have x3:a^^^b<2^32:=Nat.xor_lt_two_pow (by omega) (by omega);refine⟨?_,?_,?_⟩
 ·show IntKind.u32.wrap ((BitVec.ofInt 32 (a:Int)&&&BitVec.ofInt 32 (b:Int)).toNat:Int)=_;rw[BitVec.toNat_and,h1,h2,ft (by omega)]
 ·show IntKind.u32.wrap ((BitVec.ofInt 32 (a:Int)|||BitVec.ofInt 32 (b:Int)).toNat:Int)=_;rw[BitVec.toNat_or,h1,h2,ft (by omega)]
 ·show IntKind.u32.wrap ((BitVec.ofInt 32 (a:Int)^^^BitVec.ofInt 32 (b:Int)).toNat:Int)=_;rw[BitVec.toNat_xor,h1,h2,ft (by omega)]
theorem Ef{n:Nat}(h:n<4294967296):n/2147483648=if n.testBit 31 then 1 else 0:=by
 rw[Nat.testBit_eq_decide_div_mod_eq];simp only[decide_eq_true_eq]
 split<;>omega
theorem CW{n:Nat}(h:n<4294967296):n.testBit 31=decide (2147483648<=n):=by
 rw[Nat.testBit_eq_decide_div_mod_eq];by_cases h1:2147483648<=n
 ·simp only[h1,decide_true,decide_eq_true_eq];omega
 ·simp only[h1,decide_false,decide_eq_false_iff_not];omega
theorem Ey:(4294967295:Nat).testBit 31=true:=by decide
theorem wh{x y b:Nat}(hx:x<4294967296)(hy:y<4294967296)(hb:b<=1):
  (((4294967295^^^x)&&&y)|||((4294967295^^^(x^^^y))&&&((x+(8589934592-y-b))%4294967296)))/2147483648=if x<y+b then 1 else 0:=by
 have hd:(x+(8589934592-y-b))%4294967296<4294967296:=Nat.mod_lt _ (by omega);generalize hdd:(x+(8589934592-y-b))%4294967296=d at hd;have h1:(4294967295^^^x)&&&y<2^32:=Nat.and_lt_two_pow _ (by omega);have h2:(4294967295^^^(x^^^y))&&&d<2^32:=Nat.and_lt_two_pow _ (by omega);rw[Ef (Nat.or_lt_two_pow h1 h2)];simp only[Nat.testBit_or,Nat.testBit_and,Nat.testBit_xor,Ey,CW hx,CW hy,CW hd];by_cases c1:2147483648<=x<;>by_cases c2:2147483648<=y<;>by_cases c3:2147483648<=d<;>simp[c1,c2,c3]<;>omega
theorem td(x y b:Nat)(hx:x<4294967296)(hy:y<4294967296)(hb:b<=1):j3 PP 247 [.int .u32 x,.int .u32 y,.int .u32 b]
  (.fU [.int .u32 ((x+(8589934592-y-b))%4294967296:Nat),.int .u32 (if x<y+b then 1 else 0:Nat)]):=by
 refine .of Go.Proofs.Tryz.func247 rfl (by kernel_rfl) rfl rfl rfl (fun A w0=>?_);have hd:(x+(8589934592-y-b))%4294967296<4294967296:=Nat.mod_lt _ (by omega);have hbor:=wh hx hy hb;generalize hdd:(x+(8589934592-y-b))%4294967296=d at hd hbor;have h1:(4294967295^^^x)<2^32:=Nat.xor_lt_two_pow (by omega) (by omega);have h2:x^^^y<2^32:=Nat.xor_lt_two_pow (by omega) (by omega);have h3:4294967295^^^(x^^^y)<2^32:=Nat.xor_lt_two_pow (by omega) h2;have h4:(4294967295^^^x)&&&y<2^32:=Nat.and_lt_two_pow _ (by omega);have h5:(4294967295^^^(x^^^y))&&&d<2^32:=Nat.and_lt_two_pow _ (by omega);have h6:IntKind.u32.wrap (IntKind.u32.wrap ((x:Int)-y)-b)=(d:Int):=by
  rw[IntKind.wrap_u32,IntKind.wrap_u32];omega
 refine .ak (.au rfl<|.au rfl<|.nil) rfl ?_;refine .ak (.mv rfl<|.mv rfl<|.ar rfl rfl rfl<|.mv rfl<|.ar rfl rfl (congrArg some h6)<|.au rfl<|.nil) rfl ?_;refine .ak (.mv rfl<|.FE rfl (iT 4294967295 x (by omega) hx).2.2<|.mv rfl<|.ar rfl rfl (congrArg some (iT _ _ h1 hy).1)<|.mv rfl<|.mv rfl<|.ar rfl rfl (congrArg some (iT x y hx hy).2.2)<|
  .FE rfl (iT 4294967295 _ (by omega) h2).2.2<|.mv rfl<|.ar rfl rfl (congrArg some (iT _ _ h3 hd).1)<|.ar rfl rfl (congrArg some (iT _ _ h4 h5).2.1)<|.sh rfl rfl rfl<|.au rfl<|.nil) rfl ?_
 refine .Bt rfl (.tmp rfl) (.tmp rfl) (.of_eq ?_) rfl;rw[←hbor];show D.fU [_,.int .u32 (Int.fdiv _ _)]=_;rw[Int.fdiv_eq_ediv_of_nonneg _ (by decide)]
 rfl
theorem BA(x y c:Nat)(hx:x<4294967296)(hy:y<4294967296)(hc:c<=1):j3 PP 251 [.int .u32 x,.int .u32 y,.int .u32 c]
  (.fU [.int .u32 ((x+y+c)%4294967296:Nat),.int .u32 ((x+y+c)/4294967296:Nat)]):=by
 refine .of Go.Proofs.Tryz.func251 rfl (by kernel_rfl) rfl rfl rfl (fun A w0=>?_);refine .ak (.au rfl<|.au rfl<|.nil) rfl ?_;refine .ak (.mv rfl<|.cv rfl lJ (bD (by omega))<|.mv rfl<|.cv rfl lJ (bD (by omega))<|.ar rfl rfl (congrArg some (wrap_u64 (n:=x+y) (by omega) (by omega)))<|
  .mv rfl<|.cv rfl lJ (bD (by omega))<|.ar rfl rfl (congrArg some (wrap_u64 (n:=x+y+c) (by omega) (by omega)))<|.au rfl<|.nil) rfl ?_
 refine .ak (.mv rfl<|.cv rfl ka (iu _)<|.au rfl<|.nil) rfl ?_;refine .ak (.mv rfl<|.sh rfl rfl (uO (by decide))<|.cv rfl ka (ft (by omega))<|.au rfl<|.nil) rfl ?_;exact .Bt rfl (.tmp rfl) (.tmp rfl) (.refl _) rfl
def bn(x:Nat):Nat:=if x=0 then 0 else Nat.log2 x+1
def oH:ByteArray:=⟨((List.range 256).map fun n=>UInt8.ofNat (bn n)).toArray⟩
theorem lA{x:Nat}(h:x≠0):bn x=Nat.log2 x+1:=by simp[bn,h]
theorem kP(x:Nat):x<2^bn x:=by
 by_cases h:x=0
 ·subst h;decide
 ·rw[lA h];exact Nat.lt_log2_self
theorem tQ{x:Nat}(h:x≠0):2^(bn x-1)<=x:=by
 rw[lA h];exact Nat.log2_self_le h
theorem Bz{x n:Nat}(h1:2^n<=x)(h2:x<2^(n+1)):bn x=n+1:=by
 have h0:x≠0:=by have:=Nat.two_pow_pos n;omega
 rw[lA h0,(Nat.log2_eq_iff h0).2 ⟨h1,h2⟩]
theorem n7{x:Nat}(k:Nat)(h:2^k<=x):bn (x/2^k)+k=bn x:=by
 have hp:=Nat.two_pow_pos k;have hx:x≠0:=by omega
 have hq:x/2^k≠0:=by have:=Nat.div_pos h hp;omega
 have h1:=tQ hq;have h2:=kP (x/2^k);rw[lA hq]at h1 h2|-
 symm
 rw[show Nat.log2 (x/2^k)+1+k=(Nat.log2 (x/2^k)+k)+1 by omega];apply Bz
 ·rw[Nat.pow_add];exact(Nat.le_div_iff_mul_le hp).1 h1
 ·rw[show Nat.log2 (x/2^k)+k+1=(Nat.log2 (x/2^k)+1)+k by omega,Nat.pow_add];exact(Nat.div_lt_iff_lt_mul hp).1 h2
theorem vD{n:Nat}(h:n<256):oH[n]?=some (UInt8.ofNat (bn n)):=by
 have hs:oH.size=256:=by simp[oH,ByteArray.size]
 rw[getElem?_pos oH n (by rw[hs];exact h)];simp[oH,ByteArray.getElem_eq_getElem_data]
end Go.Am
namespace Go.Am
open Go.RowKit
theorem eZ(l:List Nat)(i:Nat):val (l.drop i)=l.getD i 0+4294967296*val (l.drop (i+1)):=by
 by_cases h:i<l.length
 ·rw[List.drop_eq_getElem_cons h,val];simp[h]
 ·rw[List.drop_of_length_le (by omega),List.drop_of_length_le (by omega)];simp[val,List.getElem?_eq_none (show l.length<=i by omega)]
theorem dX(l:List Nat)(i:Nat)(h:i<=l.length):val l=val (l.take i)+4294967296^i*val (l.drop i):=by
 conv=>lhs;rw[←List.take_append_drop i l]
 rw[jv,List.length_take,Nat.min_eq_left h]
theorem eB{l:List Nat}(h:cz l)(i:Nat):val (l.take i)<4294967296^i:=by
 have h1:=m9 (ku h i);have h2:(l.take i).length<=i:=by simp;omega
 exact Nat.lt_of_lt_of_le h1 (Nat.pow_le_pow_right (by omega) h2)
theorem jY{x:Nat}:x<4294967296^(ay x).length:=by
 have:=m9 (cp x);rwa [dr]at this
theorem cn{x:Nat}(h:x≠0):0<(ay x).length:=by rw[jD h];simp
theorem pP{x:Nat}(h:x≠0):4294967296^((ay x).length-1)<=x:=by
 induction x using Nat.strongRecOn with
 |_ x ih=>
  rw[jD h];simp only[List.length_cons,Nat.add_sub_cancel];by_cases h0:x/4294967296=0
  ·rw[h0,cu];simp;omega
  ·have:=ih _ (Nat.div_lt_self (by omega) (by omega)) h0;have hl:=cn h0;obtain⟨n,hn⟩:∃n,(ay (x/4294967296)).length=n+1:=⟨_,(Nat.succ_pred (by omega)).symm⟩;rw[hn]at this|-;simp only[Nat.add_sub_cancel]at this;rw[Nat.pow_succ];omega
theorem iH{x y:Nat}(h:x<=y):(ay x).length<=(ay y).length:=by
 by_cases h0:x=0
 ·subst h0;rw[cu];simp
 ·have h1:=pP h0;have h2:=jY (x:=y);have h3:4294967296^((ay x).length-1)<4294967296^(ay y).length:=by omega
  have h4:=(Nat.pow_lt_pow_iff_right (by omega)).1 h3;have:=cn h0;omega
theorem sQ{x y:Nat}(h:(ay x).length<(ay y).length):x<y:=by
 apply Nat.lt_of_not_le;intro h';have:=iH h';omega
theorem d_{x n:Nat}(h:x<4294967296^n):(ay x).length<=n:=by
 by_cases h0:x=0
 ·subst h0;rw[cu];simp
 ·have h1:=pP h0;have h3:4294967296^((ay x).length-1)<4294967296^n:=by omega
  have h4:=(Nat.pow_lt_pow_iff_right (by omega)).1 h3;have:=cn h0;omega
def fl(x y:Nat):Int:=if x<y then-1 else if y<x then 1 else 0
theorem q7{a b:List Nat}{i:Nat}(ha:cz a)(hi:i<=a.length)(hj:i<=b.length)(hlt:val (a.drop i)<val (b.drop i)):val a<val b:=by
 rw[dX a i hi,dX b i hj];have h1:=eB ha i;have h2:4294967296^i*(val (a.drop i)+1)<=4294967296^i*val (b.drop i):=Nat.mul_le_mul (Nat.le_refl _) hlt;rw[Nat.mul_add,Nat.mul_one]at h2;omega
theorem Fa{a b:Int}(h:a=b):da .eql a b=some true:=by simp[da,h]
theorem Eh{a b:Int}(h:a≠b):da .eql a b=some false:=by simp[da,h]
theorem vO{a b:Int}(h:a<b):da .lss a b=some true:=by simp[da,h]
theorem vI{a b:Int}(h:b<=a):da .lss a b=some false:=by simp[da];omega
theorem DJ{a b:Int}(h:b<a):da .gtr a b=some true:=by simp[da,h]
theorem C4{a b:Int}(h:a<=b):da .gtr a b=some false:=by simp[da];omega
theorem C8{a b:Int}(h:b<=a):da .geq a b=some true:=by simp[da,h]
theorem Bb{a b:Int}(h:a<b):da .geq a b=some false:=by simp[da];omega
theorem AL{n d:Nat}(hd:d≠0)(hn:n<18446744073709551616):m_ .quo .u64 (n:Int) (d:Int)=some ((n/d:Nat):Int):=by
 unfold m_;simp only[Int.natCast_eq_zero,hd,if_false];rw[show(n:Int).tdiv (d:Int)=((n/d:Nat):Int)from rfl,bD (Nat.lt_of_le_of_lt (Nat.div_le_self _ _) hn)]
theorem tH{k:IntKind}{n d:Nat}(hd:d≠0):m_ .rem k (n:Int) (d:Int)=some ((n%d:Nat):Int):=by
 unfold m_;simp only[Int.natCast_eq_zero,hd,if_false]
 rfl
theorem tA{n d:Nat}(hd:d≠0)(hn:n<9223372036854775808):m_ .quo .i64 (n:Int) (d:Int)=some ((n/d:Nat):Int):=by
 unfold m_;simp only[Int.natCast_eq_zero,hd,if_false];rw[show(n:Int).tdiv (d:Int)=((n/d:Nat):Int)from rfl,fN rfl (Nat.lt_of_le_of_lt (Nat.div_le_self _ _) hn)]
theorem xn{n:Nat}(hn:n<4294967296):xO .shl .u64 (n:Int) 32=some ((n*4294967296:Nat):Int):=by
 unfold xO;rw[if_neg (by omega)];simp only[show min (32:Int).toNat IntKind.u64.bits=32 by decide];rw[show(n:Int)*2^32=((n*4294967296:Nat):Int)by rw[Int.natCast_mul];rfl,bD (by omega)]
theorem tz{n d:Nat}(hn:n<4294967296)(hd:d<4294967296):m_ .or .u64 ((n*4294967296:Nat):Int) (d:Int)=some ((n*4294967296+d:Nat):Int):=by
 show some (bits .or .u64 _ _)=_;rw[bits_or_u64_nat _ _ (by omega) (by omega)];have:=Nat.two_pow_add_eq_or_of_lt (i:=32) (b:=d) (by omega) n;rw[show n*4294967296=2^32*n by omega,←this]
theorem pM{n d:Nat}(h:n*d<18446744073709551616):m_ .mul .u64 (n:Int) (d:Int)=some ((n*d:Nat):Int):=by
 show some (IntKind.u64.wrap _)=_;rw[←Int.natCast_mul,bD h]
theorem pC{n d:Nat}(h:n+d<18446744073709551616):m_ .add .u64 (n:Int) (d:Int)=some ((n+d:Nat):Int):=congrArg some (wrap_u64 (by omega) h)
theorem dq{n d:Nat}(h:n+d<9223372036854775808):m_ .add .i64 (n:Int) (d:Int)=some ((n+d:Nat):Int):=congrArg some (fN (by omega) h)
theorem nH{n d:Nat}(h:d<=n)(h':n<9223372036854775808):m_ .sub .i64 (n:Int) (d:Int)=some ((n-d:Nat):Int):=congrArg some (fN (by omega) (by omega))
theorem jm{n:Nat}(h':n<9223372036854775808):m_ .sub .i64 (n:Int) 1=some ((n:Int)-1):=congrArg some (wrap_i64 (by omega) (by omega))
theorem fg{n:Nat}(h':n+1<9223372036854775808):m_ .add .i64 (n:Int) 1=some ((n+1:Nat):Int):=dq (d:=1) h'
theorem Le.nil{m:Nat}:Le .nil (.ik 0 m [] rfl):=⟨fun _ _ _ _ h=>⟨none,0,h,Nat.le_refl _,by simp,.inl rfl⟩,fun _ h=>h⟩
theorem aQ:Le .nil (ah 0):=by
 have:ah 0=.ik 0 1 [] rfl:=dg_eq' (by rw[cu]);rw[this];exact .nil
where dg_eq' {xs:List Nat} (h:xs=[]):db xs=.ik 0 1 [] rfl:=by subst h;rfl
end Go.Am
namespace Go.Am
open Go.RowKit
theorem pF{n k:Nat}(hk:k<=32):xO .shr .u32 (n:Int) (k:Int)=some ((n/2^k:Nat):Int):=by
 unfold xO;rw[if_neg (by omega)];have:min (k:Int).toNat IntKind.u32.bits=k:=by rw[Int.toNat_natCast,show IntKind.u32.bits=32 by decide];omega
 simp only[this];rw[Int.fdiv_eq_ediv_of_nonneg _ (by exact_mod_cast Nat.zero_le _)]
 congr 1
theorem dE{x n:Nat}(h:x<2^n):bn x<=n:=by
 by_cases h0:x=0
 ·subst h0;exact Nat.zero_le _
 ·have h1:=tQ h0;have:=(Nat.pow_lt_pow_iff_right (a:=2) (by omega)).1 (Nat.lt_of_le_of_lt h1 h);rw[lA h0]at this|-;omega
theorem xo(x:Nat)(hx:x<4294967296):j3 PP 231 [.int .u32 x] (.int .i64 (bn x:Nat)):=by
 refine .of Go.Proofs.Tryz.func231 rfl (by kernel_rfl) rfl rfl rfl (fun A w0=>?_);refine .ak (.au rfl<|.nil) rfl ?_;refine .rj (ι:={p:Nat×Nat//p.1<65536/\p.2<=16/\bn p.1+p.2=bn x}) (fun p=>[(0,.int .u32 (p.1.1:Nat)),(2,.int .i64 (p.1.2:Nat))]) (fun _=>[]) ?_ ?_
 ·by_cases h:65536<=x
  ·refine .ak (.mv rfl<|.cm rfl rfl (b:=true) (by simp[da];try omega)<|.nil) rfl ?_;refine .cT rfl (.ak (.mv rfl<|.sh rfl rfl (pF (k:=16) (by omega))<|.au rfl<|.nil) rfl ?_);refine .region (.au rfl<|.nil) rfl fun _ _ hs=>?_;exact hs.to ⟨(x/65536,16),by omega,Nat.le_refl _,n7 16 h⟩ (cR rfl) trivial rfl rfl
  ·refine .ak (.mv rfl<|.cm rfl rfl (b:=false) (by simp[da];try omega)<|.nil) rfl ?_;exact .cF rfl (.skip fun _ _ hs=>hs.to ⟨(x,0),Nat.lt_of_not_le h,by omega,rfl⟩ (cR rfl) trivial rfl rfl)
 rintro⟨⟨y,n⟩,hy,hn,he⟩;simp only at hy hn he;show Ok PP _ [(0,.int .u32 (y:Nat)),(2,.int .i64 (n:Nat))] [] _ _;rw[←he];clear he hx x;refine .rj (ι:={p:Nat×Nat//p.1<256/\p.2<=24/\bn p.1+p.2=bn y+n}) (fun p=>[(0,.int .u32 (p.1.1:Nat)),(2,.int .i64 (p.1.2:Nat))]) (fun _=>[]) ?_ ?_
 ·by_cases h:256<=y
  ·refine .ak (.mv rfl<|.cm rfl rfl (b:=true) (by simp[da];try omega)<|.nil) rfl ?_;refine .cT rfl (.ak (.mv rfl<|.sh rfl rfl (pF (k:=8) (by omega))<|.au rfl<|.nil) rfl ?_);refine .region (.mv rfl<|.ar rfl rfl (dq (n:=n) (d:=8) (by omega))<|.au rfl<|.nil) rfl fun _ _ hs=>?_;refine hs.to ⟨(y/256,n+8),by simp only;omega,by simp only;omega,?_⟩ (cR rfl) trivial rfl rfl;have:bn (y/256)+8=bn y:=n7 (x:=y) 8 h;simp only at this|-;omega
  ·refine .ak (.mv rfl<|.cm rfl rfl (b:=false) (by simp[da];try omega)<|.nil) rfl ?_;exact .cF rfl (.skip fun _ _ hs=>hs.to ⟨(y,n),Nat.lt_of_not_le h,by simp only;omega,rfl⟩ (cR rfl) trivial rfl rfl)
 rintro⟨⟨z,k⟩,hz,hk,he⟩;simp only at hz hk he;show Ok PP _ [(0,.int .u32 (z:Nat)),(2,.int .i64 (k:Nat))] [] _ _;rw[←he];have hb:bn z<=8:=dE (by omega);have hw:IntKind.i64.wrap ((UInt8.ofNat (bn z)).toNat:Int)=((bn z:Nat):Int):=by
  rw[show(UInt8.ofNat (bn z)).toNat=bn z by rw[UInt8.toNat_ofNat'];omega];exact fN rfl (by omega)
 refine .ak (.mv rfl<|.mv rfl<|.cv rfl po (r:=(z:Int)) (by rw[IntKind.wrap_u8];omega)<|.ER (s:=oH) (by kernel_rfl) rfl cG (by omega) (vD (by omega))<|.cv rfl tN hw<|
  .ar rfl rfl (dq (by omega))<|.au rfl<|.nil) rfl ?_
 refine .ov rfl (.tmp rfl) (int_eq ?_) rfl;omega
theorem oq(x:Nat)(hx:x<4294967296):j3 PP 226 [.int .u32 x] (.int .i64 ((32-bn x:Nat):Int)):=by
 refine .of Go.Proofs.Tryz.func226 rfl (by kernel_rfl) rfl rfl rfl (fun A w0=>?_);refine .ak (.au rfl<|.nil) rfl ?_;refine .ak (.mv rfl<|.call (xo x hx) ⟨rfl,trivial⟩<|.ar rfl rfl (nH (n:=32) (dE (n:=32) (by omega)) (by omega))<|.au rfl<|.nil) rfl ?_;exact .ov rfl (.tmp rfl) (.refl _) rfl
theorem tS{x y:Nat}(h:x<y):fl x y=-1:=by simp[fl,h]
theorem xl{x y:Nat}(h:y<x):fl x y=1:=by simp[fl,h];omega
theorem A3(x:Nat):fl x x=0:=by simp[fl]
theorem Av(x y:Nat)(hx:(ay x).length<=1099511627776)(hy:(ay y).length<=1099511627776):j3 PP 224 [ah x,ah y] (.int .i64 (fl x y)):=by
 show j3 PP _ [db (ay x),db (ay y)] _;refine .of Go.Proofs.Tryz.func224 rfl (by kernel_rfl) rfl rfl rfl (fun A w0=>?_);refine .ak (.au rfl<|.nil) rfl ?_;refine .sq ?_;by_cases hl:(ay x).length=(ay y).length
 ·refine .ak (.mv rfl<|.ln rfl ao<|.mv rfl<|.ln rfl ao<|.cm rfl rfl (b:=false) (by simp[da,hl])<|.nil) rfl ?_;refine .cF rfl (.skip (Ok.on (.sq ?_)));refine .ak (.mv rfl<|.ln rfl ao<|.ar rfl rfl (jm (by omega))<|.au rfl<|.nil) rfl ?_;refine .block (.loop (ι:={j:Nat//j<=(ay x).length/\val ((ay x).drop j)=val ((ay y).drop j)}) (fun j=>[(0,db (ay x)),(1,db (ay y)),(5,.int .i64 ((j.1:Nat)-1))]) (fun _=>[]) (fun j=>j.1)
   ⟨(ay x).length,Nat.le_refl _,by rw[List.drop_length,hl,List.drop_length]⟩ (cR rfl) trivial rfl rfl ?_)
  rintro⟨j,hj,hv⟩;show Ok PP _ [(0,db (ay x)),(1,db (ay y)),(5,.int .i64 ((j:Nat)-1))] [] _ _;refine .sq ?_
  cases j with
  |zero=>
   refine .ak (.mv rfl<|.cm rfl rfl (b:=false) (by simp[da])<|.nil) rfl ?_;refine .cF rfl (.exit (Ok.on ?_));refine .ak (.au rfl<|.nil) rfl ?_;simp only[List.drop_zero,dr]at hv;subst hv;exact .ov rfl (.tmp rfl) (int_eq (A3 x).symm) rfl
  |succ i=>
   have hxi:(ay x)[i]?=some ((ay x).getD i 0):=by simp[show i<(ay x).length by omega]
   have hyi:(ay y)[i]?=some ((ay y).getD i 0):=by simp[show i<(ay y).length by omega]
   have hdx:=eZ (ay x) i;have hdy:=eZ (ay y) i;generalize (ay x).getD i 0=d at hxi hdx;generalize (ay y).getD i 0=e at hyi hdy;refine .ak (.mv rfl<|.cm rfl rfl (b:=true) (by simp[da];try omega)<|.nil) rfl ?_;refine .cT rfl (.skip (Ok.on (.sq (.block ?_))));have hi:((i+1:Nat):Int)-1=i:=by omega
   rw[hi];by_cases hde:d=e
   ·refine .dt cq (.mv rfl<|.mv rfl<|.nN rfl rfl av (by omega) (by omega) (bb hxi)<|.i6 rfl aI<|.mv rfl<|.mv rfl<|.nN rfl rfl av (by omega) (by omega) (bb hyi)<|.i6 rfl aI<|
     .cm rfl rfl (b:=false) (by simp[da,hde])<|.nil) rfl (by kernel_rfl) ?_
    refine .cF rfl (.skip (Ok.on ?_));refine .region (.mv rfl<|.ar rfl rfl (jm (by omega))<|.au rfl<|.nil) rfl fun _ _ hs=>?_;exact hs.round (m:=i+1) ⟨i,by omega,by rw[hdx,hdy,hv,hde]⟩ (by simp) (cR rfl) trivial rfl rfl
   ·refine .dt cq (.mv rfl<|.mv rfl<|.nN rfl rfl av (by omega) (by omega) (bb hxi)<|.i6 rfl aI<|.mv rfl<|.mv rfl<|.nN rfl rfl av (by omega) (by omega) (bb hyi)<|.i6 rfl aI<|
     .cm rfl rfl (b:=true) (by simp[da];try omega)<|.nil) rfl (by kernel_rfl) ?_
    refine .cT rfl (.sq ?_);by_cases hlt:d<e
    ·refine .dt cq (.mv rfl<|.mv rfl<|.nN rfl rfl av (by omega) (by omega) (bb hxi)<|.i6 rfl aI<|.mv rfl<|.mv rfl<|.nN rfl rfl av (by omega) (by omega) (bb hyi)<|.i6 rfl aI<|
      .cm rfl rfl (b:=true) (by simp[da];try omega)<|.nil) rfl (by kernel_rfl) ?_
     refine .cT rfl (.ak (.au rfl<|.nil) rfl ?_);have:x<y:=by
      have:=q7 (a:=ay x) (b:=ay y) (i:=i) (cp x) (by omega) (by omega) (by omega);simpa [dr]using this
     exact .oC (fun _ _ h=>h) rfl (.tmp rfl) (int_eq (tS this).symm) rfl
    ·refine .dt cq (.mv rfl<|.mv rfl<|.nN rfl rfl av (by omega) (by omega) (bb hxi)<|.i6 rfl aI<|.mv rfl<|.mv rfl<|.nN rfl rfl av (by omega) (by omega) (bb hyi)<|.i6 rfl aI<|
      .cm rfl rfl (b:=false) (by simp[da];try omega)<|.nil) rfl (by kernel_rfl) ?_
     refine .cF rfl (.skip (Ok.on ?_));refine .ak (.au rfl<|.nil) rfl ?_;have:y<x:=by
      have:=q7 (a:=ay y) (b:=ay x) (i:=i) (cp y) (by omega) (by omega) (by omega);simpa [dr]using this
     exact .oC (fun _ _ h=>h) rfl (.tmp rfl) (int_eq (xl this).symm) rfl
 ·refine .ak (.mv rfl<|.ln rfl ao<|.mv rfl<|.ln rfl ao<|.cm rfl rfl (b:=true) (by simp[da];try omega)<|.nil) rfl ?_;refine .cT rfl (.sq ?_);by_cases hlt:(ay x).length<(ay y).length
  ·refine .ak (.mv rfl<|.ln rfl ao<|.mv rfl<|.ln rfl ao<|.cm rfl rfl (b:=true) (by simp[da];try omega)<|.nil) rfl ?_;refine .cT rfl (.ak (.au rfl<|.nil) rfl ?_);have hxy:x<y:=sQ hlt;exact .oC (fun _ _ h=>h) rfl (.tmp rfl) (int_eq (tS hxy).symm) rfl
  ·refine .ak (.mv rfl<|.ln rfl ao<|.mv rfl<|.ln rfl ao<|.cm rfl rfl (b:=false) (by simp[da];try omega)<|.nil) rfl ?_;refine .cF rfl (.skip (Ok.on ?_));refine .ak (.au rfl<|.nil) rfl ?_;have hxy:y<x:=sQ (by omega);exact .oC (fun _ _ h=>h) rfl (.tmp rfl) (int_eq (xl hxy).symm) rfl
end Go.Am
namespace Go.Am
open Go.RowKit
theorem yX{p d e o w w' v va vb:Nat}(h:v+vb=va+p*w)(ho:o+e+w=d+4294967296*w'):v+p*o+(vb+p*e)=va+p*d+p*4294967296*w':=by
 have:p*(o+e+w)=p*(d+4294967296*w'):=by rw[ho]
 rw[Nat.mul_add,Nat.mul_add,Nat.mul_add,←Nat.mul_assoc]at this;omega
theorem D1(x y:Nat)(hyx:y<=x)(hx:(ay x).length<=1099511627776):j3 PP 215 [ah x,ah y] (ah (x-y)):=by
 show j3 PP _ [db (ay x),db (ay y)] _;have hly:=iH hyx;have hvx:=dr x;have hvy:=dr y;have hlx:=cp x;have hlwy:=cp y;generalize ay x=a at*;generalize ay y=b at*;refine .of Go.Proofs.Tryz.func215 rfl (by kernel_rfl) rfl rfl rfl (fun A w0=>?_);refine .ak (.au rfl<|.nil) rfl ?_;refine .ak (.mv rfl<|.ln rfl ao<|.DF rfl rfl dn rfl (by omega) (by omega) rfl<|.au rfl<|.nil) rfl ?_;refine .ak (.au rfl<|.nil) rfl (.sq ?_);refine .ak (.mv rfl<|.ln rfl ao<|.mv rfl<|.nil) rfl ?_;refine .block (.loop (ι:={p:List Nat×Nat×Nat//p.1.length=a.length/\cz p.1/\p.2.1<=1/\p.2.2<=a.length/\val (p.1.take p.2.2)+val (b.take p.2.2)=val (a.take p.2.2)+4294967296^p.2.2*p.2.1})
  (fun p=>[(0,db a),(1,db b),(11,.own 11),(5,.own 11),(6,.int .u32 p.1.2.1),(13,.int .i64 a.length),(14,.int .i64 p.1.2.2)]) (fun p=>[(11,.row 1 230 (bB p.1.1) (aH _))])
  (fun p=>a.length-p.1.2.2) ⟨(List.replicate a.length 0,0,0),by simp,gh _,by simp,Nat.zero_le _,by simp[val]⟩
  (cR rfl) ⟨⟨_,rfl,.of_eq (dB (kS _))⟩,trivial⟩ rfl rfl ?_)
 rintro⟨⟨zs,c,i⟩,hzl,hzs,hc,hi,hv⟩;simp only at hzl hzs hc hi hv;show Ok PP _ [(0,db a),(1,db b),(11,.own 11),(5,.own 11),(6,.int .u32 c),(13,.int .i64 a.length),(14,.int .i64 i)] [(11,.row 1 230 (bB zs) (aH _))] _ _;by_cases hlt:i<a.length
 ·refine .ak (.cm rfl rfl (b:=true) (by simp[da,hlt])<|.nil) rfl (.sq ?_);refine .cT rfl (.skip (Ok.on (.sq (.block ?_))));have hxi:a[i]?=some (a.getD i 0):=by simp[hlt]
  have hdl:=bG hlx i;have hel:=bG hlwy i;have hst:=dp a i;have hst':=dp b i;generalize a.getD i 0=d at hxi hdl hst;refine .ak (.mv rfl<|.au rfl<|.nil) rfl ?_;refine .ak (.au rfl<|.nil) rfl ?_;refine .cut [(0,db a),(1,db b),(11,.own 11),(5,.own 11),(6,.int .u32 c),(7,.int .i64 i),(8,.int .u32 (b.getD i 0:Nat)),(13,.int .i64 a.length),(14,.int .i64 i)] [(11,.row 1 230 (bB zs) (aH _))] ?_ ?_
  ·by_cases hb:i<b.length
   ·have hy:b[i]?=some (b.getD i 0):=by simp[hb]
    generalize b.getD i 0=e at hy;refine .ak (.mv rfl<|.mv rfl<|.ln rfl ao<|.cm rfl rfl (b:=true) (by simp[da,hb])<|.nil) rfl ?_;refine .cT rfl (.region (.mv rfl<|.mv rfl<|.nN rfl rfl av (by omega) (by omega) (bb hy)<|.i6 rfl aI<|.au rfl<|.nil) rfl fun _ _ hs=>?_);exact hs.sub (cR rfl) (iF rfl) rfl rfl
   ·have he:b.getD i 0=0:=by simp[List.getElem?_eq_none (show b.length<=i by omega)]
    rw[he];refine .ak (.mv rfl<|.mv rfl<|.ln rfl ao<|.cm rfl rfl (b:=false) (by simp[da];omega)<|.nil) rfl ?_;exact .cF rfl (.skip fun _ _ hs=>hs.sub (cR rfl) (iF rfl) rfl rfl)
  generalize b.getD i 0=e at hel hst';refine .region (.mv rfl<|.mv rfl<|.mv rfl<|.mv rfl<|.nN rfl rfl av (by omega) (by omega) (bb hxi)<|.i6 rfl aI<|.mv rfl<|.mv rfl<|.call (td d e c hdl hel hc) ⟨rfl,rfl,rfl,trivial⟩<|.mv rfl<|.ext rfl rfl<|.ext rfl rfl<|
   .og (n:=a.length) (m':=1) rfl rfl rfl av (by rw[bu,hzl];omega) rfl rfl (by omega) (by omega)<|.wC rfl rfl rfl aI rfl rfl (by simp[bu,hzl];try omega)<|.au rfl<|.nil) rfl fun _ _ hs=>?_
  refine Ok.on ?_ _ _ hs;refine .region (.ar rfl rfl (fg (by omega))<|.mv rfl<|.nil) rfl fun _ _ hs=>?_;refine hs.round (m:=a.length-i) ⟨(zs.set i ((d+(8589934592-e-c))%4294967296),if d<e+c then 1 else 0,i+1),by simpa using hzl,gS hzs (Nat.mod_lt _ (by omega)) i,?_,hlt,?_⟩ (by simp only;omega)
   (cR rfl) ⟨⟨_,rfl,.of_eq (dB (dZ ..))⟩,trivial⟩ rfl rfl
  ·simp only;split<;>omega
  ·simp only;rw[fc (by omega),hst,hst',Nat.pow_succ];refine yX hv ?_
   split<;>omega
 ·have:i=a.length:=by omega
  subst this;refine .ak (.cm rfl rfl (b:=false) (by simp[da])<|.nil) rfl (.sq ?_);refine .cF rfl (.exit (Ok.on ?_));rw[List.take_length,List.take_of_length_le (by omega),List.take_of_length_le hly]at hv;have hz:=m9 hzs;have hc0:c=0:=by
   rcases(show c=0\/c=1 by omega)with h|h
   ·exact h
   ·subst h;rw[hzl]at hz;omega
  subst hc0;have hlv:val zs=x-y:=by omega
  refine .qR (n:=a.length) (m':=1) 5 rfl rfl (by simp[bu,hzl]) rfl rfl ?_;refine .sub [(5,db zs)] [] ⟨⟨_,rfl,.of_eq (lB hzl.symm rfl)⟩,trivial⟩ trivial rfl rfl ?_;refine .ak (.mv rfl<|.call (kJ _ hzs (by omega)) ⟨rfl,trivial⟩<|.au rfl<|.nil) rfl ?_;exact .ov rfl (.tmp rfl) (.of_eq (by rw[hlv])) rfl
theorem xv(x d:Nat)(hd0:d≠0)(hd:d<4294967296)(hx:(ay x).length<=1099511627776):j3 PP 225 [ah x,.int .u32 d] (.fU [ah (x/d),ah (x%d)]):=by
 show j3 PP _ [db (ay x),.int .u32 d] _;have hvx:=dr x;have hlx:=cp x;generalize ay x=a at*;refine .of Go.Proofs.Tryz.func225 rfl (by kernel_rfl) rfl rfl rfl (fun A w0=>?_);refine .ak (.au rfl<|.au rfl<|.nil) rfl ?_;refine .ak (.mv rfl<|.ln rfl ao<|.DF rfl rfl dn rfl (by omega) (by omega) rfl<|.au rfl<|.nil) rfl ?_;refine .ak (.au rfl<|.nil) rfl (.sq ?_);refine .ak (.mv rfl<|.ln rfl ao<|.ar rfl rfl (jm (by omega))<|.au rfl<|.nil) rfl ?_;refine .block (.loop (ι:={p:List Nat×Nat×Nat//p.1.length=a.length/\cz p.1/\p.2.1<d/\p.2.2<=a.length/\val (a.drop p.2.2)=val (p.1.drop p.2.2)*d+p.2.1})
  (fun p=>[(0,db a),(1,.int .u32 d),(11,.own 11),(6,.own 11),(7,.int .u64 p.1.2.1),(8,.int .i64 ((p.1.2.2:Nat)-1))]) (fun p=>[(11,.row 1 230 (bB p.1.1) (aH _))])
  (fun p=>p.1.2.2) ⟨(List.replicate a.length 0,0,a.length),by simp,gh _,by simp only;omega,Nat.le_refl _,by simp[val]⟩
  (cR rfl) ⟨⟨_,rfl,.of_eq (dB (kS _))⟩,trivial⟩ rfl rfl ?_)
 rintro⟨⟨zs,c,j⟩,hzl,hzs,hc,hj,hv⟩;simp only at hzl hzs hc hj hv;show Ok PP _ [(0,db a),(1,.int .u32 d),(11,.own 11),(6,.own 11),(7,.int .u64 c),(8,.int .i64 ((j:Nat)-1))] [(11,.row 1 230 (bB zs) (aH _))] _ _;refine .sq ?_
 cases j with
 |zero=>
  refine .ak (.mv rfl<|.cm rfl rfl (b:=false) (by simp[da])<|.nil) rfl ?_;refine .cF rfl (.exit (Ok.on ?_));simp only[List.drop_zero]at hv;have hq:val zs=x/d:=by
   rw[←hvx,hv,Nat.mul_comm,Nat.mul_add_div (by omega),Nat.div_eq_of_lt hc];omega
  have hr:c=x%d:=by
   rw[←hvx,hv,Nat.mul_comm,Nat.mul_add_mod,Nat.mod_eq_of_lt hc]
  refine .qR (n:=a.length) (m':=1) 6 rfl rfl (by simp[bu,hzl]) rfl rfl ?_;refine .sub [(6,db zs),(7,.int .u64 c)] [] ⟨⟨_,rfl,.of_eq (lB hzl.symm rfl)⟩,⟨_,rfl,.refl _⟩,trivial⟩ trivial rfl rfl ?_;refine .ak (.mv rfl<|.call (kJ _ hzs (by omega)) ⟨rfl,trivial⟩<|.mv rfl<|.call (pA c (by omega)) ⟨rfl,trivial⟩<|.au rfl<|.au rfl<|.nil) rfl ?_;exact .Bt rfl (.tmp rfl) (.tmp rfl) (.of_eq (by rw[hq,hr])) rfl
 |succ i=>
  have hxi:a[i]?=some (a.getD i 0):=by simp[show i<a.length by omega]
  have hel:=bG hlx i;have hdr:=eZ a i;have hdz:=eZ (zs.set i ((c*4294967296+a.getD i 0)/d)) i;generalize a.getD i 0=e at hxi hel hdr hdz;refine .ak (.mv rfl<|.cm rfl rfl (b:=true) (by simp[da];try omega)<|.nil) rfl ?_;refine .cT rfl (.skip (Ok.on (.sq (.block ?_))));rw[show((i+1:Nat):Int)-1=i by omega];have hs0:c*4294967296+e<d*4294967296:=by omega
  have hq1:(c*4294967296+e)/d<4294967296:=by rw[Nat.div_lt_iff_lt_mul (by omega)];omega
  refine .ak (.mv rfl<|.sh rfl rfl (xn (n:=c) (by omega))<|.mv rfl<|.mv rfl<|.nN rfl rfl av (by omega) (by omega) (bb hxi)<|.i6 rfl aI<|.cv rfl ba (bD (by omega))<|.ar rfl rfl (tz (by omega) hel)<|.au rfl<|.nil) rfl ?_;refine .ak (.mv rfl<|.mv rfl<|.mv rfl<|.mv rfl<|.cv rfl ba (bD (by omega))<|.ar rfl rfl (AL hd0 (by omega))<|.cv rfl dS (ft hq1)<|
   .og (n:=a.length) (m':=1) rfl rfl rfl av (by rw[bu,hzl];omega) rfl rfl (by omega) (by omega)<|.wC rfl rfl rfl aI rfl rfl (by simp[bu,hzl];try omega)<|.nil) rfl ?_
  refine .region (.mv rfl<|.mv rfl<|.cv rfl ba (bD (by omega))<|.ar rfl rfl (tH hd0)<|.au rfl<|.nil) rfl fun _ _ hs=>?_;refine Ok.on ?_ _ _ hs;refine .region (.mv rfl<|.ar rfl rfl (jm (by omega))<|.au rfl<|.nil) rfl fun _ _ hs=>?_;refine hs.round (m:=i+1) ⟨(zs.set i ((c*4294967296+e)/d),(c*4294967296+e)%d,i),by simpa using hzl,gS hzs hq1 i,Nat.mod_lt _ (by omega),by simp only;omega,?_⟩ (by simp)
   (cR rfl) ⟨⟨_,rfl,.of_eq (dB (dZ ..))⟩,trivial⟩ rfl rfl
  simp only;have hg:(zs.set i ((c*4294967296+e)/d)).getD i 0=(c*4294967296+e)/d:=by simp[show i<zs.length by omega]
  have hds:(zs.set i ((c*4294967296+e)/d)).drop (i+1)=zs.drop (i+1):=List.drop_set_of_lt (Nat.lt_succ_self i);rw[hg,hds]at hdz;rw[hdr,hdz,hv];have hdm:=Nat.div_add_mod (c*4294967296+e) d;generalize (c*4294967296+e)/d=q at*;generalize (c*4294967296+e)%d=r at*;generalize val (zs.drop (i+1))=Z at*;rw[Nat.add_mul,Nat.mul_assoc,Nat.mul_add,Nat.mul_comm q d];omega
end Go.Am
namespace Go.Am
open Go.RowKit
theorem Ae{p q c x y o vz vb:Nat}{v:Nat}(h:v+p*q*c=vz+p*x*vb):
  v+p*q*((c+(x*y+o))%4294967296)+p*q*4294967296*((c+(x*y+o))/4294967296)=vz+p*q*o+p*x*(vb+q*y):=by
 have:p*q*((c+(x*y+o))%4294967296)+p*q*4294967296*((c+(x*y+o))/4294967296)=p*q*c+(p*q*(x*y)+p*q*o):=by
  rw[Nat.mul_assoc (p*q),←Nat.mul_add,Nat.mod_add_div,Nat.mul_add,Nat.mul_add]
 have e:p*q*(x*y)=p*x*(q*y):=by
  rw[Nat.mul_assoc,Nat.mul_assoc,Nat.mul_left_comm q x y]
 rw[Nat.mul_add];omega
theorem x6{x y c o:Nat}(hx:x<4294967296)(hy:y<4294967296)(hc:c<4294967296)(ho:o<4294967296):x*y+o<18446744073709551616/\c+(x*y+o)<18446744073709551616:=by
 have:x*y<=4294967295*4294967295:=Nat.mul_le_mul (by omega) (by omega);omega
theorem Cp(x y:Nat)(hx:(ay x).length<=1099511627776)(hy:(ay y).length<=1099511627776):j3 PP 150 [ah x,ah y] (ah (x*y)):=by
 show j3 PP _ [db (ay x),db (ay y)] _;have hvx:=dr x;have hvy:=dr y;have hlx:=cp x;have hly:=cp y;generalize ay x=a at*;generalize ay y=b at*;refine .of Go.Proofs.Tryz.func150 rfl (by kernel_rfl) rfl rfl rfl (fun A w0=>?_);refine .ak (.au rfl<|.nil) rfl ?_;refine .ak (.mv rfl<|.ln rfl ao<|.mv rfl<|.ln rfl ao<|.ar rfl rfl (dq (by omega))<|.DF rfl rfl dn rfl (by omega) (by omega) rfl<|.au rfl<|.nil) rfl (.sq ?_);refine .ak (.mv rfl<|.ln rfl ao<|.mv rfl<|.nil) rfl ?_;refine .block (.loop (ι:={p:List Nat×Nat//p.1.length=a.length+b.length/\cz p.1/\p.2<=a.length/\val (p.1.take (p.2+b.length))=val (a.take p.2)*val b})
  (fun p=>[(0,db a),(1,db b),(16,.own 16),(5,.own 16),(17,db a),(18,.int .i64 a.length),(19,.int .i64 p.1.2)]) (fun p=>[(16,.row 1 230 (bB p.1.1) (aH _))])
  (fun p=>a.length-p.1.2) ⟨(List.replicate (a.length+b.length) 0,0),by simp,gh _,Nat.zero_le _,by
   simp only[Nat.zero_add,List.take_zero,val,Nat.zero_mul,List.take_replicate];exact mi _⟩
  (cR rfl) ⟨⟨_,rfl,.of_eq (dB (kS _))⟩,trivial⟩ rfl rfl ?_)
 rintro⟨⟨zs,i⟩,hzl,hzs,hi,hv⟩;simp only at hzl hzs hi hv;show Ok PP _ [(0,db a),(1,db b),(16,.own 16),(5,.own 16),(17,db a),(18,.int .i64 a.length),(19,.int .i64 i)] [(16,.row 1 230 (bB zs) (aH _))] _ _;by_cases hlt:i<a.length
 ·refine .ak (.cm rfl rfl (b:=true) (by simp[da,hlt])<|.nil) rfl (.sq ?_);refine .cT rfl (.skip (Ok.on (.sq (.block ?_))));have hxi:a[i]?=some (a.getD i 0):=by simp[hlt]
  have hdl:=bG hlx i;have hst:=dp a i;generalize a.getD i 0=d at hxi hdl hst;refine .ak (.mv rfl<|.nN rfl rfl av (by omega) (by omega) (bb hxi)<|.i6 rfl aI<|.au rfl<|.au rfl<|.nil) rfl ?_;refine .ak (.au rfl<|.nil) rfl (.sq ?_);refine .ak (.mv rfl<|.ln rfl ao<|.mv rfl<|.nil) rfl ?_;refine .block (.loop (ι:={p:List Nat×Nat×Nat//p.1.length=a.length+b.length/\cz p.1/\p.2.1<4294967296/\p.2.2<=b.length/\(∀j,i+p.2.2<=j->p.1.getD j 0=zs.getD j 0)/\
    val (p.1.take (i+p.2.2))+4294967296^i*4294967296^p.2.2*p.2.1=val (zs.take (i+p.2.2))+4294967296^i*d*val (b.take p.2.2)})
   (fun p=>[(0,db a),(1,db b),(16,.own 16),(5,.own 16),(17,db a),(18,.int .i64 a.length),(19,.int .i64 i),(6,.int .i64 i),(7,.int .u32 d),(8,.int .u64 p.1.2.1),(24,db b),(25,.int .i64 b.length),(26,.int .i64 p.1.2.2)]) (fun p=>[(16,.row 1 230 (bB p.1.1) (aH _))])
   (fun p=>b.length-p.1.2.2) ⟨(zs,0,0),hzl,hzs,by simp,Nat.zero_le _,fun _ _=>rfl,by simp[val]⟩
   (cR rfl) (iF rfl) rfl rfl ?_)
  rintro⟨⟨us,c,k⟩,hul,hus,hc,hk,hsame,hu⟩;simp only at hul hus hc hk hsame hu;show Ok PP _ [(0,db a),(1,db b),(16,.own 16),(5,.own 16),(17,db a),(18,.int .i64 a.length),(19,.int .i64 i),(6,.int .i64 i),(7,.int .u32 d),(8,.int .u64 c),(24,db b),(25,.int .i64 b.length),(26,.int .i64 k)] [(16,.row 1 230 (bB us) (aH _))] _ _;by_cases hkl:k<b.length
  ·refine .ak (.cm rfl rfl (b:=true) (by simp[da,hkl])<|.nil) rfl (.sq ?_);refine .cT rfl (.skip (Ok.on (.sq (.block ?_))));have hyk:b[k]?=some (b.getD k 0):=by simp[hkl]
   have hel:=bG hly k;have hst':=dp b k;have hst2:=dp zs (i+k);have hok:us[i+k]?=some (zs.getD (i+k) 0):=by
    rw[←hsame (i+k) (Nat.le_refl _)];simp[show i+k<us.length by omega]
   have hol:=bG hzs (i+k);generalize b.getD k 0=e at hyk hel hst';generalize zs.getD (i+k) 0=o at hok hol hst2;obtain⟨hm1,hm2⟩:=x6 hdl hel hc hol;refine .ak (.mv rfl<|.nN rfl rfl av (by omega) (by omega) (bb hyk)<|.i6 rfl aI<|.au rfl<|.au rfl<|.nil) rfl ?_;refine .ak (.mv rfl<|.mv rfl<|.cv rfl ba (bD (by omega))<|.mv rfl<|.cv rfl ba (bD (by omega))<|.ar rfl rfl (pM (by omega))<|.mv rfl<|.mv rfl<|.mv rfl<|.ar rfl rfl (dq (by omega))<|
    .og (n:=a.length+b.length) (m':=1) rfl rfl rfl av (by rw[bu,hul];omega) rfl rfl (by omega) (by omega)<|.wq rfl rfl aI (d:=.int .u32 o) (by rw[Int.toNat_natCast,Nat.mul_one];exact bb hok)<|.cv rfl ba (bD (by omega))<|
    .ar rfl rfl (pC hm1)<|.ar rfl rfl (pC hm2)<|.au rfl<|.nil) rfl ?_
   refine .ak (.mv rfl<|.mv rfl<|.mv rfl<|.ar rfl rfl (dq (by omega))<|.mv rfl<|.cv rfl dS (iu _)<|.og (n:=a.length+b.length) (m':=1) rfl rfl rfl av (by rw[bu,hul];omega) rfl rfl (by omega) (by omega)<|
    .wC rfl rfl rfl aI rfl rfl (by simp[bu,hul];try omega)<|.nil) rfl ?_
   refine .region (.mv rfl<|.sh rfl rfl (uO (by decide))<|.au rfl<|.nil) rfl fun _ _ hs=>?_;refine Ok.on ?_ _ _ hs;refine .region (.ar rfl rfl (fg (by omega))<|.mv rfl<|.nil) rfl fun _ _ hs=>?_;refine hs.round (m:=b.length-k) ⟨(us.set (i+k) ((c+(d*e+o))%4294967296),(c+(d*e+o))/4294967296,k+1),by simpa using hul,gS hus (Nat.mod_lt _ (by omega)) _,by simp only;omega,hkl,?_,?_⟩ (by simp only;omega)
    (cR rfl) ⟨⟨_,rfl,.of_eq (dB (dZ ..))⟩,trivial⟩ rfl rfl
   ·intro j hj;simp only at hj|-;rw[←hsame j (by omega),List.getD_eq_getElem?_getD,List.getD_eq_getElem?_getD,List.getElem?_set_ne (by omega)]
   ·simp only;rw[←Nat.add_assoc,fc (by omega),hst2,hst',Nat.pow_succ,Nat.pow_add,←Nat.mul_assoc (4294967296^i)];exact Ae hu
  ·have hkb:k=b.length:=by omega
   subst hkb;refine .ak (.cm rfl rfl (b:=false) (by simp[da])<|.nil) rfl (.sq ?_);refine .cF rfl (.exit (Ok.on ?_));refine .region (.mv rfl<|.mv rfl<|.mv rfl<|.ln rfl ao<|.ar rfl rfl (dq (by omega))<|.mv rfl<|.cv rfl dS (ft hc)<|.og (n:=a.length+b.length) (m':=1) rfl rfl rfl av (by rw[bu,hul];omega) rfl rfl (by omega) (by omega)<|
    .wC rfl rfl rfl aI rfl rfl (by simp[bu,hul];try omega)<|.nil) rfl fun _ _ hs=>?_
   refine Ok.on ?_ _ _ hs;refine .region (.ar rfl rfl (fg (by omega))<|.mv rfl<|.nil) rfl fun _ _ hs=>?_;refine hs.round (m:=a.length-i) ⟨(us.set (i+b.length) c,i+1),by simpa using hul,gS hus hc _,hlt,?_⟩ (by simp only;omega)
    (cR rfl) ⟨⟨_,rfl,.of_eq (dB (dZ ..))⟩,trivial⟩ rfl rfl
   simp only;rw[show i+1+b.length=i+b.length+1 by omega,fc (by omega),Nat.pow_add,hu,hv,hst,List.take_length,Nat.add_mul]
 ·have:i=a.length:=by omega
  subst this;refine .ak (.cm rfl rfl (b:=false) (by simp[da])<|.nil) rfl (.sq ?_);refine .cF rfl (.exit (Ok.on ?_));rw[List.take_length,List.take_of_length_le (by omega),hvx,hvy]at hv;refine .qR (n:=a.length+b.length) (m':=1) 5 rfl rfl (by simp[bu,hzl]) rfl rfl ?_;refine .sub [(5,db zs)] [] ⟨⟨_,rfl,.of_eq (lB hzl.symm rfl)⟩,trivial⟩ trivial rfl rfl ?_;refine .ak (.mv rfl<|.call (kJ _ hzs (by omega)) ⟨rfl,trivial⟩<|.au rfl<|.nil) rfl ?_;exact .ov rfl (.tmp rfl) (.of_eq (by rw[hv])) rfl
end Go.Am
namespace Go.Am
open Go.RowKit
theorem BF{n k:Nat}(hk:k<=64)(h:n*2^k<18446744073709551616):xO .shl .u64 (n:Int) (k:Int)=some ((n*2^k:Nat):Int):=by
 unfold xO;rw[if_neg (by omega)];have:min (k:Int).toNat IntKind.u64.bits=k:=by rw[Int.toNat_natCast,show IntKind.u64.bits=64 by decide];omega
 simp only[this];rw[show(n:Int)*2^k=((n*2^k:Nat):Int)by rw[Int.natCast_mul,Int.natCast_pow];rfl,bD h]
theorem zQ{n d k:Nat}(hn:n<2^k)(h:n+d*2^k<18446744073709551616):m_ .or .u64 (n:Int) ((d*2^k:Nat):Int)=some ((n+d*2^k:Nat):Int):=by
 show some (bits .or .u64 _ _)=_;rw[bits_or_u64_nat _ _ (by omega) (by omega)];have:=Nat.two_pow_add_eq_or_of_lt hn d;rw[Nat.or_comm,Nat.mul_comm d,←this,Nat.add_comm]
theorem BR(x:Nat)(hx:(ay x).length<=2):j3 PP 185 [ah x] (.int .u64 x):=by
 show j3 PP _ [db (ay x)] _;have hvx:=dr x;have hlx:=cp x;generalize ay x=a at*;refine .of Go.Proofs.Tryz.func185 rfl (by kernel_rfl) rfl rfl rfl (fun A w0=>?_);refine .ak (.au rfl<|.nil) rfl ?_;refine .ak (.au rfl<|.nil) rfl (.sq ?_);refine .ak (.mv rfl<|.ln rfl ao<|.mv rfl<|.nil) rfl ?_;refine .block (.loop (ι:={i:Nat//i<=a.length}) (fun i=>[(3,.int .u64 (val (a.take i.1):Nat)),(6,db a),(7,.int .i64 a.length),(8,.int .i64 i.1)]) (fun _=>[]) (fun i=>a.length-i.1)
  ⟨0,Nat.zero_le _⟩ (cR rfl) trivial rfl rfl ?_)
 rintro⟨i,hi⟩;show Ok PP _ [(3,.int .u64 (val (a.take i):Nat)),(6,db a),(7,.int .i64 a.length),(8,.int .i64 i)] [] _ _;by_cases hlt:i<a.length
 ·refine .ak (.cm rfl rfl (b:=true) (by simp[da,hlt])<|.nil) rfl (.sq ?_);refine .cT rfl (.skip (Ok.on (.sq (.block ?_))));have hxi:a[i]?=some (a.getD i 0):=by simp[hlt]
  have hel:=bG hlx i;have hst:=dp a i;have htl:=eB hlx i;generalize a.getD i 0=e at hxi hel hst;have hi1:i=0\/i=1:=by omega
  have hp:(4294967296:Nat)^i=2^(32*i):=by rw[Nat.pow_mul]
  rw[hp]at htl hst;have hb2:val (a.take i)+e*2^(32*i)<18446744073709551616:=by
   rcases hi1 with h|h<;>subst h<;>simp at htl|-<;>omega
  refine .ak (.mv rfl<|.nN rfl rfl av (by omega) (by omega) (bb hxi)<|.i6 rfl aI<|.au rfl<|.au rfl<|.nil) rfl ?_;refine .region (.mv rfl<|.mv rfl<|.cv rfl ba (bD (by omega))<|.mv rfl<|.ar rfl rfl (r:=((32*i:Nat):Int)) (congrArg some (fN (by omega) (by omega)))<|.sh rfl rfl (BF (n:=e) (k:=32*i) (by omega) (by omega))<|
   .ar rfl rfl (zQ htl hb2)<|.au rfl<|.nil) rfl fun _ _ hs=>?_
  refine Ok.on ?_ _ _ hs;refine .region (.ar rfl rfl (fg (by omega))<|.mv rfl<|.nil) rfl fun _ _ hs=>?_;exact hs.round (m:=a.length-i) ⟨i+1,hlt⟩ (by simp only;omega) ⟨⟨_,rfl,int_eq (by rw[hst,Nat.mul_comm])⟩,⟨_,rfl,.refl _⟩,⟨_,rfl,.refl _⟩,⟨_,rfl,.refl _⟩,trivial⟩ trivial rfl rfl
 ·have:i=a.length:=by omega
  subst this;refine .ak (.cm rfl rfl (b:=false) (by simp[da])<|.nil) rfl (.sq ?_);refine .cF rfl (.exit (Ok.on ?_));refine .ak (.mv rfl<|.au rfl<|.nil) rfl ?_;exact .ov rfl (.tmp rfl) (int_eq (by rw[List.take_length,hvx])) rfl
theorem sO{x n d:Nat}(h:(ay x).length=n+1)(hd:(ay x)[n]?=some d):32*n+bn d=bn x:=by
 have hv:=dL hd;rw[←h,List.take_length,dr]at hv;have hx0:x≠0:=by intro e;subst e;rw[cu]at h;simp at h
 have hle:=pP hx0;rw[h,Nat.add_sub_cancel]at hle;have hp:(4294967296:Nat)^n=2^(32*n):=by rw[Nat.pow_mul]
 have hlt:=eB (cp x) n;have hq:x/4294967296^n=d:=by
  rw[hv,Nat.add_mul_div_left _ _ (Nat.pow_pos (by omega)),Nat.div_eq_of_lt hlt,Nat.zero_add]
 rw[hp]at hle hq;have:=n7 _ hle;rw[hq]at this;omega
theorem CH(x:Nat)(hx:(ay x).length<=1099511627776):j3 PP 186 [ah x] (.int .i64 (bn x:Nat)):=by
 show j3 PP _ [db (ay x)] _;refine .of Go.Proofs.Tryz.func186 rfl (by kernel_rfl) rfl rfl rfl (fun A w0=>?_);refine .ak (.au rfl<|.nil) rfl (.sq ?_);by_cases h0:x=0
 ·subst h0;refine .ak (.mv rfl<|.ln rfl ao<|.cm rfl rfl (b:=true) (by simp[da,cu])<|.nil) rfl ?_;refine .cT rfl (.ak (.au rfl<|.nil) rfl ?_);exact .oC (fun _ _ h=>h) rfl (.tmp rfl) (int_eq (by rfl)) rfl
 ·have hl:=cn h0;obtain⟨n,hn⟩:∃n,(ay x).length=n+1:=⟨_,(Nat.succ_pred (by omega)).symm⟩;have hxi:(ay x)[n]?=some ((ay x).getD n 0):=by simp[hn]
  have hel:=bG (cp x) n;have hbl:∀d,(ay x)[n]?=some d->32*n+bn d=bn x:=fun d hd=>sO hn hd;generalize (ay x).getD n 0=e at hxi hel;have he:=hbl e hxi;refine .ak (.mv rfl<|.ln rfl ao<|.cm rfl rfl (Eh (by omega))<|.nil) rfl ?_;refine .cF rfl (.skip (Ok.on ?_));have hb:=dE (x:=e) (n:=32) (by omega);have hd1:IntKind.i64.wrap (((ay x).length:Int)-1)=(n:Int):=fN (by omega) (by omega);have hd2:IntKind.i64.wrap (32*(n:Int))=((32*n:Nat):Int):=fN (by omega) (by omega);refine .ak (.mv rfl<|.ln rfl ao<|.ar rfl rfl (congrArg some hd1)<|.ar rfl rfl (congrArg some hd2)<|.mv rfl<|.mv rfl<|.ln rfl ao<|.ar rfl rfl (congrArg some hd1)<|
   .nN rfl rfl av (by omega) (by omega) (bb hxi)<|.i6 rfl aI<|.call (xo e hel) ⟨rfl,trivial⟩<|.ar rfl rfl (dq (by omega))<|.au rfl<|.nil) rfl ?_
  exact .ov rfl (.tmp rfl) (int_eq (by rw[he])) rfl
theorem uj(a:List Nat)(ha:a.length<=1099511627776):xV PP 252 [db a] 1 230 (bB a):=by
 refine .of (hl:=aH a) Go.Proofs.Tryz.func252 rfl (by kernel_rfl) rfl rfl (fun A w0=>?_);refine .ak (.au rfl<|.nil) rfl (.sq ?_);refine .ak (.mv rfl<|.E8 ao rfl rfl<|.nil) rfl ?_;refine .cQ rfl (fun h=>?_) (.skip (Ok.on ?_))
 ·have ha0:a=[]:=List.eq_nil_of_length_eq_zero h;subst ha0;refine .ak (.au rfl<|.nil) rfl ?_;refine .tG 2 2 1 230 rfl rfl ?_;exact .yE (fun _ _ h=>h) rfl rfl rfl
 ·refine .ak (.EH dn rfl<|.mv rfl<|.E2 (n1:=0) rfl rfl rfl dn rfl (by omega) (by omega) rfl<|.au rfl<|.nil) rfl ?_;exact .yE (fun _ _ h=>h) rfl rfl rfl
end Go.Am
namespace Go.Am
open Go.RowKit
theorem jq{k:Nat}(hk:k<=32):4294967296=2^k*2^(32-k):=by rw[←Nat.pow_add,show k+(32-k)=32 by omega]
theorem xa{n k:Nat}(hk:k<=32):xO .shl .u32 (n:Int) (k:Int)=some ((n*2^k%4294967296:Nat):Int):=by
 unfold xO;rw[if_neg (by omega)];have:min (k:Int).toNat IntKind.u32.bits=k:=by rw[Int.toNat_natCast,show IntKind.u32.bits=32 by decide];omega
 simp only[this];rw[show(n:Int)*2^k=((n*2^k:Nat):Int)by rw[Int.natCast_mul,Int.natCast_pow];rfl,iu]
theorem xx{e k:Nat}(hk:k<=32):e*2^(32-k)%4294967296=(e%2^k)*2^(32-k):=by
 conv=>lhs;rhs;rw[jq hk]
 rw[Nat.mul_mod_mul_right]
theorem Du{n d k:Nat}(hn:n<2^k)(h:n+d*2^k<4294967296):m_ .or .u32 (n:Int) ((d*2^k:Nat):Int)=some ((n+d*2^k:Nat):Int):=by
 show some (bits .or .u32 _ _)=_;rw[(iT _ _ (by omega) (by omega)).2.1];have:=Nat.two_pow_add_eq_or_of_lt hn d;rw[Nat.or_comm,Nat.mul_comm d,←this,Nat.add_comm]
theorem Cd{n d k:Nat}(hn:n<2^k)(h:n+d*2^k<4294967296):m_ .or .u32 ((d*2^k:Nat):Int) (n:Int)=some ((n+d*2^k:Nat):Int):=by
 show some (bits .or .u32 _ _)=_;rw[(iT _ _ (by omega) (by omega)).2.1];have:=Nat.two_pow_add_eq_or_of_lt hn d;rw[Nat.mul_comm d,←this,Nat.add_comm]
theorem rX{d e k:Nat}(hk:k<=32)(hd:d<4294967296):d/2^k<2^(32-k)/\d/2^k+(e%2^k)*2^(32-k)<4294967296:=by
 have hp:=Nat.two_pow_pos k;have hs:=jq hk;have h1:d/2^k<2^(32-k):=by
  rw[Nat.div_lt_iff_lt_mul hp,Nat.mul_comm,←hs];exact hd
 have h2:=Nat.mod_lt e hp;refine⟨h1,?_⟩;have:(e%2^k+1)*2^(32-k)<=2^k*2^(32-k):=Nat.mul_le_mul_right _ h2;rw[←hs,Nat.add_mul,Nat.one_mul]at this;omega
theorem As{d R k:Nat}(hk:k<=32):(d+4294967296*R)/2^k=d/2^k+(R%2^k)*2^(32-k)+4294967296*(R/2^k):=by
 have hp:=Nat.two_pow_pos k;have hs:=jq hk;have h1:(d+4294967296*R)/2^k=d/2^k+2^(32-k)*R:=by
  conv=>lhs;rw[hs]
  rw[Nat.mul_assoc,Nat.add_mul_div_left _ _ hp]
 have h2:=Nat.div_add_mod R (2^k);rw[h1]
 conv=>lhs;rw[←h2]
 rw[Nat.mul_add,←Nat.mul_assoc,Nat.mul_comm (2^(32-k)) (2^k),←hs,Nat.mul_comm (2^(32-k))];omega
theorem Ce{e R k:Nat}(hk:k<=32):(e+4294967296*R)%2^k=e%2^k:=by
 rw[jq hk,Nat.mul_assoc,Nat.add_mul_mod_self_left]
theorem zd{x i:Nat}(h:i<=(ay x).length):val ((ay x).drop i)=x/4294967296^i:=by
 have hs:=dX (ay x) i h;rw[dr]at hs;have hlt:=eB (cp x) i
 conv=>rhs;rw[hs]
 rw[Nat.add_mul_div_left _ _ (Nat.pow_pos (by omega)),Nat.div_eq_of_lt hlt,Nat.zero_add]
theorem Bn(l:List Nat)(i:Nat)(h:bz (((bB l).drop ((i:Int).toNat*1)).take ((l.length-(i:Int).toNat)*1))=[]):D.ik (l.length-(i:Int).toNat) 1 (((bB l).drop ((i:Int).toNat*1)).take ((l.length-(i:Int).toNat)*1)) h=db (l.drop i):=by
 refine lB ?_ ?_
 ·rw[Int.toNat_natCast,List.length_drop]
 ·rw[Int.toNat_natCast,Nat.mul_one,Nat.mul_one,yy];exact List.take_of_length_le (by rw[bu,List.length_drop];exact Nat.le_refl _)
theorem Cm(x k:Nat)(hx:(ay x).length<=1099511627776)(hk:k<9223372036854775808):j3 PP 229 [ah x,.int .i64 k] (ah (x/2^k)):=by
 show j3 PP _ [db (ay x),.int .i64 k] _;refine .of Go.Proofs.Tryz.func229 rfl (by kernel_rfl) rfl rfl rfl (fun A w0=>?_);have hkq:(2:Nat)^k=4294967296^(k/32)*2^(k%32):=by
  rw[show(4294967296:Nat)=2^32 by rfl,←Nat.pow_mul,←Nat.pow_add,Nat.div_add_mod]
 refine .ak (.au rfl<|.nil) rfl (.sq ?_);by_cases hge:(ay x).length<=k/32
 ·refine .ak (.mv rfl<|.ar rfl rfl (tA (n:=k) (d:=32) (by omega) hk)<|.mv rfl<|.ln rfl ao<|.cm rfl rfl (C8 (by omega))<|.nil) rfl ?_;refine .cT rfl (.ak (.au rfl<|.nil) rfl ?_);have hz:x/2^k=0:=by
   apply Nat.div_eq_of_lt;have h1:=jY (x:=x);have h2:4294967296^(ay x).length<=4294967296^(k/32):=Nat.pow_le_pow_right (by omega) hge;have h3:4294967296^(k/32)*1<=4294967296^(k/32)*2^(k%32):=Nat.mul_le_mul_left _ (Nat.two_pow_pos _);rw[hkq];omega
  rw[hz];exact .oC (fun _ _ h=>h) rfl (.tmp rfl) aQ rfl
 ·refine .ak (.mv rfl<|.ar rfl rfl (tA (n:=k) (d:=32) (by omega) hk)<|.mv rfl<|.ln rfl ao<|.cm rfl rfl (Bb (by omega))<|.nil) rfl ?_;refine .cF rfl (.skip (Ok.on ?_));have hval:=zd (x:=x) (i:=k/32) (by omega);have hres:x/2^k=(x/4294967296^(k/32))/2^(k%32):=by rw[hkq,Nat.div_div_eq_div_mul]
  rw[hres,←hval];have hla:cz ((ay x).drop (k/32)):=iB (cp x) _;have hll:((ay x).drop (k/32)).length=(ay x).length-k/32:=by simp
  have hslc:=Bn (ay x) (k/32);generalize (ay x).drop (k/32)=a at*;have hr:k%32<32:=Nat.mod_lt _ (by omega);refine .ak (.mv rfl<|.mv rfl<|.ar rfl rfl (tA (n:=k) (d:=32) (by omega) hk)<|.FO rfl rfl av (by omega) (by omega)<|.zp (hl:=aH a) (uj a (by omega)) ⟨congrArg some (hslc _),trivial⟩ rfl<|.au rfl<|.nil) rfl ?_;refine .rj (ι:={zs:List Nat//zs.length=a.length/\cz zs/\val zs=val a/2^(k%32)}) (fun zs=>[(5,.own 17)]) (fun zs=>[(17,.row 1 230 (bB zs.1) (aH _))]) ?_ ?_
  ·refine .ak (.mv rfl<|.ar rfl rfl (tH (n:=k) (d:=32) (by omega))<|.au rfl<|.nil) rfl ?_;generalize k%32=r at*;refine .sub [(5,.own 17),(6,.int .i64 r)] [(17,.row 1 230 (bB a) (aH a))] (cR rfl) (iF rfl) rfl rfl ?_;by_cases hr0:r=0
   ·subst hr0;refine .ak (.mv rfl<|.cm rfl rfl (C4 (by omega))<|.nil) rfl ?_;exact .cF rfl (.skip fun _ _ hs=>hs.to ⟨a,rfl,hla,by simp⟩ (cR rfl) (iF rfl) rfl rfl)
   refine .ak (.mv rfl<|.cm rfl rfl (DJ (by omega))<|.nil) rfl ?_;refine .cT rfl ?_;refine .ak (.mv rfl<|.DR (n:=a.length) (m':=1) rfl rfl ao (by simp[bu]) rfl rfl<|.mv rfl<|.nil) rfl ?_;refine .block (.loop (ι:={p:List Nat×Nat//p.1.length=a.length/\cz p.1/\p.2<=a.length/\(∀j,p.2<=j->p.1.getD j 0=a.getD j 0)/\val (p.1.take p.2)+4294967296^p.2*(val (a.drop p.2)/2^r)=val a/2^r})
    (fun p=>[(5,.own 17),(6,.int .i64 r),(23,.int .i64 a.length),(24,.int .i64 p.1.2)]) (fun p=>[(17,.row 1 230 (bB p.1.1) (aH _))]) (fun p=>a.length-p.1.2)
    ⟨(a,0),rfl,hla,Nat.zero_le _,fun _ _=>rfl,by simp[val]⟩ (cR rfl) (iF rfl) rfl rfl ?_)
   rintro⟨⟨zs,i⟩,hzl,hzs,hi,hsame,hv⟩;simp only at hzl hzs hi hsame hv;show Ok PP _ [(5,.own 17),(6,.int .i64 r),(23,.int .i64 a.length),(24,.int .i64 i)] [(17,.row 1 230 (bB zs) (aH _))] _ _;by_cases hlt:i<a.length
   ·refine .ak (.cm rfl rfl (vO (by omega))<|.nil) rfl (.sq ?_);refine .cT rfl (.skip (Ok.on ?_));have hzi:zs[i]?=some (a.getD i 0):=by rw[←hsame i (Nat.le_refl _)];simp[show i<zs.length by omega]
    have hdl:=bG hla i;have hdr:=eZ a i;have hdr2:=eZ a (i+1);have hel:=bG hla (i+1);generalize a.getD i 0=d at hzi hdl hdr;have hpd:d/2^r<4294967296:=Nat.lt_of_le_of_lt (Nat.div_le_self _ _) hdl;refine .cut [(5,.own 17),(6,.int .i64 r),(23,.int .i64 a.length),(24,.int .i64 i)] [(17,.row 1 230 (bB (zs.set i (d/2^r+(a.getD (i+1) 0%2^r)*2^(32-r)))) (aH _))] ?_ ?_
    ·refine .block ?_;refine .ak (.mv rfl<|.au rfl<|.nil) rfl ?_;refine .ak (.mv rfl<|.mv rfl<|.og (n:=a.length) (m':=1) rfl rfl rfl av (by rw[bu,hzl];omega) rfl rfl (by omega) (by omega)<|.wq rfl rfl aI (d:=.int .u32 d) (by rw[Int.toNat_natCast,Nat.mul_one];exact bb hzi)<|.mv rfl<|.sh rfl rfl (pF (k:=r) (by omega))<|
      .og (n:=a.length) (m':=1) rfl rfl rfl av (by rw[bu,hzl];omega) rfl rfl (by omega) (by omega)<|.wC rfl rfl rfl aI rfl rfl (by simp[bu,hzl];try omega)<|.nil) rfl ?_
     refine .sub [(5,.own 17),(6,.int .i64 r),(7,.int .i64 i),(23,.int .i64 a.length),(24,.int .i64 i)] [(17,.row 1 230 (bB (zs.set i (d/2^r))) (aH _))] (cR rfl) ⟨⟨_,rfl,.of_eq (dB (dZ ..))⟩,trivial⟩ rfl rfl ?_;have hsd:=rX (e:=a.getD (i+1) 0) (show r<=32 by omega) hdl;by_cases hn:i+1<a.length
     ·have hze:(zs.set i (d/2^r))[i+1]?=some (a.getD (i+1) 0):=by
       rw[List.getElem?_set_ne (by omega),←hsame (i+1) (by omega)];simp[show i+1<zs.length by omega]
      have hzd:(zs.set i (d/2^r))[i]?=some (d/2^r):=by simp[show i<zs.length by omega]
      have hl2:(bB (zs.set i (d/2^r))).length=a.length*1:=by rw[bu,List.length_set,hzl];omega
      generalize a.getD (i+1) 0=e at hze hel hsd;refine .ak (.mv rfl<|.ar rfl rfl (fg (by omega))<|.mv rfl<|.DR (n:=a.length) (m':=1) rfl rfl ao hl2 rfl rfl<|.cm rfl rfl (vO (by omega))<|.nil) rfl ?_;refine .cT rfl ?_;refine .dc cq (.mv rfl<|.mv rfl<|.og (n:=a.length) (m':=1) rfl rfl rfl av hl2 rfl rfl (by omega) (by omega)<|.wq rfl rfl aI (d:=.int .u32 (d/2^r:Nat)) (by rw[Int.toNat_natCast,Nat.mul_one];exact bb hzd)<|
       .mv rfl<|.mv rfl<|.ar rfl rfl (fg (by omega))<|.og (n:=a.length) (m':=1) rfl rfl rfl av hl2 rfl rfl (by omega) (by omega)<|.wq rfl rfl aI (d:=.int .u32 (e:Nat)) (by rw[Int.toNat_natCast,Nat.mul_one];exact bb hze)<|
       .mv rfl<|.ar rfl rfl (r:=((32-r:Nat):Int)) (congrArg some (fN (by omega) (by omega)))<|.sh rfl rfl (xa (n:=e) (k:=32-r) (by omega))<|.ar rfl rfl (r:=((d/2^r+(e%2^r)*2^(32-r):Nat):Int)) (by rw[xx (by omega)];exact Du hsd.1 hsd.2)<|
       .og (n:=a.length) (m':=1) rfl rfl rfl av hl2 rfl rfl (by omega) (by omega)<|.wC rfl rfl rfl aI rfl rfl (by rw[hl2];omega)<|.nil) rfl (by kernel_rfl) fun _ _ hs=>?_
      exact hs.sub (cR rfl) ⟨⟨_,rfl,.of_eq (dB (by rw[dZ,List.set_set]))⟩,trivial⟩ rfl rfl
     ·have he0:a.getD (i+1) 0=0:=by simp[List.getElem?_eq_none (show a.length<=i+1 by omega)]
      rw[he0,Nat.zero_mod,Nat.zero_mul,Nat.add_zero];have hl2:(bB (zs.set i (d/2^r))).length=a.length*1:=by rw[bu,List.length_set,hzl];omega
      refine .ak (.mv rfl<|.ar rfl rfl (fg (by omega))<|.mv rfl<|.DR (n:=a.length) (m':=1) rfl rfl ao hl2 rfl rfl<|.cm rfl rfl (vI (by omega))<|.nil) rfl ?_;exact .cF rfl (.skip fun _ _ hs=>hs.sub (cR rfl) (iF rfl) rfl rfl)
    ·have hsd:=rX (e:=a.getD (i+1) 0) (show r<=32 by omega) hdl;have hml:=Ce (e:=a.getD (i+1) 0) (R:=val (a.drop (i+1+1))) (show r<=32 by omega);rw[←hdr2]at hml;refine .region (.ar rfl rfl (fg (by omega))<|.mv rfl<|.nil) rfl fun _ _ hs=>?_;refine hs.round (m:=a.length-i) ⟨(zs.set i (d/2^r+(a.getD (i+1) 0%2^r)*2^(32-r)),i+1),by simpa using hzl,gS hzs hsd.2 i,hlt,?_,?_⟩ (by simp only;omega) (cR rfl) (iF rfl) rfl rfl
     ·intro j hj;simp only at hj|-;rw[←hsame j (by omega)];simp[List.getElem?_set_ne (show i≠j by omega)]
     ·simp only;rw[fc (by omega),←hv,hdr,As (by omega),hml,Nat.pow_succ];generalize d/2^r+a.getD (i+1) 0%2^r*2^(32-r)=X;rw[Nat.mul_add,Nat.mul_assoc,Nat.add_assoc]
   ·have:i=a.length:=by omega
    subst this;refine .ak (.cm rfl rfl (vI (by omega))<|.nil) rfl (.sq ?_);refine .cF rfl (.exit fun _ _ hs=>?_);refine hs.to ⟨zs,hzl,hzs,?_⟩ (cR rfl) (iF rfl) rfl rfl;rw[List.take_of_length_le (by omega),List.drop_length]at hv;simpa [val]using hv
  ·rintro⟨zs,hzl,hzs,hv⟩;show Ok PP _ [(5,.own 17)] [(17,.row 1 230 (bB zs) (aH _))] _ _;refine .qR (n:=a.length) (m':=1) 5 rfl rfl (by simp[bu,hzl]) rfl rfl ?_;refine .sub [(5,db zs)] [] ⟨⟨_,rfl,.of_eq (lB hzl.symm rfl)⟩,trivial⟩ trivial rfl rfl ?_;refine .ak (.mv rfl<|.call (kJ _ hzs (by omega)) ⟨rfl,trivial⟩<|.au rfl<|.nil) rfl ?_;exact .ov rfl (.tmp rfl) (.of_eq (by rw[hv])) rfl
end Go.Am
namespace Go.Am
open Go.RowKit
theorem BC{d r:Nat}(hr:r<=32):d*2^r%4294967296=(d%2^(32-r))*2^r:=by
 have:=xx (e:=d) (k:=32-r) (by omega)
 rwa [show 32-(32-r)=r by omega]at this
theorem yn{d c r:Nat}(hr:r<=32)(hd:d<4294967296)(hc:c<2^r):c+(d%2^(32-r))*2^r<4294967296/\d/2^(32-r)<2^r/\(d%2^(32-r))*2^r+4294967296*(d/2^(32-r))=2^r*d:=by
 have hs:=jq hr;have hp:=Nat.two_pow_pos (32-r);have hm:=Nat.mod_lt d hp;have h1:(d%2^(32-r)+1)*2^r<=2^(32-r)*2^r:=Nat.mul_le_mul_right _ hm;rw[Nat.mul_comm (2^(32-r)),←hs,Nat.add_mul,Nat.one_mul]at h1;refine⟨by omega,?_,?_⟩
 ·rw[Nat.div_lt_iff_lt_mul hp,←hs];exact hd
 ·have h2:=Nat.div_add_mod d (2^(32-r))
  conv=>rhs;rw[←h2]
  rw[Nat.mul_add,←Nat.mul_assoc,←hs,Nat.mul_comm (2^r) (d%2^(32-r)),Nat.add_comm]
theorem zo{p v c n d e t o:Nat}(h:v+p*c=t*o)(hd:d+4294967296*e=t*n):v+p*(c+d)+p*4294967296*e=t*(o+p*n):=by
 have h2:p*(d+4294967296*e)=p*(t*n):=by rw[hd]
 rw[Nat.mul_add,←Nat.mul_assoc]at h2;rw[Nat.mul_add,Nat.mul_add,Nat.mul_left_comm t p n];omega
theorem AR{P R W t c v o:Nat}(hR:P=R*W)(hp:t<=W)(ho:o<R)(h:v+P*c=t*o):v=t*o:=by
 subst hR;rcases Nat.eq_zero_or_pos c with h0|h0
 ·subst h0;simpa using h
 ·have h1:t*o<=W*o:=Nat.mul_le_mul_right _ hp;have h2:R*W*1<=R*W*c:=Nat.mul_le_mul_left _ h0;have h3:W*o<=W*R:=Nat.mul_le_mul_left _ (Nat.le_of_lt ho);rcases Nat.eq_zero_or_pos W with h4|h4
  ·subst h4;have:t=0:=by omega
   subst this;simp at h|-;omega
  ·have h5:W*o<W*R:=Nat.mul_lt_mul_of_pos_left ho h4;rw[Nat.mul_comm R W]at h h2;omega
theorem C5{r:Nat}(hr:r<=32):(2:Nat)^r<=4294967296:=by
 have:=jq hr;rw[this];exact Nat.le_mul_of_pos_right _ (Nat.two_pow_pos _)
theorem B9{n r c v o:Nat}(hr:r<=32)(ho:o<4294967296^n)(h:v+4294967296^(n+1)*c=2^r*o):v=2^r*o:=
 AR (Nat.pow_succ ..) (C5 hr) ho h
def laid(q:Nat)(a:List Nat):List Nat:=List.replicate q 0++a++[0]
theorem zI(q:Nat)(a:List Nat):(laid q a).length=q+a.length+1:=by simp[laid];omega
theorem um(q:Nat)(a:List Nat):val (laid q a)=4294967296^q*val a:=by
 rw[laid,jv,jv,mi];simp[val]
theorem yv(q:Nat){a:List Nat}(h:cz a):cz (laid q a):=iS (iS (gh q) h) (fun d hd=>by simp at hd;omega)
theorem x5(q:Nat)(a:List Nat):(List.replicate (q+a.length+1) (D.int .u32 0)).take ((q:Int).toNat*1)++bB a++(List.replicate (q+a.length+1) (D.int .u32 0)).drop ((q:Int).toNat*1+a.length)=bB (laid q a):=by
 rw[Int.toNat_natCast,Nat.mul_one,List.take_replicate,List.drop_replicate,Nat.min_eq_left (by omega),show q+a.length+1-(q+a.length)=1 by omega];simp[laid,bB]
theorem zR(x k:Nat)(hx:(ay x).length<=1099511627776)(hk:k<35184372088832):j3 PP 166 [ah x,.int .i64 k] (ah (x*2^k)):=by
 show j3 PP _ [db (ay x),.int .i64 k] _;refine .of Go.Proofs.Tryz.func166 rfl (by kernel_rfl) rfl rfl rfl (fun A w0=>?_);have hkq:(2:Nat)^k=4294967296^(k/32)*2^(k%32):=by
  rw[show(4294967296:Nat)=2^32 by rfl,←Nat.pow_mul,←Nat.pow_add,Nat.div_add_mod]
 have hq:k/32<1099511627776:=by omega
 have hr:k%32<32:=Nat.mod_lt _ (by omega);have hqi:m_ .quo .i64 (k:Int) 32=some ((k/32:Nat):Int):=tA (d:=32) (by omega) (by omega);have hri:m_ .rem .i64 (k:Int) 32=some ((k%32:Nat):Int):=tH (d:=32) (by omega);have hvx:=dr x;have hla:=cp x;generalize ay x=a at*;have hres:x*2^k=2^(k%32)*val (laid (k/32) a):=by
  rw[um,hvx,hkq,Nat.mul_comm x,Nat.mul_assoc,Nat.mul_left_comm]
 rw[hres];generalize k/32=q at*;generalize k%32=r at*;have hlo:=yv q hla;have hln:=zI q a;have hcopy:=x5 q a;have hsmall:val (laid q a)<4294967296^(q+a.length):=by
  rw[um,Nat.pow_add];exact Nat.mul_lt_mul_of_pos_left (m9 hla) (Nat.pow_pos (by omega))
 have hstart:val ((laid q a).take q)=0:=by
  rw[laid,List.append_assoc,List.take_append_of_le_length (by simp),List.take_of_length_le (by simp)];exact mi q
 generalize laid q a=o at*;refine .ak (.au rfl<|.nil) rfl ?_;refine .ak (.mv rfl<|.ar rfl rfl hqi<|.mv rfl<|.ln rfl ao<|.ar rfl rfl (dq (by omega))<|.ar rfl rfl (fg (by omega))<|.DF rfl rfl dn rfl (by omega) (by omega) rfl<|.au rfl<|.nil) rfl ?_;refine .ak (.mv rfl<|.mv rfl<|.ar rfl rfl hqi<|.FP (n:=q+a.length+1) (m':=1) rfl rfl rfl av (by simp) rfl rfl (by omega) (by omega)<|.mv rfl<|.FG rfl rfl rfl dn (by simp;try omega) (by simp;try omega)<|.nil) rfl ?_;refine .sub [(1,.int .i64 k),(5,.own 15)] [(15,.row 1 230 (bB o) (aH o))] (cR rfl) ⟨⟨_,rfl,.of_eq (dB hcopy)⟩,trivial⟩ rfl rfl ?_;refine .rj (ι:={zs:List Nat//zs.length=q+a.length+1/\cz zs/\val zs=2^r*val o}) (fun zs=>[(5,.own 15)]) (fun zs=>[(15,.row 1 230 (bB zs.1) (aH _))]) ?_ ?_
 ·refine .ak (.mv rfl<|.ar rfl rfl hri<|.au rfl<|.nil) rfl ?_;by_cases hr0:r=0
  ·subst hr0;refine .ak (.mv rfl<|.cm rfl rfl (C4 (by omega))<|.nil) rfl ?_;exact .cF rfl (.skip fun _ _ hs=>hs.to ⟨o,hln,hlo,by simp⟩ (cR rfl) (iF rfl) rfl rfl)
  refine .ak (.mv rfl<|.cm rfl rfl (DJ (by omega))<|.nil) rfl ?_;refine .cT rfl ?_;refine .ak (.au rfl<|.nil) rfl ?_;refine .ak (.mv rfl<|.ar rfl rfl hqi<|.au rfl<|.nil) rfl ?_;refine .block (.loop (ι:={p:List Nat×Nat×Nat//p.1.length=q+a.length+1/\cz p.1/\p.2.1<2^r/\p.2.2<=q+a.length+1/\(∀j,p.2.2<=j->p.1.getD j 0=o.getD j 0)/\val (p.1.take p.2.2)+4294967296^p.2.2*p.2.1=2^r*val (o.take p.2.2)})
   (fun p=>[(5,.own 15),(6,.int .i64 r),(7,.int .u32 p.1.2.1),(8,.int .i64 p.1.2.2)]) (fun p=>[(15,.row 1 230 (bB p.1.1) (aH _))]) (fun p=>q+a.length+1-p.1.2.2)
   ⟨(o,0,q),hln,hlo,Nat.two_pow_pos r,by simp only;omega,fun _ _=>rfl,by simp[hstart]⟩ (cR rfl) (iF rfl) rfl rfl ?_)
  rintro⟨⟨zs,c,i⟩,hzl,hzs,hc,hi,hsame,hv⟩;simp only at hzl hzs hc hi hsame hv;show Ok PP _ [(5,.own 15),(6,.int .i64 r),(7,.int .u32 c),(8,.int .i64 i)] [(15,.row 1 230 (bB zs) (aH _))] _ _;have hl2:(bB zs).length=(q+a.length+1)*1:=by rw[bu,hzl];omega
  refine .sq ?_;by_cases hlt:i<q+a.length+1
  ·refine .ak (.mv rfl<|.mv rfl<|.DR (n:=q+a.length+1) (m':=1) rfl rfl ao hl2 rfl rfl<|.cm rfl rfl (vO (by omega))<|.nil) rfl ?_;refine .cT rfl (.skip (Ok.on (.sq (.block ?_))));have hzi:zs[i]?=some (o.getD i 0):=by rw[←hsame i (Nat.le_refl _)];simp[show i<zs.length by omega]
   have hdl:=bG hlo i;have hst:=dp o i;generalize o.getD i 0=d at hzi hdl hst;obtain⟨h1,h2,h3⟩:=yn (r:=r) (by omega) hdl hc;refine .dc cq (.mv rfl<|.mv rfl<|.mv rfl<|.mv rfl<|.og (n:=q+a.length+1) (m':=1) rfl rfl rfl av hl2 rfl rfl (by omega) (by omega)<|.wq rfl rfl aI (d:=.int .u32 d) (by rw[Int.toNat_natCast,Nat.mul_one];exact bb hzi)<|.mv rfl<|
    .ar rfl rfl (nH (n:=32) (d:=r) (by omega) (by omega))<|.sh rfl rfl (pF (n:=d) (k:=32-r) (by omega))<|.mv rfl<|.mv rfl<|.og (n:=q+a.length+1) (m':=1) rfl rfl rfl av hl2 rfl rfl (by omega) (by omega)<|.wq rfl rfl aI (d:=.int .u32 d) (by rw[Int.toNat_natCast,Nat.mul_one];exact bb hzi)<|
    .mv rfl<|.sh rfl rfl (xa (n:=d) (k:=r) (by omega))<|.mv rfl<|.ar rfl rfl (r:=((c+(d%2^(32-r))*2^r:Nat):Int)) (by rw[BC (by omega)];exact Cd hc h1)<|.au rfl<|.og (n:=q+a.length+1) (m':=1) rfl rfl rfl av hl2 rfl rfl (by omega) (by omega)<|
    .wC rfl rfl rfl aI rfl rfl (by rw[hl2];omega)<|.nil) rfl (by kernel_rfl) fun _ _ hs=>?_
   refine Ok.on ?_ _ _ hs;refine .region (.mv rfl<|.ar rfl rfl (fg (by omega))<|.au rfl<|.nil) rfl fun _ _ hs=>?_;refine hs.round (m:=q+a.length+1-i) ⟨(zs.set i (c+(d%2^(32-r))*2^r),d/2^(32-r),i+1),by simpa using hzl,gS hzs h1 i,h2,hlt,?_,?_⟩ (by simp only;omega) (cR rfl) ⟨⟨_,rfl,.of_eq (dB (dZ ..))⟩,trivial⟩ rfl rfl
   ·intro j hj;simp only at hj|-;rw[←hsame j (by omega)];simp[List.getElem?_set_ne (show i≠j by omega)]
   ·simp only;rw[fc (by omega),hst,Nat.pow_succ];exact zo hv h3
  ·have:i=q+a.length+1:=by omega
   subst this;refine .ak (.mv rfl<|.mv rfl<|.DR (n:=q+a.length+1) (m':=1) rfl rfl ao hl2 rfl rfl<|.cm rfl rfl (vI (by omega))<|.nil) rfl ?_;refine .cF rfl (.exit fun _ _ hs=>?_);rw[List.take_of_length_le (by omega),List.take_of_length_le (by omega)]at hv;exact hs.to ⟨zs,hzl,hzs,B9 (by omega) hsmall hv⟩ (cR rfl) (iF rfl) rfl rfl
 ·rintro⟨zs,hzl,hzs,hv⟩;show Ok PP _ [(5,.own 15)] [(15,.row 1 230 (bB zs) (aH _))] _ _;refine .qR (n:=q+a.length+1) (m':=1) 5 rfl rfl (by simp[bu,hzl]) rfl rfl ?_;refine .sub [(5,db zs)] [] ⟨⟨_,rfl,.of_eq (lB hzl.symm rfl)⟩,trivial⟩ trivial rfl rfl ?_;refine .ak (.mv rfl<|.call (kJ _ hzs (by omega)) ⟨rfl,trivial⟩<|.au rfl<|.nil) rfl ?_;exact .ov rfl (.tmp rfl) (.of_eq (by rw[hv])) rfl
end Go.Am
namespace Go.Am
def h_(t:Nat):List Nat->Nat->Nat->List Nat->List Nat
 |[],c,b,u::us=>(u+(8589934592-c%4294967296-b))%4294967296::us
 |y::v,c,b,u::us=>(u+(8589934592-(c+t*y)%4294967296-b))%4294967296::h_ t v ((c+t*y)/4294967296) (if u<(c+t*y)%4294967296+b then 1 else 0) us
 |_,_,_,[]=>[]
def gw(t:Nat):List Nat->Nat->Nat->List Nat->Nat
 |[],c,b,u::_=>if u<c%4294967296+b then 1 else 0
 |y::v,c,b,u::us=>gw t v ((c+t*y)/4294967296) (if u<(c+t*y)%4294967296+b then 1 else 0) us
 |_,_,_,[]=>0
def jb:List Nat->Nat->List Nat->List Nat
 |[],c,u::us=>(u+c)%4294967296::us
 |y::v,c,u::us=>(u+y+c)%4294967296::jb v ((u+y+c)/4294967296) us
 |_,_,[]=>[]
theorem oQ(t:Nat):∀(v:List Nat) (c b:Nat) (us:List Nat),(h_ t v c b us).length=us.length
 |[],_,_,[]=>rfl
 |[],_,_,_::_=>rfl
 |_::_,_,_,[]=>rfl
 |_::v,_,_,_::us=>by simp[h_,oQ t v]
theorem m2(t:Nat):∀{v:List Nat} {c b:Nat} {us:List Nat},cz us->cz (h_ t v c b us)
 |[],_,_,[],h=>h
 |[],_,_,u::us,h=>fun d hd=>by
  rcases List.mem_cons.1 hd with rfl|hd
  ·exact Nat.mod_lt _ (by omega)
  ·exact h d (by simp[hd])
 |_::_,_,_,[],h=>h
 |_::v,_,_,u::us,h=>fun d hd=>by
  rcases List.mem_cons.1 hd with rfl|hd
  ·exact Nat.mod_lt _ (by omega)
  ·exact m2 t (v:=v) (fun x hx=>h x (by simp[hx])) d hd
theorem uw(t:Nat):∀(v:List Nat) (c b:Nat) (us:List Nat),gw t v c b us<=1
 |[],_,_,[]=>by simp[gw]
 |[],_,_,_::_=>by simp only[gw];split<;>omega
 |_::_,_,_,[]=>by simp[gw]
 |_::v,_,_,_::us=>uw t v _ _ us
theorem rZ(t:Nat)(ht:t<4294967296):∀(v:List Nat) (c b:Nat) (us:List Nat),cz v->cz us->c<4294967296->b<=1->v.length<us.length->
  val ((h_ t v c b us).take (v.length+1))+(t*val v+c+b)=val (us.take (v.length+1))+4294967296^(v.length+1)*gw t v c b us
 |[],c,b,u::us,_,hu,hc,hb,_=>by
  have h1:=hu u (by simp);simp only[h_,gw,List.length_nil,Nat.zero_add,List.take_succ_cons,List.take_zero,val,Nat.mul_zero,Nat.add_zero,Nat.pow_one];rw[Nat.mod_eq_of_lt hc]
  split<;>omega
 |y::v,c,b,u::us,hv,hu,hc,hb,hl=>by
  have h1:=hu u (by simp);have h2:=hv y (by simp);have hty:t*y<=4294967295*4294967295:=Nat.mul_le_mul (by omega) (by omega);have hc':(c+t*y)/4294967296<4294967296:=by omega
  have hb':(if u<(c+t*y)%4294967296+b then 1 else 0)<=1:=by split<;>omega
  have ih:=rZ t ht v ((c+t*y)/4294967296) (if u<(c+t*y)%4294967296+b then 1 else 0) us (fun x hx=>hv x (by simp[hx])) (fun x hx=>hu x (by simp[hx])) hc' hb' (by simpa using hl);simp only[h_,gw,List.length_cons,List.take_succ_cons,val];generalize gw t v _ _ us=B at*;generalize val ((h_ t v _ _ us).take (v.length+1))=X at*;generalize val (us.take (v.length+1))=U at*;have hp:(4294967296:Nat)^(v.length+1+1)*B=4294967296*(4294967296^(v.length+1)*B):=by rw[Nat.pow_succ (n:=4294967296) (m:=v.length+1),Nat.mul_comm (4294967296^(v.length+1)),Nat.mul_assoc]
  rw[hp];generalize (4294967296:Nat)^(v.length+1)*B=Z at*;have htv:t*(y+4294967296*val v)=t*y+4294967296*(t*val v):=by rw[Nat.mul_add,Nat.mul_left_comm]
  rw[htv];generalize t*val v=W at*;generalize t*y=S at*
  split at ih<;>omega
theorem oJ:∀(v:List Nat) (c:Nat) (us:List Nat),(jb v c us).length=us.length
 |[],_,[]=>rfl
 |[],_,_::_=>rfl
 |_::_,_,[]=>rfl
 |_::v,_,_::us=>by simp[jb,oJ v]
theorem m5:∀{v:List Nat} {c:Nat} {us:List Nat},cz us->cz (jb v c us)
 |[],_,[],h=>h
 |[],_,u::us,h=>fun d hd=>by
  rcases List.mem_cons.1 hd with rfl|hd
  ·exact Nat.mod_lt _ (by omega)
  ·exact h d (by simp[hd])
 |_::_,_,[],h=>h
 |_::v,_,u::us,h=>fun d hd=>by
  rcases List.mem_cons.1 hd with rfl|hd
  ·exact Nat.mod_lt _ (by omega)
  ·exact m5 (v:=v) (fun x hx=>h x (by simp[hx])) d hd
theorem sL:∀(v:List Nat) (c:Nat) (us:List Nat),cz v->cz us->c<=1->v.length<us.length->
  ∃k,k<=1/\val ((jb v c us).take (v.length+1))+4294967296^(v.length+1)*k=val (us.take (v.length+1))+val v+c
 |[],c,u::us,_,hu,hc,_=>by
  have h1:=hu u (by simp);refine⟨(u+c)/4294967296,by omega,?_⟩;simp only[jb,List.length_nil,Nat.zero_add,List.take_succ_cons,List.take_zero,val,Nat.mul_zero,Nat.add_zero,Nat.pow_one];omega
 |y::v,c,u::us,hv,hu,hc,hl=>by
  have h1:=hu u (by simp);have h2:=hv y (by simp);obtain⟨k,hk,ih⟩:=sL v ((u+y+c)/4294967296) us (fun x hx=>hv x (by simp[hx])) (fun x hx=>hu x (by simp[hx])) (by omega) (by simpa using hl);refine⟨k,hk,?_⟩;simp only[jb,List.length_cons,List.take_succ_cons,val];have hp:(4294967296:Nat)^(v.length+1+1)*k=4294967296*(4294967296^(v.length+1)*k):=by rw[Nat.pow_succ (n:=4294967296) (m:=v.length+1),Nat.mul_comm (4294967296^(v.length+1)),Nat.mul_assoc]
  rw[hp];generalize (4294967296:Nat)^(v.length+1)*k=Z at*;generalize val ((jb v _ us).take (v.length+1))=X at*;generalize val (us.take (v.length+1))=U at*;omega
theorem m7(t:Nat):∀(v:List Nat) (c b:Nat) (us:List Nat),(h_ t v c b us).drop (v.length+1)=us.drop (v.length+1)
 |[],_,_,[]=>rfl
 |[],_,_,_::_=>rfl
 |_::_,_,_,[]=>rfl
 |_::v,_,_,_::us=>by simpa [h_]using m7 t v _ _ us
theorem q5:∀(v:List Nat) (c:Nat) (us:List Nat),(jb v c us).drop (v.length+1)=us.drop (v.length+1)
 |[],_,[]=>rfl
 |[],_,_::_=>rfl
 |_::_,_,[]=>rfl
 |_::v,_,_::us=>by simpa [jb]using q5 v _ us
end Go.Am
namespace Go.Am
open Go.RowKit
theorem pw{p:List Nat}{u d:Nat}{q:List Nat}{i:Nat}(h:p.length=i):(p++u::q).set i d=p++d::q:=by
 subst h;simp
theorem wH{p:List Nat}{u:Nat}{q:List Nat}{i:Nat}(h:p.length=i):(p++u::q)[i]?=some u:=by
 subst h;simp
def taken(us v:List Nat)(t at':Nat):List Nat:=us.take at'++h_ t v 0 0 (us.drop at')
def given(us v:List Nat)(at':Nat):List Nat:=us.take at'++jb v 0 (us.drop at')
theorem De(us v:List Nat)(t at':Nat)(hus:cz us)(hv:cz v)(ht:t<4294967296)(hl:at'+v.length<us.length)(hmax:us.length<=2199023255552):
  zL PP 227 [db v,.int .u64 t,.int .i64 at'] 1 230 (bB us) (.bool (gw t v 0 0 (us.drop at') !=0)) (bB (taken us v t at')):=by
 refine .of (hl:=aH us) (hl':=aH _) Go.Proofs.Tryz.func227 rfl (by kernel_rfl) rfl rfl rfl (fun A w0 b F hF=>?_);refine .ak (.au rfl<|.nil) rfl ?_;refine .ak (.au rfl<|.au rfl<|.nil) rfl (.sq ?_);refine .ak (.mv rfl<|.ln rfl ao<|.mv rfl<|.nil) rfl ?_;refine .block (.loop (ι:={p:List Nat×Nat×Nat×Nat//p.1.length=at'+p.2.2.2/\p.2.2.2<=v.length/\p.2.1<4294967296/\p.2.2.1<=1/\taken us v t at'=p.1++h_ t (v.drop p.2.2.2) p.2.1 p.2.2.1 (us.drop (at'+p.2.2.2))/\
   gw t v 0 0 (us.drop at')=gw t (v.drop p.2.2.2) p.2.1 p.2.2.1 (us.drop (at'+p.2.2.2))})
  (fun p=>[(0,wW 0 b),(1,db v),(2,.int .u64 t),(3,.int .i64 at'),(9,.int .u64 p.1.2.1),(10,.int .u32 p.1.2.2.1),(13,db v),(14,.int .i64 v.length),(15,.int .i64 p.1.2.2.2)])
  (fun p=>[(0,.row 1 230 (bB (p.1.1++us.drop (at'+p.1.2.2.2))) (aH _))]) (fun p=>v.length-p.1.2.2.2)
  ⟨(us.take at',0,0,0),by simp;omega,Nat.zero_le _,by simp,by simp,rfl,rfl⟩ (cR rfl) ⟨⟨_,rfl,.of_eq (dB (by simp))⟩,trivial⟩ rfl rfl ?_)
 rintro⟨⟨ps,c,bo,i⟩,hpl,hi,hc,hbo,htk,htb⟩;simp only at hpl hi hc hbo htk htb;show Ok PP _ [(0,wW 0 b),(1,db v),(2,.int .u64 t),(3,.int .i64 at'),(9,.int .u64 c),(10,.int .u32 bo),(13,db v),(14,.int .i64 v.length),(15,.int .i64 i)] [(0,.row 1 230 (bB (ps++us.drop (at'+i))) (aH _))] _ _;have hdu:us.drop (at'+i)=us.getD (at'+i) 0::us.drop (at'+i+1):=by
  rw[List.drop_eq_getElem_cons (show at'+i<us.length by omega)];simp[show at'+i<us.length by omega]
 have hul:=bG hus (at'+i);generalize us.getD (at'+i) 0=u at hdu hul;refine .sub [(0,wW 0 b),(1,db v),(2,.int .u64 t),(3,.int .i64 at'),(9,.int .u64 c),(10,.int .u32 bo),(13,db v),(14,.int .i64 v.length),(15,.int .i64 i)] [(0,.row 1 230 (bB (ps++u::us.drop (at'+i+1))) (aH _))] (cR rfl) ⟨⟨_,rfl,.of_eq (dB (by rw[hdu]))⟩,trivial⟩ rfl rfl ?_;rw[hdu]at htk htb;have hrl:(bB (ps++u::us.drop (at'+i+1))).length=us.length*1:=by
  rw[bu,List.length_append,List.length_cons,List.length_drop,hpl];omega
 have hgu:(bB (ps++u::us.drop (at'+i+1)))[((at'+i:Nat):Int).toNat*1]?=some (.int .u32 u):=by
  rw[Int.toNat_natCast,Nat.mul_one];exact bb (wH hpl)
 by_cases hlt:i<v.length
 ·refine .ak (.cm rfl rfl (vO (by omega))<|.nil) rfl (.sq ?_);refine .cT rfl (.skip (Ok.on (.sq (.block ?_))));have hvi:v[i]?=some (v.getD i 0):=by simp[hlt]
  have hyl:=bG hv i;have hdv:v.drop i=v.getD i 0::v.drop (i+1):=by
   rw[List.drop_eq_getElem_cons hlt];simp[hlt]
  generalize v.getD i 0=y at hvi hyl hdv;rw[hdv]at htk htb;simp only[h_,gw]at htk htb;have hty:t*y<=4294967295*4294967295:=Nat.mul_le_mul (by omega) (by omega);have hs:c+t*y<18446744073709551616:=by omega
  have hm:(c+t*y)%4294967296<4294967296:=Nat.mod_lt _ (by omega);refine .ak (.mv rfl<|.nN rfl rfl av (by omega) (by omega) (bb hvi)<|.i6 rfl aI<|.au rfl<|.au rfl<|.nil) rfl ?_;refine .ak (.mv rfl<|.mv rfl<|.mv rfl<|.cv rfl ba (bD (by omega))<|.ar rfl rfl (pM (by omega))<|.ar rfl rfl (pC hs)<|.au rfl<|.nil) rfl ?_;refine .ak (.Dp rfl kC<|.mv rfl<|.mv rfl<|.ar rfl rfl (dq (by omega))<|.Dp rfl kC<|.mv rfl<|.mv rfl<|.ar rfl rfl (dq (by omega))<|.og (n:=us.length) (m':=1) rfl rfl rfl av hrl rfl rfl (by omega) (by omega)<|.wq rfl rfl aI hgu<|
   .mv rfl<|.cv rfl dS (iu _)<|.mv rfl<|.call (td u ((c+t*y)%4294967296) bo hul hm hbo) ⟨rfl,rfl,rfl,trivial⟩<|.mv rfl<|.ext rfl rfl<|.ext rfl rfl<|.og (n:=us.length) (m':=1) rfl rfl rfl av hrl rfl rfl (by omega) (by omega)<|
   .wC rfl rfl rfl aI rfl rfl (by rw[hrl];omega)<|.au rfl<|.nil) rfl ?_
  refine .region (.mv rfl<|.sh rfl rfl (uO (by decide))<|.au rfl<|.nil) rfl fun _ _ hs=>?_;refine Ok.on ?_ _ _ hs;refine .region (.ar rfl rfl (fg (by omega))<|.mv rfl<|.nil) rfl fun _ _ hs=>?_;refine hs.round (m:=v.length-i) ⟨(ps++[(u+(8589934592-(c+t*y)%4294967296-bo))%4294967296],(c+t*y)/4294967296,if u<(c+t*y)%4294967296+bo then 1 else 0,i+1),by simp[hpl];omega,hlt,by simp only;omega,by simp only;split<;>omega,?_,?_⟩ (by simp only;omega)
   (cR rfl) ⟨⟨_,rfl,.of_eq (dB (by rw[dZ,pw hpl];simp only[List.append_assoc,List.singleton_append,Nat.add_assoc]))⟩,trivial⟩ rfl rfl
  ·simp only;rw[htk,List.append_assoc,List.singleton_append,Nat.add_assoc]
  ·simp only;rw[htb,Nat.add_assoc]
 ·have:i=v.length:=by omega
  subst this;refine .ak (.cm rfl rfl (vI (by omega))<|.nil) rfl (.sq ?_);refine .cF rfl (.exit (Ok.on ?_));rw[List.drop_length]at htk htb;simp only[h_,gw]at htk htb;have hm:c%4294967296=c:=Nat.mod_eq_of_lt hc;rw[hm]at htk htb;refine .ak (.Dp rfl kC<|.mv rfl<|.mv rfl<|.ln rfl ao<|.ar rfl rfl (dq (by omega))<|.Dp rfl kC<|.mv rfl<|.mv rfl<|.ln rfl ao<|.ar rfl rfl (dq (by omega))<|.og (n:=us.length) (m':=1) rfl rfl rfl av hrl rfl rfl (by omega) (by omega)<|.wq rfl rfl aI hgu<|
   .mv rfl<|.cv rfl dS (ft hc)<|.mv rfl<|.call (td u c bo hul hc hbo) ⟨rfl,rfl,rfl,trivial⟩<|.mv rfl<|.ext rfl rfl<|.ext rfl rfl<|.og (n:=us.length) (m':=1) rfl rfl rfl av hrl rfl rfl (by omega) (by omega)<|
   .wC rfl rfl rfl aI rfl rfl (by rw[hrl];omega)<|.au rfl<|.nil) rfl ?_
  refine .ak (.mv rfl<|.cm rfl rfl (b:=gw t v 0 0 (us.drop at') !=0) (by rw[htb];split<;>rfl)<|.au rfl<|.nil) rfl ?_;refine .sub [(0,wW 0 b),(8,.bool (gw t v 0 0 (us.drop at') !=0))] [(0,.row 1 230 (bB (taken us v t at')) (aH _))] (cR rfl) ⟨⟨_,rfl,.of_eq (dB (by rw[dZ,pw hpl,htk]))⟩,trivial⟩ rfl rfl ?_;exact .D2 (t:=0) (r:=0) hF (fun _ _ h=>h) rfl (.tmp rfl) (.refl _) rfl rfl rfl
theorem Sat.Ew{P:Program}{c:Ctx}{T:List (Nat×D)}{H:List (Nat×Hp)}{fn:Func}{t r m:Nat}{e:TypeId}{l:List D}{hl:bz l=[]}{b:Value}{a:Act}{w:World}(hL:∀k,c.L k->b≠.slice none 0 0/\k=jj b)(hx:fn.results=#[])
  (ht:aG T t=some (wW r b))(hh:af H r=some (.row m e l hl))(hs:Sat c (aG T) (af H) a w):bodyPost P fn (DH c .any m e l hl b) .normal a w:=by
 obtain⟨ε,φ,hs⟩:=hs;obtain⟨hrow,hS⟩:=uM hL ht hh hs;refine⟨hs.df,.tuple #[],?_,.tuple #[],φ r,rfl,trivial,(Hp.row m e l hl).mono hrow (fun r h=>by cases h) (fun k hk _=>⟨hS k hk,rfl⟩) (fun _ _=>rfl),hs.oV⟩;rw[eQ,hx];simp
theorem DI(us v:List Nat)(at':Nat)(hus:cz us)(hv:cz v)(hl:at'+v.length<us.length)(hmax:us.length<=2199023255552):
  zL PP 228 [db v,.int .i64 at'] 1 230 (bB us) .any (bB (given us v at')):=by
 refine .of (hl:=aH us) (hl':=aH _) Go.Proofs.Tryz.func228 rfl (by kernel_rfl) rfl rfl rfl (fun A w0 b F hF=>?_);refine .ak (.au rfl<|.nil) rfl (.sq ?_);refine .ak (.mv rfl<|.ln rfl ao<|.mv rfl<|.nil) rfl ?_;refine .block (.loop (ι:={p:List Nat×Nat×Nat//p.1.length=at'+p.2.2/\p.2.2<=v.length/\p.2.1<=1/\given us v at'=p.1++jb (v.drop p.2.2) p.2.1 (us.drop (at'+p.2.2))})
  (fun p=>[(0,wW 0 b),(1,db v),(2,.int .i64 at'),(6,.int .u32 p.1.2.1),(9,db v),(10,.int .i64 v.length),(11,.int .i64 p.1.2.2)])
  (fun p=>[(0,.row 1 230 (bB (p.1.1++us.drop (at'+p.1.2.2))) (aH _))]) (fun p=>v.length-p.1.2.2)
  ⟨(us.take at',0,0),by simp;omega,Nat.zero_le _,by simp,rfl⟩ (cR rfl) ⟨⟨_,rfl,.of_eq (dB (by simp))⟩,trivial⟩ rfl rfl ?_)
 rintro⟨⟨ps,c,i⟩,hpl,hi,hc,htk⟩;simp only at hpl hi hc htk;show Ok PP _ [(0,wW 0 b),(1,db v),(2,.int .i64 at'),(6,.int .u32 c),(9,db v),(10,.int .i64 v.length),(11,.int .i64 i)] [(0,.row 1 230 (bB (ps++us.drop (at'+i))) (aH _))] _ _;have hdu:us.drop (at'+i)=us.getD (at'+i) 0::us.drop (at'+i+1):=by
  rw[List.drop_eq_getElem_cons (show at'+i<us.length by omega)];simp[show at'+i<us.length by omega]
 have hul:=bG hus (at'+i);generalize us.getD (at'+i) 0=u at hdu hul;refine .sub [(0,wW 0 b),(1,db v),(2,.int .i64 at'),(6,.int .u32 c),(9,db v),(10,.int .i64 v.length),(11,.int .i64 i)] [(0,.row 1 230 (bB (ps++u::us.drop (at'+i+1))) (aH _))] (cR rfl) ⟨⟨_,rfl,.of_eq (dB (by rw[hdu]))⟩,trivial⟩ rfl rfl ?_;rw[hdu]at htk;have hrl:(bB (ps++u::us.drop (at'+i+1))).length=us.length*1:=by
  rw[bu,List.length_append,List.length_cons,List.length_drop,hpl];omega
 have hgu:(bB (ps++u::us.drop (at'+i+1)))[((at'+i:Nat):Int).toNat*1]?=some (.int .u32 u):=by
  rw[Int.toNat_natCast,Nat.mul_one];exact bb (wH hpl)
 by_cases hlt:i<v.length
 ·refine .ak (.cm rfl rfl (vO (by omega))<|.nil) rfl (.sq ?_);refine .cT rfl (.skip (Ok.on (.sq (.block ?_))));have hvi:v[i]?=some (v.getD i 0):=by simp[hlt]
  have hyl:=bG hv i;have hdv:v.drop i=v.getD i 0::v.drop (i+1):=by
   rw[List.drop_eq_getElem_cons hlt];simp[hlt]
  generalize v.getD i 0=y at hvi hyl hdv;rw[hdv]at htk;simp only[jb]at htk;refine .ak (.mv rfl<|.nN rfl rfl av (by omega) (by omega) (bb hvi)<|.i6 rfl aI<|.au rfl<|.au rfl<|.nil) rfl ?_;refine .region (.Dp rfl kC<|.mv rfl<|.mv rfl<|.ar rfl rfl (dq (by omega))<|.Dp rfl kC<|.mv rfl<|.mv rfl<|.ar rfl rfl (dq (by omega))<|.og (n:=us.length) (m':=1) rfl rfl rfl av hrl rfl rfl (by omega) (by omega)<|.wq rfl rfl aI hgu<|
   .mv rfl<|.mv rfl<|.call (BA u y c hul hyl hc) ⟨rfl,rfl,rfl,trivial⟩<|.mv rfl<|.ext rfl rfl<|.ext rfl rfl<|.og (n:=us.length) (m':=1) rfl rfl rfl av hrl rfl rfl (by omega) (by omega)<|
   .wC rfl rfl rfl aI rfl rfl (by rw[hrl];omega)<|.au rfl<|.nil) rfl fun _ _ hs=>?_
  refine Ok.on ?_ _ _ hs;refine .region (.ar rfl rfl (fg (by omega))<|.mv rfl<|.nil) rfl fun _ _ hs=>?_;refine hs.round (m:=v.length-i) ⟨(ps++[(u+y+c)%4294967296],(u+y+c)/4294967296,i+1),by simp[hpl];omega,hlt,by simp only;omega,?_⟩ (by simp only;omega)
   (cR rfl) ⟨⟨_,rfl,.of_eq (dB (by rw[dZ,pw hpl];simp only[List.append_assoc,List.singleton_append,Nat.add_assoc]))⟩,trivial⟩ rfl rfl
  simp only;rw[htk,List.append_assoc,List.singleton_append,Nat.add_assoc at']
 ·have:i=v.length:=by omega
  subst this;refine .ak (.cm rfl rfl (vI (by omega))<|.nil) rfl (.sq ?_);refine .cF rfl (.exit (Ok.on ?_));rw[List.drop_length]at htk;simp only[jb]at htk;have hw:IntKind.u32.wrap ((u:Int)+(c:Int))=(((u+c)%4294967296:Nat):Int):=wrap_u32 (by omega);refine .region (.Dp rfl kC<|.mv rfl<|.mv rfl<|.ln rfl ao<|.ar rfl rfl (dq (by omega))<|.og (n:=us.length) (m':=1) rfl rfl rfl av hrl rfl rfl (by omega) (by omega)<|.wq rfl rfl aI hgu<|
   .mv rfl<|.ar rfl rfl (congrArg some hw)<|.og (n:=us.length) (m':=1) rfl rfl rfl av hrl rfl rfl (by omega) (by omega)<|
   .wC rfl rfl rfl aI rfl rfl (by rw[hrl];omega)<|.nil) rfl fun _ _ hs=>?_
  refine(hs.sub (T':=[(0,wW 0 b)]) (H':=[(0,.row 1 230 (bB (given us v at')) (aH _))]) (cR rfl) ⟨⟨_,rfl,.of_eq (dB (by rw[dZ,pw hpl,htk]))⟩,trivial⟩ rfl rfl).Ew (t:=0) (r:=0) hF rfl rfl rfl
end Go.Am
namespace Go.Am
theorem y_{U V v1 R two q:Nat}(hV:v1*R<=V)(hU:U<(two+1)*R)(hq:q*V<=U):q*v1<=two:=by
 have h1:q*(v1*R)<=q*V:=Nat.mul_le_mul_left _ hV;rw[←Nat.mul_assoc]at h1;have h2:q*v1*R<(two+1)*R:=by omega
 have:=Nat.lt_of_mul_lt_mul_right h2;omega
theorem zY{U V B v1 v2 u2 P two g rest q:Nat}(hV:(v1*B+v2)*P<=V)(hU:U<(two*B+u2+1)*P)(hg:g*v1+rest=two)(ht:rest*B+u2<g*v2)(hq:q*V<=U):q<g:=by
 apply Nat.lt_of_not_le;intro hle;have h1:g*((v1*B+v2)*P)<=q*V:=Nat.mul_le_mul hle hV;have h2:g*(v1*B+v2)*P<(two*B+u2+1)*P:=by rw[Nat.mul_assoc];omega
 have h3:=Nat.lt_of_mul_lt_mul_right h2;have h4:g*(v1*B+v2)=g*v1*B+g*v2:=by rw[Nat.mul_add,Nat.mul_assoc]
 have h5:two*B=g*v1*B+rest*B:=by rw[←hg,Nat.add_mul]
 omega
theorem Aa{U V B v1 v2 u2 P two g rest:Nat}(hV1:B*P<=V)(hV:V<(v1*B+v2+1)*P)(hU:(two*B+u2)*P<=U)(hg:g*v1+rest=two)(ht:g*v2<=rest*B+u2)(hgB:g<=B):g*V<=U+V:=by
 have h4:g*(v1*B+v2)=g*v1*B+g*v2:=by rw[Nat.mul_add,Nat.mul_assoc]
 have h5:two*B=g*v1*B+rest*B:=by rw[←hg,Nat.add_mul]
 have h6:g*(v1*B+v2)<=two*B+u2:=by omega
 have h7:g*(v1*B+v2)*P<=(two*B+u2)*P:=Nat.mul_le_mul_right _ h6;have h8:g*V<=g*((v1*B+v2+1)*P):=Nat.mul_le_mul_left _ (Nat.le_of_lt hV);have h9:g*((v1*B+v2+1)*P)=g*(v1*B+v2)*P+g*P:=by rw[←Nat.mul_assoc,Nat.mul_add g,Nat.mul_one,Nat.add_mul]
 have h10:g*P<=B*P:=Nat.mul_le_mul_right _ hgB;omega
theorem DD{U V g q X Y M bo k:Nat}(hq:q=U/V)(hV:0<V)(h1:q<=g)(h2:g*V<=U+V)(_hUM:U<M)(hbo:bo<=1)(hX:X<M)(hT:X+g*V=U+M*bo)(hk:k<=1)(hY:Y<M)(_hVM:V<M)(hG:Y+M*k=X+V):
  (bo=0/\g=q/\X=U%V)\/(bo=1/\g=q+1/\Y=U%V):=by
 have hdm:=Nat.div_add_mod U V;have hm:=Nat.mod_lt U hV;rw[←hq]at hdm;have hc:V*q=q*V:=Nat.mul_comm _ _;have hg:g=q\/g=q+1:=by
  rcases Nat.lt_or_ge (q+1) g with h|h
  ·exfalso
   have h3:(q+2)*V<=g*V:=Nat.mul_le_mul_right _ h;rw[Nat.add_mul]at h3;omega
  ·omega
 have hb:bo=0\/bo=1:=by omega
 have hkk:k=0\/k=1:=by omega
 rcases hg with rfl|rfl
 ·left
  rcases hb with rfl|rfl
  ·refine⟨rfl,rfl,?_⟩;omega
  ·exfalso;omega
 ·right
  rw[Nat.add_mul,Nat.one_mul]at hT;rcases hb with rfl|rfl
  ·exfalso;omega
  ·refine⟨rfl,rfl,?_⟩;rcases hkk with rfl|rfl<;>omega
end Go.Am
namespace Go.Am
open Go.RowKit
theorem Cv(x y:Nat)(hx:(ay x).length<=1099511627776)(hy:(ay y).length<=1099511627776):j3 PP 212 [ah x,ah y] (ah (x+y)):=
 CS (ay x) (ay y) (cp x) (cp y) hx hy (by rw[dr,dr])
def ji(l:List UInt8):Nat:=l.foldl (fun a b=>a*10+(b.toNat-48)) 0
theorem mf(l:List UInt8)(b:UInt8):ji (l++[b])=ji l*10+(b.toNat-48):=by simp[ji]
def rH(l:List UInt8):Prop:=∀b∈l,48<=b.toNat/\b.toNat<=57
theorem xp{l:List UInt8}(h:rH l):ji l<4294967296^l.length:=by
 have key:∀(n:Nat) (l:List UInt8),l.length=n->rH l->ji l<4294967296^n:=by
  intro n
  induction n with
  |zero=>intro l hl _;rw[List.length_eq_zero_iff.1 hl];simp[ji]
  |succ n ih=>
   intro l hl hd;have hne:l≠[]:=by intro e;subst e;simp at hl
   rw[←List.dropLast_concat_getLast hne,mf];have h1:=ih l.dropLast (by simp[hl]) (fun b hb=>hd b (List.dropLast_subset _ hb));have h2:=hd (l.getLast hne) (List.getLast_mem hne);have hp:(4294967296:Nat)^(n+1)=4294967296^n*4294967296:=Nat.pow_succ ..;rw[hp];generalize (4294967296:Nat)^n=P at*;omega
 exact key _ l rfl h
theorem xK(s:ByteArray)(hs:s.size<=1000000)(hd:rH s.data.toList):j3 PP 148 [.str s] (ah (ji s.data.toList)):=by
 refine .of Go.Proofs.Tryz.func148 rfl (by kernel_rfl) rfl rfl rfl (fun A w0=>?_);have hsl:s.data.toList.length=s.size:=Array.length_toList;refine .ak (.au rfl<|.nil) rfl ?_;refine .ak (.au rfl<|.nil) rfl (.sq ?_);refine .ak (.mv rfl<|.Fj rfl cG<|.mv rfl<|.nil) rfl ?_;refine .block (.loop (ι:={i:Nat//i<=s.size}) (fun i=>[(0,.str s),(3,ah (ji (s.data.toList.take i.1))),(6,.int .i64 s.size),(7,.int .i64 i.1)]) (fun _=>[]) (fun i=>s.size-i.1)
  ⟨0,Nat.zero_le _⟩ ⟨⟨_,rfl,.refl _⟩,⟨_,rfl,aQ⟩,⟨_,rfl,.refl _⟩,⟨_,rfl,.refl _⟩,trivial⟩ trivial rfl rfl ?_)
 rintro⟨i,hi⟩;show Ok PP _ [(0,.str s),(3,ah (ji (s.data.toList.take i))),(6,.int .i64 s.size),(7,.int .i64 i)] [] _ _;by_cases hlt:i<s.size
 ·refine .ak (.cm rfl rfl (vO (by omega))<|.nil) rfl (.sq ?_);refine .cT rfl (.skip (Ok.on (.sq (.block ?_))));have hb:s[i]?=some s[i]:=getElem?_pos s i hlt;have hbl:s.data.toList[i]?=some s[i]:=by
   rw[Array.getElem?_toList,ByteArray.getElem_eq_getElem_data];exact Array.getElem?_eq_getElem _
  have hdb:=hd s[i] (List.mem_of_getElem? hbl);have htk:s.data.toList.take (i+1)=s.data.toList.take i++[s[i]]:=by
   rw[List.take_add_one,hbl];rfl
  have hlen:(s.data.toList.take i).length=i:=by rw[List.length_take,hsl];omega
  have hdt:rH (s.data.toList.take i):=fun b hb=>hd b (List.mem_of_mem_take hb);have hvl:=xp hdt;rw[hlen]at hvl;have hl1:=d_ hvl;have hvl2:=xp (l:=s.data.toList.take (i+1)) (fun b hb=>hd b (List.mem_of_mem_take hb));have hlen2:(s.data.toList.take (i+1)).length=i+1:=by rw[htk,List.length_append,hlen];rfl
  rw[hlen2,htk,mf]at hvl2;generalize s[i]=b at*;generalize hv0:ji (s.data.toList.take i)=v at*;have hl2:(ay (v*10)).length<=i+1:=d_ (Nat.lt_of_le_of_lt (Nat.le_add_right _ _) hvl2);have hl3:(ay (b.toNat-48)).length<=1:=d_ (by omega);have hl4:(ay 10).length<=1:=d_ (by omega);have hw:IntKind.u8.wrap ((b.toNat:Int)-48)=((b.toNat-48:Nat):Int):=by rw[IntKind.wrap_u8];omega
  refine .ak (.mv rfl<|.au rfl<|.nil) rfl ?_;refine .dc cq (.mv rfl<|.call (pA 10 (by omega)) ⟨rfl,trivial⟩<|.call (Cp v 10 (by omega) (by omega)) ⟨rfl,rfl,trivial⟩<|.mv rfl<|.mv rfl<|.ER rfl rfl cG (by omega) hb<|.ar rfl rfl (congrArg some hw)<|.cv rfl pk (bD (by omega))<|
   .call (pA (b.toNat-48) (by omega)) ⟨rfl,trivial⟩<|.call (Cv (v*10) (b.toNat-48) (by omega) (by omega)) ⟨rfl,rfl,trivial⟩<|.au rfl<|.nil) rfl (by kernel_rfl) fun _ _ hs=>?_
  refine Ok.on ?_ _ _ hs;refine .region (.ar rfl rfl (fg (by omega))<|.mv rfl<|.nil) rfl fun _ _ hs=>?_;exact hs.round (m:=s.size-i) ⟨i+1,hlt⟩ (by simp only;omega) ⟨⟨_,rfl,.refl _⟩,⟨_,rfl,.of_eq (by rw[htk,mf,hv0])⟩,⟨_,rfl,.refl _⟩,⟨_,rfl,.refl _⟩,trivial⟩ trivial rfl rfl
 ·have:i=s.size:=by omega
  subst this;refine .ak (.cm rfl rfl (vI (by omega))<|.nil) rfl (.sq ?_);refine .cF rfl (.exit (Ok.on ?_));refine .ak (.mv rfl<|.au rfl<|.nil) rfl ?_;exact .ov rfl (.tmp rfl) (.of_eq (by rw[List.take_of_length_le (by omega)])) rfl
end Go.Am
namespace Go.Am
open Go.RowKit
end Go.Am
namespace Go.Am
theorem Cu(B P a b:Nat):P*a+P*B*b=P*(b*B+a):=by
 rw[Nat.mul_add,Nat.mul_assoc,Nat.mul_comm B b];omega
theorem Ei(B P a b c:Nat):P*a+P*B*b+P*B*B*c=P*((c*B+b)*B+a):=by
 have e:P*B*B*c=P*(c*B*B):=by rw[Nat.mul_assoc,Nat.mul_assoc,Nat.mul_comm B c,Nat.mul_comm B (c*B)]
 rw[e,Cu,←Nat.mul_add,Nat.add_mul]
 congr 1;omega
theorem Bi{l:List Nat}{p a b:Nat}(ha:l[p]?=some a)(hb:l[p+1]?=some b):val (l.take (p+2))=val (l.take p)+4294967296^p*(b*4294967296+a):=by
 have h1:=dL hb;have h2:=dL ha;rw[←Cu,show p+2=p+1+1 from rfl,h1,h2,Nat.pow_succ,Nat.add_assoc]
theorem xM{l:List Nat}{p a b c:Nat}(ha:l[p]?=some a)(hb:l[p+1]?=some b)(hc:l[p+2]?=some c):val (l.take (p+3))=val (l.take p)+4294967296^p*((c*4294967296+b)*4294967296+a):=by
 have h1:=dL hc;have h2:=dL hb;have h3:=dL ha;rw[←Ei,show p+3=p+2+1 from rfl,h1,show p+2=p+1+1 from rfl,h2,h3,Nat.pow_succ,Nat.pow_succ,Nat.add_assoc,Nat.add_assoc,Nat.add_assoc,Nat.pow_succ]
theorem wR{X P t U:Nat}(h:U=X+P*t)(hX:X<P):t*P<=U/\U<(t+1)*P:=by
 rw[h,Nat.add_mul,Nat.one_mul,Nat.mul_comm P t];omega
theorem vw{q two v1:Nat}(h:q*v1<=two)(h1:0<v1):q<=two/v1:=(Nat.le_div_iff_mul_le h1).2 h
theorem vY{g v1 rest two:Nat}(h:g*v1+rest=two)(hg:0<g):(g-1)*v1+(rest+v1)=two:=by
 obtain⟨k,rfl⟩:∃k,g=k+1:=⟨g-1,by omega⟩;rw[Nat.add_mul,Nat.one_mul]at h;rw[Nat.add_sub_cancel];omega
theorem u_{g v1 rest B u1 u0:Nat}(h:g*v1+rest=u1*B+u0)(hr:B<=rest)(hu1:u1<=v1)(hu0:u0<B):g<B:=by
 have h1:u1*B<=v1*B:=Nat.mul_le_mul_right _ hu1;have h2:g*v1<B*v1:=by rw[Nat.mul_comm B v1];omega
 exact Nat.lt_of_mul_lt_mul_right h2
end Go.Am
namespace Go.Am
open Go.RowKit
structure ni(us v:List Nat)(i n:Nat):Prop where
 n2:2<=n
 vl:v.length=n
 lv:cz v
 lu:cz us
 fit:i+n<us.length
 FN:4294967296^n<=2*val v
 less:val (us.drop (i+1))<val v
theorem ni.rest{us v:List Nat}{i n:Nat}(h:ni us v i n):val (us.drop i)=val ((us.drop i).take (n+1)):=by
 have h1:=dX (us.drop (i+1)) n (by rw[List.length_drop];have:=h.fit;omega);have h2:=m9 h.lv;rw[h.vl]at h2;have h3:val ((us.drop (i+1)).drop n)=0:=by
  rcases Nat.eq_zero_or_pos (val ((us.drop (i+1)).drop n))with h|h'
  ·exact h
  ·exfalso
   have:=Nat.mul_le_mul_left (4294967296^n) h';have:=h.less;omega
 have h4:=dX (us.drop i) (n+1) (by rw[List.length_drop];have:=h.fit;omega);rw[List.drop_drop]at h3 h4;rw[show i+(n+1)=i+1+n by omega,h3,Nat.mul_zero,Nat.add_zero]at h4;exact h4
theorem getD_some{l:List Nat}{i:Nat}(h:i<l.length):l[i]?=some (l.getD i 0):=by simp[h]
theorem ni.win{us v:List Nat}{i p:Nat}(h:ni us v i (p+2)):
  ((us.getD (i+p+2) 0*4294967296+us.getD (i+p+1) 0)*4294967296+us.getD (i+p) 0)*4294967296^p<=val (us.drop i)/\
  val (us.drop i)<((us.getD (i+p+2) 0*4294967296+us.getD (i+p+1) 0)*4294967296+us.getD (i+p) 0+1)*4294967296^p:=by
 have hf:=h.fit;have g:∀k,k<p+3->(us.drop i)[k]?=some (us.getD (i+k) 0):=fun k hk=>by
  rw[List.getElem?_drop];exact getD_some (by omega)
 have h3:=xM (l:=us.drop i) (p:=p) (g p (by omega)) (g (p+1) (by omega)) (g (p+2) (by omega));rw[h.rest];exact wR h3 (eB (iB h.lu i) p)
theorem ni.div{us v:List Nat}{i p:Nat}(h:ni us v i (p+2)):
  (v.getD (p+1) 0*4294967296+v.getD p 0)*4294967296^p<=val v/\val v<(v.getD (p+1) 0*4294967296+v.getD p 0+1)*4294967296^p:=by
 have hl:=h.vl;have h3:=Bi (l:=v) (p:=p) (getD_some (by omega)) (getD_some (by omega));rw[←hl,List.take_length]at h3;exact wR h3 (eB h.lv p)
theorem D3(a B P:Nat):a*B*B*P=B*(a*B*P):=by
 rw[Nat.mul_right_comm (a*B) B P,Nat.mul_comm (a*B*P) B]
theorem Bc{v1 v2:Nat}(h1:v1<2147483648)(h2:v2<4294967296):v1*4294967296+v2+1<=9223372036854775808:=by omega
theorem ni.size{us v:List Nat}{i p:Nat}(h:ni us v i (p+2)):4294967296*4294967296^p<=val v/\2147483648<=v.getD (p+1) 0:=by
 have hb:=h.FN;have hd:=h.div.2;have hv2:=bG h.lv p;rw[Nat.pow_succ,Nat.pow_succ]at hb;generalize (4294967296:Nat)^p=P at*;generalize v.getD (p+1) 0=v1 at*;generalize v.getD p 0=v2 at*;generalize val v=V at*;refine⟨by omega,?_⟩;apply Nat.le_of_not_lt;intro hlt;have h0:=Bc hlt hv2;have h1:=Nat.mul_le_mul_right P h0;omega
theorem ni.top{us v:List Nat}{i p:Nat}(h:ni us v i (p+2)):us.getD (i+p+2) 0<=v.getD (p+1) 0:=by
 have hu:=h.win.1;have hd:=h.div.2;have hr:=eZ us i;have hul:=bG h.lu i;have hv2:=bG h.lv p;have hs:=h.less;generalize us.getD (i+p+2) 0=a at*;generalize us.getD (i+p+1) 0=b at*;generalize us.getD (i+p) 0=c at*;generalize us.getD i 0=d at*;generalize val (us.drop i)=U at*;generalize val (us.drop (i+1))=W at*;generalize (4294967296:Nat)^p=P at*;generalize v.getD (p+1) 0=v1 at*;generalize v.getD p 0=v2 at*;generalize val v=V at*;apply Nat.le_of_not_lt;intro hlt;have h1:((v1+1)*4294967296*4294967296)*P<=((a*4294967296+b)*4294967296+c)*P:=Nat.mul_le_mul_right _ (by omega);have h2:(v1*4294967296+v2+1)*P<=((v1+1)*4294967296)*P:=Nat.mul_le_mul_right _ (by omega);have h3:((v1+1)*4294967296*4294967296)*P=4294967296*(((v1+1)*4294967296)*P):=D3 ..;omega
end Go.Am
namespace Go.Am
theorem Cc{U V B P two c v1 v2 q:Nat}(hw:U<(two*B+c+1)*P)(hd:(v1*B+v2)*P<=V)(hc:c<B)(hq:q*V<=U):q*v1<=two:=by
 refine y_ (R:=B*P) (Nat.le_trans ?_ hd) (Nat.lt_of_lt_of_le hw ?_) hq
 ·rw[←Nat.mul_assoc];exact Nat.mul_le_mul_right _ (Nat.le_add_right _ _)
 ·rw[←Nat.mul_assoc];exact Nat.mul_le_mul_right _ (by rw[Nat.add_mul,Nat.one_mul];omega)
theorem ni.ge{us v:List Nat}{i p q:Nat}(h:ni us v i (p+2))(hq:q*val v<=val (us.drop i)):q*v.getD (p+1) 0<=us.getD (i+p+2) 0*4294967296+us.getD (i+p+1) 0:=
 Cc h.win.2 h.div.1 (bG h.lu (i+p)) hq
end Go.Am
namespace Go.Am
structure Stood(us v:List Nat)(i p g:Nat):Prop where
 ge:val (us.drop i)/val v<=g
 le:g*val v<=val (us.drop i)+val v
 lt:g<4294967296
theorem ni.stood{us v:List Nat}{i p g rest:Nat}(h:ni us v i (p+2))(hge:val (us.drop i)/val v<=g)(hg:g*v.getD (p+1) 0+rest=us.getD (i+p+2) 0*4294967296+us.getD (i+p+1) 0)
  (ht:g*v.getD p 0<=rest*4294967296+us.getD (i+p) 0)(hgB:g<4294967296):Stood us v i p g:=
 ⟨hge,Aa h.size.1 h.div.2 h.win.1 hg ht (Nat.le_of_lt hgB),hgB⟩
theorem rO(us v:List Nat)(t i:Nat):(taken us v t i).length=us.length:=by
 rw[taken,List.length_append,oQ,List.length_take,List.length_drop];omega
theorem pS{us v:List Nat}{t i:Nat}(h:i<=us.length):(taken us v t i).drop i=h_ t v 0 0 (us.drop i):=by
 rw[taken,List.drop_append_of_le_length (by simp;omega),List.drop_of_length_le (by simp;omega),List.nil_append]
theorem wA{us v:List Nat}{t i:Nat}(h:i<=us.length):(taken us v t i).take i=us.take i:=by
 rw[taken,List.take_append_of_le_length (by simp;omega),List.take_of_length_le (by simp;omega)]
theorem vS{us v:List Nat}{t i:Nat}(h:cz us):cz (taken us v t i):=iS (ku h i) (m2 t (iB h i))
theorem x7(us v:List Nat)(i:Nat):(given us v i).length=us.length:=by
 rw[given,List.length_append,oJ,List.length_take,List.length_drop];omega
theorem wb{us v:List Nat}{i:Nat}(h:i<=us.length):(given us v i).drop i=jb v 0 (us.drop i):=by
 rw[given,List.drop_append_of_le_length (by simp;omega),List.drop_of_length_le (by simp;omega),List.nil_append]
theorem vU{us v:List Nat}{i:Nat}(h:i<=us.length):(given us v i).take i=us.take i:=by
 rw[given,List.take_append_of_le_length (by simp;omega),List.take_of_length_le (by simp;omega)]
theorem wi{us v:List Nat}{i:Nat}(h:cz us):cz (given us v i):=iS (ku h i) (m5 (iB h i))
theorem ni.D5{us v:List Nat}{i n:Nat}(h:ni us v i n):val ((us.drop i).drop (n+1))=0:=by
 have h1:=h.rest;have h4:=dX (us.drop i) (n+1) (by rw[List.length_drop];have:=h.fit;omega);have hp:0<4294967296^(n+1):=Nat.pow_pos (by omega);generalize (4294967296:Nat)^(n+1)=P at*;rcases Nat.eq_zero_or_pos (val ((us.drop i).drop (n+1)))with h0|h0
 ·exact h0
 ·have:=Nat.mul_le_mul hp h0;omega
theorem ni.step{us v:List Nat}{i p g:Nat}(h:ni us v i (p+2))(hs:Stood us v i p g):
  (gw g v 0 0 (us.drop i)=0/\g=val (us.drop i)/val v/\val ((taken us v g i).drop i)=val (us.drop i)%val v)\/
  (gw g v 0 0 (us.drop i)=1/\g=val (us.drop i)/val v+1/\val ((given (taken us v g i) v i).drop i)=val (us.drop i)%val v):=by
 have hf:=h.fit;have hil:i<=us.length:=by omega
 have hld:v.length<(us.drop i).length:=by rw[List.length_drop,h.vl];omega
 have hT:=rZ g hs.lt v 0 0 (us.drop i) h.lv (iB h.lu i) (by omega) (by omega) hld;have hlt:=m2 g (v:=v) (c:=0) (b:=0) (iB h.lu i);have hlen:=oQ g v 0 0 (us.drop i);obtain⟨k,hk,hG⟩:=sL v 0 (h_ g v 0 0 (us.drop i)) h.lv hlt (by omega) (by rw[hlen];exact hld);have hbo:=uw g v 0 0 (us.drop i);have hV:0<val v:=by
  have:=h.size.1;have h2:0<4294967296*4294967296^p:=Nat.mul_pos (by omega) (Nat.pow_pos (by omega));exact Nat.lt_of_lt_of_le h2 this
 have hab:=h.D5;have hrest:=h.rest;rw[h.vl]at hT hG;have e1:val ((taken us v g i).drop i)=val ((h_ g v 0 0 (us.drop i)).take (p+2+1)):=by
  rw[pS hil,dX _ (p+2+1) (by rw[hlen,←h.vl];omega)];have:=m7 g v 0 0 (us.drop i);rw[h.vl]at this;rw[this,hab,Nat.mul_zero,Nat.add_zero]
 have e2:val ((given (taken us v g i) v i).drop i)=val ((jb v 0 (h_ g v 0 0 (us.drop i))).take (p+2+1)):=by
  rw[wb (by rw[rO];exact hil),pS hil,dX _ (p+2+1) (by rw[oJ,hlen,←h.vl];omega)];have g1:=q5 v 0 (h_ g v 0 0 (us.drop i));have g2:=m7 g v 0 0 (us.drop i);rw[h.vl]at g1 g2;rw[g1,g2,hab,Nat.mul_zero,Nat.add_zero]
 have hX:=eB hlt (p+2+1);have hY:=eB (m5 (v:=v) (c:=0) hlt) (p+2+1);have hU:=eB (iB h.lu i) (p+2+1);have hVM:=m9 h.lv;rw[h.vl]at hVM;have hMM:4294967296^(p+2)<=4294967296^(p+2+1):=Nat.pow_le_pow_right (by omega) (by omega);rw[e1,e2];rw[←hrest]at hT hU;exact DD rfl hV hs.ge hs.le hU hbo hX (by rw[←hT];omega) hk hY (Nat.lt_of_lt_of_le hVM hMM) hG
end Go.Am
namespace Go.Am
open Go.RowKit
theorem Le.EL{a b c d:D}(h:Le a c)(k:Le b d):Le (.fU [a,b]) (.fU [c,d]):=by
 refine⟨fun ε w S v ⟨vs,e,hv⟩=>⟨vs,e,?_⟩,fun r hr=>?_⟩
 ·match vs,hv with
  |[x,y],hv=>exact⟨h.1 _ _ _ _ hv.1,k.1 _ _ _ _ hv.2.1,trivial⟩
 ·obtain⟨e,he,hr'⟩:=bE.1 (show r∈bz [c,d]from hr);simp only[List.mem_cons,List.not_mem_nil,or_false]at he;rcases he with rfl|rfl
  ·exact bE.2 ⟨a,by simp,h.2 r hr'⟩
  ·exact bE.2 ⟨b,by simp,k.2 r hr'⟩
theorem yT{y:Nat}(h:(ay y).length=1):y<4294967296/\y≠0/\ay y=[y]:=by
 have h1:=jY (x:=y);rw[h]at h1;have h0:y≠0:=by intro e;subst e;rw[cu]at h;simp at h
 have hy:y<4294967296:=by omega
 refine⟨hy,h0,?_⟩;rw[jD h0,Nat.div_eq_of_lt hy,Nat.mod_eq_of_lt hy,cu]
theorem ub{x y:Nat}(h:y<=x):0<=fl x y:=by unfold fl;split<;>(try split)<;>omega
theorem zG{y k:Nat}(hy:y≠0):bn (y*2^k)=bn y+k:=by
 have hp:=Nat.two_pow_pos k;have h:=n7 (x:=y*2^k) k (Nat.le_mul_of_pos_left _ (by omega));rw[Nat.mul_div_cancel _ hp]at h;exact h.symm
theorem BW{y n d:Nat}(hn:(ay y).length=n+1)(hd:(ay y)[n]?=some d)(hy:y≠0)(hd32:bn d<=32):
  4294967296^(n+1)<=2*(y*2^(32-bn d))/\(ay (y*2^(32-bn d))).length=n+1:=by
 have hb:=sO hn hd;have hm:=zG (k:=32-bn d) hy;have hV:bn (y*2^(32-bn d))=32*(n+1):=by omega
 have hV0:y*2^(32-bn d)≠0:=Nat.mul_ne_zero hy (Nat.pos_iff_ne_zero.1 (Nat.two_pow_pos _));generalize y*2^(32-bn d)=V at*;have h1:=kP V;have h2:=tQ hV0;rw[hV]at h1 h2;have hp:(4294967296:Nat)^(n+1)=2^(32*(n+1)):=by rw[Nat.pow_mul]
 have hq:(2:Nat)^(32*(n+1))=2*2^(32*(n+1)-1):=by
  conv=>lhs;rw[show 32*(n+1)=(32*(n+1)-1)+1 by omega,Nat.pow_succ,Nat.mul_comm]
 have h3:4294967296^(n+1)<=2*V:=by rw[hp,hq];exact Nat.mul_le_mul_left _ h2
 refine⟨h3,?_⟩;have h4:=d_ (x:=V) (n:=n+1) (by rw[hp];exact h1);have h5:¬(ay V).length<=n:=by
  intro hle;have h6:=jY (x:=V);have h7:4294967296^(ay V).length<=4294967296^n:=Nat.pow_le_pow_right (by omega) hle;rw[Nat.pow_succ]at h3;generalize (4294967296:Nat)^n=P at*;omega
 omega
theorem yh{t P U q r V Z X B:Nat}(h:t+P*U+V*(P*B*Z)=X)(hU:V*q+r=U):t+P*r+V*(P*(q+B*Z))=X:=by
 rw[←h,←hU,Nat.mul_add P q,Nat.mul_add V,Nat.mul_add P (V*q),Nat.mul_left_comm V P q,←Nat.mul_assoc P B Z];omega
end Go.Am
namespace Go.Am
open Go.RowKit
theorem yO{l:List Nat}{n:Nat}(hw:l.length<=n):(List.replicate (n+1) (D.int .u32 0)).take 0++bB l++(List.replicate (n+1) (D.int .u32 0)).drop (0+l.length)=bB (l++List.replicate (n+1-l.length) 0):=by
 rw[List.take_zero,List.nil_append,Nat.zero_add,List.drop_replicate];simp[bB]
theorem AI{l:List Nat}{n:Nat}(hw:l.length<=n):(l++List.replicate (n+1-l.length) 0).take n=l++List.replicate (n-l.length) 0:=by
 rw[List.take_append,List.take_of_length_le hw,List.take_replicate,Nat.min_eq_left (by omega)]
theorem BH(l:List Nat)(n:Nat):val (l++List.replicate n 0)=val l:=by
 rw[jv,mi,Nat.mul_zero,Nat.add_zero]
theorem ni.Fm{us v:List Nat}{i n:Nat}(h:ni us v i n):val (us.drop i)/val v<4294967296:=by
 have hV:0<val v:=by have:=h.less;omega
 rw[Nat.div_lt_iff_lt_mul hV];have hd:us.drop i=us.getD i 0::us.drop (i+1):=by
  rw[List.drop_eq_getElem_cons (by have:=h.fit;omega)];congr 1;simp[show i<us.length from by have:=h.fit;omega]
 have hl:=bG h.lu i;have hless:=h.less;rw[hd,val];omega
theorem ni.dec{us v:List Nat}{i p g rest:Nat}(h:ni us v i (p+2))(hge:val (us.drop i)/val v<=g)(hg:g*v.getD (p+1) 0+rest=us.getD (i+p+2) 0*4294967296+us.getD (i+p+1) 0)
  (ht:4294967296<=g\/rest*4294967296+us.getD (i+p) 0<g*v.getD p 0):val (us.drop i)/val v<g:=by
 rcases ht with ht|ht
 ·have:=h.Fm;omega
 ·exact zY h.div.1 h.win.2 hg ht (Nat.div_mul_le_self _ _)
theorem ni.cC{us v:List Nat}{i p g rest:Nat}(h:ni us v i (p+2))(hge:val (us.drop i)/val v<=g)(hg:g*v.getD (p+1) 0+rest=us.getD (i+p+2) 0*4294967296+us.getD (i+p+1) 0)
  (hr:4294967296<=rest):Stood us v i p g:=by
 have hgB:=u_ hg hr h.top (bG h.lu (i+p+1));refine h.stood hge hg ?_ hgB;have h2:=bG h.lv p;have h3:g*v.getD p 0<=4294967296*4294967296:=Nat.mul_le_mul (by omega) (by omega);have h4:4294967296*4294967296<=rest*4294967296:=Nat.mul_le_mul_right _ hr;omega
theorem yl{x y n la m p:Nat}(hxl:x<4294967296^la)(hyl:4294967296^n<=y)(hm:n+m=la)(hp:0<p):x*p<y*p*4294967296^m:=by
 have h3:=Nat.mul_le_mul_right (4294967296^m) hyl;rw[←Nat.pow_add,hm]at h3;have h4:x<y*4294967296^m:=Nat.lt_of_lt_of_le hxl h3;rw[Nat.mul_right_comm];exact Nat.mul_lt_mul_of_pos_right h4 hp
theorem BQ{us0:List Nat}{V X m:Nat}(h:val us0=X)(hl:m<=us0.length)(hVX:X<V*4294967296^m):val (us0.drop m)<V:=by
 have h1:=dX us0 m hl;rw[h]at h1;have h2:val (us0.drop m)*4294967296^m<V*4294967296^m:=by
  rw[Nat.mul_comm (val _)];exact Nat.lt_of_le_of_lt (by rw[h1];exact Nat.le_add_left _ _) hVX
 exact Nat.lt_of_mul_lt_mul_right h2
theorem BI{x y p a b:Nat}(hp:0<p)(hy:0<y)(h:a+y*p*b=x*p)(hl:a<y*p):b=x/y/\a=(x%y)*p:=by
 have hV:0<y*p:=Nat.mul_pos hy hp
 constructor
 ·have h1:x*p/(y*p)=b:=by rw[←h,Nat.add_mul_div_left _ _ hV,Nat.div_eq_of_lt hl,Nat.zero_add]
  rw[←h1,Nat.mul_div_mul_right _ _ hp]
 ·have h1:x*p%(y*p)=a:=by rw[←h,Nat.add_mul_mod_self_left,Nat.mod_eq_of_lt hl]
  rw[←h1,Nat.mul_mod_mul_right]
theorem Ab{us v:List Nat}{n:Nat}(hn:n<=us.length)(hv:cz v)(hvl:v.length=n)(h:val us<val v):val (us.take n)=val us:=by
 have h1:=dX us n hn;have h2:=m9 hv;rw[hvl]at h2;have h3:val (us.drop n)=0:=by
  rcases Nat.eq_zero_or_pos (val (us.drop n))with h|h
  ·exact h
  ·exfalso
   have h4:=Nat.mul_le_mul_left (4294967296^n) h;rw[Nat.mul_succ,Nat.mul_zero,Nat.zero_add]at h4;have h5:4294967296^n*val (us.drop n)<=val us:=by rw[h1];exact Nat.le_add_left _ _
   have h6:=Nat.lt_trans ‹val us<val v› h2;exact Nat.lt_irrefl _ (Nat.lt_of_le_of_lt (Nat.le_trans h4 h5) h6)
 rw[h1,h3,Nat.mul_zero,Nat.add_zero]
structure sV(la m V X:Nat)(us qs:List Nat)(i:Nat):Prop where
 ul:us.length=la+1
 lu:cz us
 ql:qs.length=m
 lq:cz qs
 im:i<=m
 sum:val us+V*(4294967296^i*val (qs.drop i))=X
 less:val (us.drop i)<V
theorem sV.init{la m V X:Nat}{us:List Nat}(h1:us.length=la+1)(h2:cz us)(h3:val us=X)(h4:val (us.drop m)<V):sV la m V X us (List.replicate m 0) m:=
 ⟨h1,h2,List.length_replicate,gh m,Nat.le_refl _,by rw[List.drop_of_length_le (by simp),h3];simp[val],h4⟩
theorem sV.fin{la m V X x y p:Nat}{us qs v:List Nat}{n:Nat}(h:sV la m V X us qs 0)(hX:x*p=X)(hV:y*p=V)(hp:0<p)(hy:0<y)(hn:n<=us.length)(hv:cz v)(hvl:v.length=n)(hvv:val v=V):
  val qs=x/y/\val (us.take n)=(x%y)*p:=by
 have hless:=h.less;have hval:=h.sum;rw[List.drop_zero]at hless;rw[List.drop_zero,Nat.pow_zero,Nat.one_mul]at hval;rw[←hX,←hV]at hval;obtain⟨hq,hr⟩:=BI hp hy hval (by rw[hV];exact hless);have htk:=Ab hn hv hvl (by rw[hvv];exact hless);rw[hr]at htk;exact⟨hq,htk⟩
theorem sV.step{la m V X:Nat}{us qs us':List Nat}{i q:Nat}(h:sV la m V X us qs (i+1))(hlu:cz us')(hl:us'.length=us.length)(hm:val (us'.drop i)=val (us.drop i)%V)(htk:us'.take i=us.take i)(hq:q=val (us.drop i)/V)(hqB:q<4294967296)(hV:0<V)(hiu:i<=us.length):
  sV la m V X us' (qs.set i q) i:=by
 have hiq:i<qs.length:=by have:=h.im;have:=h.ql;omega
 refine⟨by rw[hl];exact h.ul,hlu,by rw[List.length_set];exact h.ql,gS h.lq hqB i,by have:=h.im;omega,?_,?_⟩
 ·have hd:(qs.set i q).drop i=q::qs.drop (i+1):=by
   rw[List.drop_eq_getElem_cons (by rw[List.length_set];exact hiq),List.getElem_set_self,List.drop_set_of_lt (Nat.lt_succ_self i)]
  have h1:=dX us i hiu;have h2:=dX us' i (by omega);have h3:=h.sum;rw[h1,Nat.pow_succ]at h3;rw[hd,val,h2,htk,hm];exact yh h3 (by rw[hq];exact Nat.div_add_mod _ _)
 ·rw[hm];exact Nat.mod_lt _ hV
theorem Eg(x y:Nat)(hy0:y≠0)(hx:(ay x).length<=549755813888)(hy:(ay y).length<=549755813888):j3 PP 167 [ah x,ah y] (.fU [ah (x/y),ah (x%y)]):=by
 show j3 PP _ [db (ay x),db (ay y)] _;refine .of Go.Proofs.Tryz.func167 rfl (by kernel_rfl) rfl rfl rfl (fun A w0=>?_);refine .ak (.au rfl<|.au rfl<|.nil) rfl (.sq (.block ?_));by_cases hlt:x<y
 ·refine .ak (.mv rfl<|.mv rfl<|.call (Av x y (by omega) (by omega)) ⟨rfl,rfl,trivial⟩<|.cm rfl rfl (vO (by rw[tS hlt];decide))<|.au rfl<|.nil) rfl ?_;refine .cT rfl (.ak (.mv rfl<|.au rfl<|.au rfl<|.nil) rfl ?_);exact .zM (fun _ _ h=>h) rfl (.tmp rfl) (.tmp rfl) (.EL (by rw[Nat.div_eq_of_lt hlt];exact aQ) (.of_eq (by rw[Nat.mod_eq_of_lt hlt];rfl))) rfl
 have hyx:y<=x:=Nat.le_of_not_lt hlt;refine .ak (.mv rfl<|.mv rfl<|.call (Av x y (by omega) (by omega)) ⟨rfl,rfl,trivial⟩<|.cm rfl rfl (vI (ub hyx))<|.au rfl<|.nil) rfl ?_;refine .cF rfl ?_;by_cases h1:(ay y).length=1
 ·obtain⟨hyb,_,hyd⟩:=yT h1;refine .ak (.mv rfl<|.ln rfl ao<|.cm rfl rfl (Fa (by omega))<|.au rfl<|.nil) rfl ?_;refine .cT rfl (.ak (.mv rfl<|.mv rfl<|.nN rfl rfl av (by omega) (by omega) (bb (i:=0) (d:=y) (by rw[hyd];rfl))<|.i6 rfl aI<|.call (xv x y hy0 hyb (by omega)) ⟨rfl,rfl,trivial⟩<|.ext rfl rfl<|.ext rfl rfl<|.au rfl<|.au rfl<|.nil) rfl ?_);exact .zM (fun _ _ h=>h) rfl (.tmp rfl) (.tmp rfl) (.refl _) rfl
 refine .ak (.mv rfl<|.ln rfl ao<|.cm rfl rfl (Eh (by omega))<|.au rfl<|.nil) rfl ?_;refine .cF rfl (.skip (Ok.on ?_));obtain⟨p,hp⟩:∃p,(ay y).length=p+2:=⟨(ay y).length-2,by have:=cn hy0;omega⟩;have htop:(ay y)[p+1]?=some ((ay y).getD (p+1) 0):=getD_some (by omega);have hdl:=bG (cp y) (p+1);generalize (ay y).getD (p+1) 0=d at htop hdl;have hb32:bn d<=32:=dE (n:=32) hdl;obtain⟨hbig,hvl⟩:=BW (n:=p+1) hp htop hy0 hb32;have hsub1:m_ .sub .i64 (((ay y).length:Nat):Int) 1=some ((p+1:Nat):Int):=by rw[jm (by omega)];congr 1;omega
 refine .ak (.mv rfl<|.mv rfl<|.ln rfl ao<|.ar rfl rfl hsub1<|.nN rfl rfl av (by omega) (by omega) (bb (i:=p+1) (d:=d) htop)<|.i6 rfl aI<|.call (oq d hdl) ⟨rfl,trivial⟩<|.au rfl<|.nil) rfl ?_;have hkl:32-bn d<35184372088832:=by omega
 have hk32:32-bn d<=32:=by omega
 generalize 32-bn d=k at hbig hvl hkl hk32;have hpk:2^k<=4294967296:=Nat.le_trans (Nat.pow_le_pow_right (by decide) hk32) (by decide);have hXlt:x*2^k<4294967296^((ay x).length+1):=by
  rw[Nat.pow_succ];exact Nat.mul_lt_mul_of_lt_of_le jY hpk (by decide)
 have hAl:(ay (x*2^k)).length<=(ay x).length+1:=d_ hXlt;have hXlt':=hXlt;refine .ak (.mv rfl<|.mv rfl<|.call (zR y k (by omega) hkl) ⟨rfl,rfl,trivial⟩<|.au rfl<|.nil) rfl ?_;refine .sub [(0,ah x),(1,ah y),(6,.int .i64 (k:Nat)),(7,db (ay (y*2^k)))] [] (cR rfl) (iF rfl) rfl rfl ?_;have hvv:=dr (y*2^k);have hvo:=cp (y*2^k);generalize ay (y*2^k)=v at hvl hvv hvo;have hvl:v.length=p+2:=hvl;have hln:m_ .sub .i64 (((ay x).length:Nat):Int) ((p+1+1:Nat):Int)=some ((((ay x).length-(p+2):Nat)):Int):=nH (by have:=iH hyx;omega) (by omega);have hnx:p+2<=(ay x).length:=by have:=iH hyx;omega
 refine .ak (.mv rfl<|.ln rfl ao<|.au rfl<|.nil) rfl ?_;refine .sub [(0,db (ay x)),(6,.int .i64 (k:Nat)),(7,db v),(8,.int .i64 ((p+2:Nat)))] [] ⟨⟨_,rfl,.refl _⟩,⟨_,rfl,.refl _⟩,⟨_,rfl,.refl _⟩,⟨_,rfl,.of_eq (by rw[hvl])⟩,trivial⟩ (iF rfl) rfl rfl ?_;refine .ak (.mv rfl<|.ln rfl ao<|.ar rfl rfl (dq (d:=2) (by omega))<|.DF rfl rfl dn rfl (by omega) (by omega) rfl<|.au rfl<|.nil) rfl ?_;have hKx:j3 PP 166 [db (ay x),.int .i64 (k:Nat)] (db (ay (x*2^k))):=zR x k (by omega) hkl;refine .ak (.mv rfl<|.mv rfl<|.mv rfl<|.call hKx ⟨rfl,rfl,trivial⟩<|.F2 rfl rfl rfl dn (by simp;try omega)<|.nil) rfl ?_;have hcopy:=yO hAl;have hpt:=AI hAl;have hpv:=BH (ay (x*2^k)) ((ay x).length+1-(ay (x*2^k)).length);have hplo:cz (ay (x*2^k)++List.replicate ((ay x).length+1-(ay (x*2^k)).length) 0):=iS (cp _) (gh _);rw[dr]at hpv;have hpl:(ay (x*2^k)++List.replicate ((ay x).length+1-(ay (x*2^k)).length) 0).length=(ay x).length+1:=by rw[List.length_append,List.length_replicate];omega
 have hpl2:(ay (x*2^k)++List.replicate ((ay x).length+1+1-(ay (x*2^k)).length) 0).length=(ay x).length+2:=by rw[List.length_append,List.length_replicate];omega
 refine .sub [(0,db (ay x)),(6,.int .i64 (k:Nat)),(7,db v),(8,.int .i64 ((p+2:Nat))),(9,.own 47)] [(47,.row 1 230 (bB (ay (x*2^k)++List.replicate ((ay x).length+1+1-(ay (x*2^k)).length) 0)) (aH _))] (cR rfl) ⟨⟨_,rfl,.of_eq (dB hcopy)⟩,trivial⟩ rfl rfl ?_;generalize ay (x*2^k)++List.replicate ((ay x).length+1-(ay (x*2^k)).length) 0=us0 at hpt hpv hplo hpl;generalize ay (x*2^k)++List.replicate ((ay x).length+1+1-(ay (x*2^k)).length) 0=us1 at hpt hpl2;refine .ak (.mv rfl<|.mv rfl<|.ln rfl ao<|.ar rfl rfl (fg (by omega))<|.FM (n:=(ay x).length+2) (m':=1) rfl rfl rfl av (by rw[bu,hpl2];omega) rfl rfl (by omega) (by omega) (by omega)<|.au rfl<|.nil) rfl ?_;refine .Ec 9 200 (n:=(ay x).length+1) (m':=1) rfl rfl rfl (by rw[bu,hpl2];omega) rfl (by rw[bu,hpl2];omega) ?_;refine .sub [(0,db (ay x)),(6,.int .i64 (k:Nat)),(7,db v),(8,.int .i64 ((p+2:Nat))),(9,.own 200)] [(200,.row 1 230 (bB us0) (aH _))] (cR rfl) ⟨⟨_,rfl,.of_eq (dB (by rw[Nat.mul_one,rY,hpt]))⟩,trivial⟩ rfl rfl ?_;refine .ak (.mv rfl<|.ln rfl ao<|.mv rfl<|.ar rfl rfl hln<|.ar rfl rfl (fg (by omega))<|.DF rfl rfl dn rfl (by omega) (by omega) rfl<|.au rfl<|.nil) rfl ?_;refine .sq ?_;refine .ak (.mv rfl<|.DR (n:=(ay x).length-(p+2)+1) (m':=1) rfl rfl ao (by simp) rfl rfl<|.ar rfl rfl (jm (by omega))<|.au rfl<|.nil) rfl ?_;generalize hm:(ay x).length-(p+2)+1=m;generalize hX:x*2^k=X at hpv;have hbig':=hbig;generalize hV:y*2^k=V at hvv hbig';have hpk0:0<2^k:=Nat.two_pow_pos k;have hVX:X<V*4294967296^m:=by
  rw[←hX,←hV];exact yl jY (pP hy0) (by omega) hpk0
 have hini:val (us0.drop m)<V:=BQ hpv (by omega) hVX;have hI0:sV (ay x).length m V X us0 (List.replicate m 0) m:=.init hpl hplo hpv hini;refine .block (.loop (ι:={s:List Nat×List Nat×Nat//sV (ay x).length m V X s.1 s.2.1 s.2.2})
  (fun s=>[(6,.int .i64 (k:Nat)),(7,db v),(8,.int .i64 ((p+2:Nat))),(9,.own 200),(10,.own 63),(11,.int .i64 ((s.1.2.2:Nat)-1))]) (fun s=>[(200,.row 1 230 (bB s.1.1) (aH _)),(63,.row 1 230 (bB s.1.2.1) (aH _))]) (fun s=>s.1.2.2)
  ⟨(us0,List.replicate m 0,m),hI0⟩ (cR rfl) ⟨⟨_,rfl,.refl _⟩,⟨_,rfl,.of_eq (dB (by simp[bB]))⟩,trivial⟩ rfl rfl ?_)
 rintro⟨⟨us,qs,i1⟩,hI⟩;simp only at hI;show Ok PP _ [(6,.int .i64 (k:Nat)),(7,db v),(8,.int .i64 ((p+2:Nat))),(9,.own 200),(10,.own 63),(11,.int .i64 ((i1:Nat)-1))] [(200,.row 1 230 (bB us) (aH _)),(63,.row 1 230 (bB qs) (aH _))] _ _;have hul:=hI.ul;have hql:=hI.ql;refine .sq ?_
 cases i1 with
 |zero=>
  refine .ak (.mv rfl<|.cm rfl rfl (b:=false) (by simp[da])<|.nil) rfl ?_;refine .cF rfl (.exit (Ok.on ?_));obtain⟨hq,hr⟩:=hI.fin hX hV hpk0 (Nat.pos_of_ne_zero hy0) (n:=p+2) (by omega) hvo hvl hvv;have hltk:cz (us.take (p+2)):=ku hI.lu _;have yI:=hI.lq;refine .qR (n:=m) (m':=1) 10 rfl rfl (by rw[bu,hql];omega) rfl rfl ?_;refine .qR (n:=(ay x).length+1) (m':=1) 9 rfl rfl (by rw[bu,hul];omega) rfl rfl ?_;refine .sub [(6,.int .i64 (k:Nat)),(8,.int .i64 ((p+2:Nat))),(9,db us),(10,db qs)] [] ⟨⟨_,rfl,.refl _⟩,⟨_,rfl,.refl _⟩,⟨_,rfl,.of_eq (lB hul.symm rfl)⟩,⟨_,rfl,.of_eq (lB hql.symm rfl)⟩,trivial⟩ trivial rfl rfl ?_;have hKn:j3 PP 210 [db (us.take (p+2))] (ah (x%y*2^k)):=by rw[←hr];exact kJ _ hltk (by rw[List.length_take];omega)
  have hKq:j3 PP 210 [db qs] (ah (x/y)):=by rw[←hq];exact kJ _ yI (by omega)
  have hrl:(ay (x%y*2^k)).length<=1099511627776:=by
   have h1:x%y*2^k<4294967296^((ay x).length+1):=by
    refine Nat.lt_of_le_of_lt (Nat.mul_le_mul_right _ (Nat.mod_le x y)) hXlt'
   have:=d_ h1;omega
  have hsl:∀h,D.ik ((p+2:Nat):Int).toNat 1 ((bB us).take (((p+2:Nat):Int).toNat*1)) h=db (us.take (p+2)):=fun h=>lB (by rw[Int.toNat_natCast,List.length_take];omega) (by rw[Int.toNat_natCast,Nat.mul_one,rY]);have hKs:=Cm (x%y*2^k) k hrl (by omega);rw[Nat.mul_div_cancel _ hpk0]at hKs;refine .dt cq (.mv rfl<|.call hKq ⟨rfl,trivial⟩<|.mv rfl<|.mv rfl<|.Fy rfl rfl av (by omega) (by omega)<|.call hKn ⟨congrArg some (hsl _),trivial⟩<|.mv rfl<|.call hKs ⟨rfl,rfl,trivial⟩<|.au rfl<|.au rfl<|.nil) rfl (by kernel_rfl) ?_;exact .Bt rfl (.tmp rfl) (.tmp rfl) (.refl _) rfl
 |succ i=>
  have hvl':v.length=p+2:=hvl;have dg:i+(p+2)<us.length:=by have:=hI.im;rw[hul];omega
  have hW:ni us v i (p+2):=⟨by omega,hvl,hvo,hI.lu,dg,by rw[hvv];exact hbig',by rw[hvv];exact hI.less⟩;have hiq:i<qs.length:=by have:=hI.im;omega
  refine .ak (.mv rfl<|.cm rfl rfl (b:=true) (by simp[da];try omega)<|.nil) rfl ?_;refine .cT rfl (.skip (Ok.on (.sq (.block ?_))));rw[show((i+1:Nat):Int)-1=i by omega];have g0:us[i+p]?=some (us.getD (i+p) 0):=getD_some (by omega);have g1:us[i+p+1]?=some (us.getD (i+p+1) 0):=getD_some (by omega);have g2:us[i+(p+2)]?=some (us.getD (i+p+2) 0):=getD_some (by omega);have gv1:v[p+1]?=some (v.getD (p+1) 0):=getD_some (by omega);have gv2:v[p]?=some (v.getD p 0):=getD_some (by omega);have l0:=bG hI.lu (i+p);have l1:=bG hI.lu (i+p+1);have l2:=bG hI.lu (i+p+2);have lv1:=bG hvo (p+1);have lv2:=bG hvo p;have hv1p:2147483648<=v.getD (p+1) 0:=hW.size.2;have hwdec:=@ni.dec us v i p;have hwbrk:=@ni.cC us v i p;have hwst:=@ni.stood us v i p;have hwge:=fun q h=>ni.ge (q:=q) hW h;generalize hu0:us.getD (i+p) 0=u0 at*;generalize hu1:us.getD (i+p+1) 0=u1 at*;generalize hu2:us.getD (i+p+2) 0=u2 at*;generalize hv1:v.getD (p+1) 0=v1 at*;generalize hv2:v.getD p 0=v2 at*;have hrl:(bB us).length=((ay x).length+1)*1:=by rw[bu,hul];omega
  have s1:m_ .sub .i64 ((i+(p+2):Nat):Int) 1=some ((i+p+1:Nat):Int):=by rw[jm (by omega)];congr 1;omega
  have s2:m_ .sub .i64 ((i+(p+2):Nat):Int) 2=some ((i+p:Nat):Int):=by rw[show(2:Int)=((2:Nat):Int)from rfl,nH (by omega) (by omega)];congr 2
  have s3:m_ .sub .i64 ((p+2:Nat):Int) 1=some ((p+1:Nat):Int):=by rw[jm (by omega)];congr 1;omega
  have s4:m_ .sub .i64 ((p+2:Nat):Int) 2=some ((p:Nat):Int):=by rw[show(2:Int)=((2:Nat):Int)from rfl,nH (by omega) (by omega)];congr 2
  refine .dt cq (.mv rfl<|.mv rfl<|.mv rfl<|.ar rfl rfl (dq (n:=i) (d:=p+2) (by omega))<|.og (n:=(ay x).length+1) (m':=1) rfl rfl rfl av hrl rfl rfl (by omega) (by omega)<|.wq rfl rfl aI (d:=.int .u32 u2) (by rw[Int.toNat_natCast,Nat.mul_one];exact bb g2)<|.cv rfl ba (bD (by omega))<|.sh rfl rfl (xn (n:=u2) l2)<|
   .mv rfl<|.mv rfl<|.mv rfl<|.ar rfl rfl (dq (n:=i) (d:=p+2) (by omega))<|.ar rfl rfl s1<|.og (n:=(ay x).length+1) (m':=1) rfl rfl rfl av hrl rfl rfl (by omega) (by omega)<|.wq rfl rfl aI (d:=.int .u32 u1) (by rw[Int.toNat_natCast,Nat.mul_one];exact bb g1)<|.cv rfl ba (bD (by omega))<|.ar rfl rfl (tz l2 l1)<|.au rfl<|.nil) rfl (by kernel_rfl) ?_
  have htwo:u2*4294967296+u1<18446744073709551616:=by omega
  refine .dt cq (.mv rfl<|.mv rfl<|.mv rfl<|.ar rfl rfl s3<|.nN rfl rfl av (by omega) (by omega) (bb (i:=p+1) (d:=v1) gv1)<|.i6 rfl aI<|.cv rfl ba (bD (by omega))<|.ar rfl rfl (AL (n:=u2*4294967296+u1) (d:=v1) (by omega) htwo)<|
   .mv rfl<|.mv rfl<|.mv rfl<|.ar rfl rfl s3<|.nN rfl rfl av (by omega) (by omega) (bb (i:=p+1) (d:=v1) gv1)<|.i6 rfl aI<|.cv rfl ba (bD (by omega))<|.ar rfl rfl (tH (n:=u2*4294967296+u1) (d:=v1) (by omega))<|.au rfl<|.au rfl<|.nil) rfl (by kernel_rfl) ?_
  have hVpos:0<val v:=by have:=hW.less;omega
  have hge0:val (us.drop i)/val v<=(u2*4294967296+u1)/v1:=vw (hwge _ (Nat.div_mul_le_self _ _)) (by omega);have hst0:(u2*4294967296+u1)/v1*v1+(u2*4294967296+u1)%v1=u2*4294967296+u1:=by rw[Nat.mul_comm];exact Nat.div_add_mod _ _
  have hr0:(u2*4294967296+u1)%v1<4294967296:=Nat.lt_trans (Nat.mod_lt _ (by omega)) lv1;generalize (u2*4294967296+u1)/v1=gu0 at hge0 hst0|-;generalize (u2*4294967296+u1)%v1=re0 at hr0 hst0|-;refine .rj (ι:={g:Nat//Stood us v i p g}) (fun g=>[(6,.int .i64 (k:Nat)),(7,db v),(8,.int .i64 ((p+2:Nat))),(9,.own 200),(10,.own 63),(11,.int .i64 (i:Nat)),(13,.int .u64 (g.1:Nat))]) (fun _=>[(200,.row 1 230 (bB us) (aH _)),(63,.row 1 230 (bB qs) (aH _))]) ?_ ?_
  ·refine .block (.loop (ι:={s:Nat×Nat//val (us.drop i)/val v<=s.1/\s.1*v1+s.2=u2*4294967296+u1/\s.2<4294967296})
    (fun s=>[(6,.int .i64 (k:Nat)),(7,db v),(8,.int .i64 ((p+2:Nat))),(9,.own 200),(10,.own 63),(11,.int .i64 (i:Nat)),(13,.int .u64 (s.1.1:Nat)),(14,.int .u64 (s.1.2:Nat))]) (fun _=>[(200,.row 1 230 (bB us) (aH _)),(63,.row 1 230 (bB qs) (aH _))]) (fun s=>s.1.1)
    ⟨(gu0,re0),hge0,hst0,hr0⟩ (cR rfl) (iF rfl) rfl rfl ?_)
   rintro⟨⟨g,re⟩,hge,hgr,hre⟩;simp only at hge hgr hre;show Ok PP _ [(6,.int .i64 (k:Nat)),(7,db v),(8,.int .i64 ((p+2:Nat))),(9,.own 200),(10,.own 63),(11,.int .i64 (i:Nat)),(13,.int .u64 (g:Nat)),(14,.int .u64 (re:Nat))] [(200,.row 1 230 (bB us) (aH _)),(63,.row 1 230 (bB qs) (aH _))] _ _;have hgm:g<=g*v1:=Nat.le_mul_of_pos_right _ (by omega);have hg64:g<18446744073709551616:=by omega
   refine .rj (ι:={_u:Unit//4294967296<=g\/re*4294967296+u0<g*v2}) (fun _=>[(6,.int .i64 (k:Nat)),(7,db v),(8,.int .i64 ((p+2:Nat))),(9,.own 200),(10,.own 63),(11,.int .i64 (i:Nat)),(13,.int .u64 (g:Nat)),(14,.int .u64 (re:Nat))]) (fun _=>[(200,.row 1 230 (bB us) (aH _)),(63,.row 1 230 (bB qs) (aH _))]) ?_ ?_
   ·by_cases hgB:4294967296<=g
    ·refine .dt cq (.mv rfl<|.cm rfl rfl (C8 (by omega))<|.mv rfl<|.rE rfl rfl rfl rfl<|.rE rfl rfl rfl rfl<|.rE rfl rfl rfl rfl<|.rE rfl rfl rfl rfl<|.rE rfl rfl rfl rfl<|.rE rfl rfl rfl rfl<|.rE rfl rfl rfl rfl<|.rE rfl rfl rfl rfl<|.rE rfl rfl rfl rfl<|.rE rfl rfl rfl rfl<|.rE rfl rfl rfl rfl<|.rE rfl rfl rfl rfl<|.rE rfl rfl rfl rfl<|.rE rfl rfl rfl rfl<|.rE rfl rfl rfl rfl<|.rE rfl rfl rfl rfl<|.rE rfl rfl rfl rfl<|.rE rfl rfl rfl rfl<|.rE rfl rfl rfl rfl<|.rE rfl rfl rfl rfl<|.bw rfl rfl rfl<|.nil) rfl (by kernel_rfl) ?_;exact .cT rfl (.skip fun _ _ hs=>hs.to ⟨(),.inl hgB⟩ (cR rfl) (iF rfl) rfl rfl)
    ·have hprod:g*v2<18446744073709551616:=by
      have:g*v2<=4294967295*4294967295:=Nat.mul_le_mul (by omega) (by omega);omega
     have hng:¬(false=true):=by decide
     by_cases ht:re*4294967296+u0<g*v2
     ·refine .dt cq (.mv rfl<|.cm rfl rfl (Bb (by omega))<|.mv rfl<|.j9 rfl rfl rfl hng<|.mv rfl<|.j9 rfl rfl rfl hng<|.mv rfl<|.j9 rfl rfl rfl hng<|.mv rfl<|.j9 rfl rfl rfl hng<|.ar rfl rfl s4<|.j9 rfl rfl rfl hng<|.nN rfl rfl av (by omega) (by omega) (bb (i:=p) (d:=v2) gv2)<|.j9 rfl rfl rfl hng<|.i6 rfl aI<|.j9 rfl rfl rfl hng<|.cv rfl ba (bD (by omega))<|.j9 rfl rfl rfl hng<|.ar rfl rfl (pM (n:=g) (d:=v2) hprod)<|
       .j9 rfl rfl rfl hng<|.mv rfl<|.j9 rfl rfl rfl hng<|.sh rfl rfl (xn (n:=re) hre)<|.j9 rfl rfl rfl hng<|.mv rfl<|.j9 rfl rfl rfl hng<|.mv rfl<|.j9 rfl rfl rfl hng<|.mv rfl<|.j9 rfl rfl rfl hng<|.ar rfl rfl (dq (n:=i) (d:=p+2) (by omega))<|.j9 rfl rfl rfl hng<|.ar rfl rfl s2<|.j9 rfl rfl rfl hng<|.og (n:=(ay x).length+1) (m':=1) rfl rfl rfl av hrl rfl rfl (by omega) (by omega)<|.j9 rfl rfl rfl hng<|.wq rfl rfl aI (d:=.int .u32 u0) (by rw[Int.toNat_natCast,Nat.mul_one];exact bb g0)<|.j9 rfl rfl rfl hng<|.cv rfl ba (bD (by omega))<|.j9 rfl rfl rfl hng<|.ar rfl rfl (tz hre l0)<|.j9 rfl rfl rfl hng<|.cm rfl rfl (DJ (by omega))<|.br rfl hng rfl<|.nil) rfl (by kernel_rfl) ?_
      exact .cT rfl (.skip fun _ _ hs=>hs.to ⟨(),.inr ht⟩ (cR rfl) (iF rfl) rfl rfl)
     ·refine .dt cq (.mv rfl<|.cm rfl rfl (Bb (by omega))<|.mv rfl<|.j9 rfl rfl rfl hng<|.mv rfl<|.j9 rfl rfl rfl hng<|.mv rfl<|.j9 rfl rfl rfl hng<|.mv rfl<|.j9 rfl rfl rfl hng<|.ar rfl rfl s4<|.j9 rfl rfl rfl hng<|.nN rfl rfl av (by omega) (by omega) (bb (i:=p) (d:=v2) gv2)<|.j9 rfl rfl rfl hng<|.i6 rfl aI<|.j9 rfl rfl rfl hng<|.cv rfl ba (bD (by omega))<|.j9 rfl rfl rfl hng<|.ar rfl rfl (pM (n:=g) (d:=v2) hprod)<|
       .j9 rfl rfl rfl hng<|.mv rfl<|.j9 rfl rfl rfl hng<|.sh rfl rfl (xn (n:=re) hre)<|.j9 rfl rfl rfl hng<|.mv rfl<|.j9 rfl rfl rfl hng<|.mv rfl<|.j9 rfl rfl rfl hng<|.mv rfl<|.j9 rfl rfl rfl hng<|.ar rfl rfl (dq (n:=i) (d:=p+2) (by omega))<|.j9 rfl rfl rfl hng<|.ar rfl rfl s2<|.j9 rfl rfl rfl hng<|.og (n:=(ay x).length+1) (m':=1) rfl rfl rfl av hrl rfl rfl (by omega) (by omega)<|.j9 rfl rfl rfl hng<|.wq rfl rfl aI (d:=.int .u32 u0) (by rw[Int.toNat_natCast,Nat.mul_one];exact bb g0)<|.j9 rfl rfl rfl hng<|.cv rfl ba (bD (by omega))<|.j9 rfl rfl rfl hng<|.ar rfl rfl (tz hre l0)<|.j9 rfl rfl rfl hng<|.cm rfl rfl (C4 (by omega))<|.br rfl hng rfl<|.nil) rfl (by kernel_rfl) ?_
      have hS:Stood us v i p g:=hwst hW hge hgr (by omega) (by omega);exact .cF rfl (.exit fun _ _ hs=>hs.to ⟨g,hS⟩ (cR rfl) (iF rfl) rfl rfl)
   ·rintro⟨_,ht⟩;have hlt:val (us.drop i)/val v<g:=hwdec hW hge hgr ht;have hgpos:0<g:=Nat.lt_of_le_of_lt (Nat.zero_le _) hlt;have hge2:val (us.drop i)/val v<=g-1:=Nat.le_sub_one_of_lt hlt;have hnx:=vY hgr hgpos;show Ok PP _ [(6,.int .i64 (k:Nat)),(7,db v),(8,.int .i64 ((p+2:Nat))),(9,.own 200),(10,.own 63),(11,.int .i64 (i:Nat)),(13,.int .u64 (g:Nat)),(14,.int .u64 (re:Nat))] [(200,.row 1 230 (bB us) (aH _)),(63,.row 1 230 (bB qs) (aH _))] _ _;have s5:m_ .sub .u64 (g:Int) 1=some ((g-1:Nat):Int):=congrArg some (wrap_u64 (by omega) (by omega));refine .block ?_;refine .ak (.mv rfl<|.ar rfl rfl s5<|.au rfl<|.nil) rfl ?_;refine .ak (.mv rfl<|.mv rfl<|.mv rfl<|.ar rfl rfl s3<|.nN rfl rfl av (by omega) (by omega) (bb (i:=p+1) (d:=v1) gv1)<|.i6 rfl aI<|.cv rfl ba (bD (by omega))<|.ar rfl rfl (pC (n:=re) (d:=v1) (by omega))<|.au rfl<|.nil) rfl ?_;by_cases hbk:4294967296<=re+v1
    ·refine .ak (.mv rfl<|.cm rfl rfl (C8 (by omega))<|.nil) rfl ?_;have hS:Stood us v i p (g-1):=hwbrk hW hge2 hnx hbk;exact .cT rfl (.exit fun _ _ hs=>hs.to ⟨g-1,hS⟩ (cR rfl) (iF rfl) rfl rfl)
    ·refine .ak (.mv rfl<|.cm rfl rfl (Bb (by omega))<|.nil) rfl ?_;exact .cF rfl (.skip fun _ _ hs=>hs.round (m:=g) ⟨(g-1,re+v1),hge2,hnx,by omega⟩ (by simp only;omega) (cR rfl) (iF rfl) rfl rfl)
  ·rintro⟨g,hst⟩;show Ok PP _ [(6,.int .i64 (k:Nat)),(7,db v),(8,.int .i64 ((p+2:Nat))),(9,.own 200),(10,.own 63),(11,.int .i64 (i:Nat)),(13,.int .u64 (g:Nat))] [(200,.row 1 230 (bB us) (aH _)),(63,.row 1 230 (bB qs) (aH _))] _ _;have hgl:g<4294967296:=hst.lt;have hilv:i+v.length<us.length:=by rw[hvl'];exact dg
   have humax:us.length<=2199023255552:=by rw[hul];omega
   have hKt:=De us v g i hI.lu hvo hgl hilv humax;have htl:=rO us v g i;have htk:=wA (us:=us) (v:=v) (t:=g) (i:=i) (by omega);have hto:=vS (v:=v) (t:=g) (i:=i) hI.lu;refine .rj (ι:={s:List Nat×Nat//s.2=val (us.drop i)/V/\cz s.1/\s.1.length=us.length/\val (s.1.drop i)=val (us.drop i)%V/\s.1.take i=us.take i}) (fun s=>[(6,.int .i64 (k:Nat)),(7,db v),(8,.int .i64 ((p+2:Nat))),(9,.own 200),(10,.own 63),(11,.int .i64 (i:Nat)),(13,.int .u64 (s.1.2:Nat))]) (fun s=>[(200,.row 1 230 (bB s.1.1) (aH _)),(63,.row 1 230 (bB qs) (aH _))]) ?_ ?_
   ·rcases ni.step hW hst with⟨b0,hq,hmod⟩|⟨b1,hq,hmod⟩
    ·rw[show(gw g v 0 0 (us.drop i) !=0)=false from by rw[b0];rfl]at hKt;rw[hvv]at hq hmod;refine .ak (.mv rfl<|.mv rfl<|.mv rfl<|.mv rfl<|.AS (hl:=aH us) (hl':=aH (taken us v g i)) hKt rfl ⟨rfl,rfl,rfl,trivial⟩ rfl<|.nil) rfl ?_;exact .cF rfl (.skip fun _ _ hs=>hs.to ⟨(taken us v g i,g),hq,hto,htl,hmod,htk⟩ (cR rfl) (iF rfl) rfl rfl)
    ·rw[show(gw g v 0 0 (us.drop i) !=0)=true from by rw[b1];rfl]at hKt;rw[hvv]at hq hmod;have hgpos:0<g:=by rw[hq];exact Nat.succ_pos _
     have s5:m_ .sub .u64 (g:Int) 1=some ((g-1:Nat):Int):=congrArg some (wrap_u64 (by omega) (by omega));have hKg:=DI (taken us v g i) v i hto hvo (by rw[htl];exact hilv) (by rw[htl];exact humax);have hgk:=x7 (taken us v g i) v i;have hgt:=vU (us:=taken us v g i) (v:=v) (i:=i) (by omega);have hgo:=wi (v:=v) (i:=i) hto;refine .ak (.mv rfl<|.mv rfl<|.mv rfl<|.mv rfl<|.AS (hl:=aH us) (hl':=aH (taken us v g i)) hKt rfl ⟨rfl,rfl,rfl,trivial⟩ rfl<|.nil) rfl ?_;refine .cT rfl ?_;refine .ak (.mv rfl<|.ar rfl rfl s5<|.au rfl<|.nil) rfl ?_;refine .region (.mv rfl<|.mv rfl<|.mv rfl<|.AS (hl:=aH (taken us v g i)) (hl':=aH (given (taken us v g i) v i)) hKg rfl ⟨rfl,rfl,trivial⟩ rfl<|.nil) rfl fun _ _ hs=>?_;exact hs.to ⟨(given (taken us v g i) v i,g-1),by simp only;rw[hq];rfl,hgo,by simp only;rw[hgk,htl],hmod,by simp only;rw[hgt,htk]⟩ (cR rfl) (iF rfl) rfl rfl
   ·rintro⟨⟨us',q⟩,hq,hlu',hlen',hmod,htk'⟩;simp only at hq hlu' hlen' hmod htk';show Ok PP _ [(6,.int .i64 (k:Nat)),(7,db v),(8,.int .i64 ((p+2:Nat))),(9,.own 200),(10,.own 63),(11,.int .i64 (i:Nat)),(13,.int .u64 (q:Nat))] [(200,.row 1 230 (bB us') (aH _)),(63,.row 1 230 (bB qs) (aH _))] _ _;have hqB:q<4294967296:=by rw[hq,←hvv];exact hW.Fm
    have hVp:0<V:=by rw[←hvv];exact Nat.lt_of_le_of_lt (Nat.zero_le _) hW.less
    have hD:=hI.step hlu' hlen' hmod htk' hq hqB hVp (by omega);have hqrl:(bB qs).length=m*1:=by rw[bu,hql];omega
    have him:i<m:=by rw[←hql];exact hiq
    have hmx:m<9223372036854775808:=by omega
    have hix:i<9223372036854775808:=by omega
    refine .region (.mv rfl<|.mv rfl<|.mv rfl<|.cv rfl dS (ft hqB)<|.og (n:=m) (m':=1) rfl rfl rfl av hqrl rfl rfl (by omega) (by omega)<|.wC rfl rfl rfl aI rfl rfl (by rw[hqrl];omega)<|.nil) rfl fun _ _ hs=>?_;refine Ok.on ?_ _ _ hs;refine .region (.mv rfl<|.ar rfl rfl (jm hix)<|.au rfl<|.nil) rfl fun _ _ hs=>?_;exact hs.round (m:=i+1) ⟨(us',qs.set i q,i),hD⟩ (by simp) (cR rfl) ⟨⟨_,rfl,.refl _⟩,⟨_,rfl,.of_eq (dB (dZ ..))⟩,trivial⟩ rfl rfl
end Go.Am
namespace Go.Am
open Go.RowKit
def sm(x:Nat):Prop:=bn x<=4398046511104
instance (x:Nat):Decidable (sm x):=inferInstanceAs (Decidable (bn x<=4398046511104))
theorem j2(x:Nat):(ay x).length<=bn x/32+1:=by
 refine d_ ?_;have h1:=kP x;have h2:(2:Nat)^bn x<=2^(32*(bn x/32+1)):=Nat.pow_le_pow_right (by omega) (by omega);rw[Nat.pow_mul]at h2;exact Nat.lt_of_lt_of_le h1 h2
theorem BV{x:Nat}(h:sm x):(ay x).length<=549755813888:=by
 have:=j2 x;unfold sm at h;omega
theorem fD{x:Nat}(h:sm x):(ay x).length<=1099511627776:=by have:=BV h;omega
def kO(n:Int):Option Nat:=b_ (0<=n/\n<18446744073709551616) (some n.toNat)
theorem rB{a:Int}{r:Nat}(h:kO a=some r):aU PP 145 [] [D.int .u64 a] [] (ah r):=by
 obtain⟨⟨h0,h1⟩,h⟩:=ax h;injection h with h;subst h;have:=pA a.toNat (by omega);rw[Int.toNat_of_nonneg h0]at this;exact this.gen
def sb(a b:Nat):Option Nat:=b_ (sm a/\sm b) (some (a+b))
theorem xb{a b r:Nat}(h:sb a b=some r):aU PP 212 [] [ah a,ah b] [] (ah r):=by
 obtain⟨⟨h0,h1⟩,h⟩:=ax h;injection h with h;subst h;exact(Cv a b (fD h0) (fD h1)).gen
def uB(a b:Nat):Option Nat:=b_ (b<=a/\sm a) (some (a-b))
theorem Al{a b r:Nat}(h:uB a b=some r):aU PP 215 [] [ah a,ah b] [] (ah r):=by
 obtain⟨⟨h0,h1⟩,h⟩:=ax h;injection h with h;subst h;exact(D1 a b h0 (fD h1)).gen
def nU(a b:Nat):Option Nat:=b_ (sm a/\sm b) (some (a*b))
theorem qg{a b r:Nat}(h:nU a b=some r):aU PP 150 [] [ah a,ah b] [] (ah r):=by
 obtain⟨⟨h0,h1⟩,h⟩:=ax h;injection h with h;subst h;exact(Cp a b (fD h0) (fD h1)).gen
def su(a b:Nat):Option Int:=b_ (sm a/\sm b) (some (fl a b))
theorem wV{a b:Nat}{r:Int}(h:su a b=some r):aU PP 224 [] [ah a,ah b] [] (D.int .i64 r):=by
 obtain⟨⟨h0,h1⟩,h⟩:=ax h;injection h with h;subst h;exact(Av a b (fD h0) (fD h1)).gen
def wk(a:Nat):Option Int:=b_ (sm a) (some (bn a:Int))
theorem CL{a:Nat}{r:Int}(h:wk a=some r):aU PP 186 [] [ah a] [] (D.int .i64 r):=by
 obtain⟨h0,h⟩:=ax h;injection h with h;subst h;exact(CH a (fD h0)).gen
def kH(a:Nat):Option Int:=b_ ((ay a).length<=2) (some (a:Int))
theorem tC{a:Nat}{r:Int}(h:kH a=some r):aU PP 185 [] [ah a] [] (D.int .u64 r):=by
 obtain⟨h0,h⟩:=ax h;injection h with h;subst h;exact(BR a h0).gen
def sR(a:Nat)(k:Int):Option Nat:=b_ (sm a/\0<=k/\k<35184372088832) (some (a*2^k.toNat))
theorem zA{a:Nat}{k:Int}{r:Nat}(h:sR a k=some r):aU PP 166 [] [ah a,D.int .i64 k] [] (ah r):=by
 obtain⟨⟨h0,h1,h2⟩,h⟩:=ax h;injection h with h;subst h;have:=zR a k.toNat (fD h0) (by omega);rw[Int.toNat_of_nonneg h1]at this;exact this.gen
def jG(a b:Nat):Option (Nat×Nat):=b_ (b≠0/\sm a/\sm b) (some (a/b,a%b))
theorem pc{a b q r:Nat}(h:jG a b=some (q,r)):aU PP 167 [] [ah a,ah b] [] (D.fU [ah q,ah r]):=by
 obtain⟨⟨h0,h1,h2⟩,h⟩:=ax h;cases h;have e1:(ay a).length<=549755813888:=by have:=j2 a;unfold sm at h1;omega
 have e2:(ay b).length<=549755813888:=by have:=j2 b;unfold sm at h2;omega
 exact(Eg a b h0 e1 e2).gen
def tT(a:Nat)(d:Int):Option (Nat×Nat):=b_ (sm a/\0<d/\d<4294967296) (some (a/d.toNat,a%d.toNat))
theorem BM{a q r:Nat}{d:Int}(h:tT a d=some (q,r)):aU PP 225 [] [ah a,D.int .u32 d] [] (D.fU [ah q,ah r]):=by
 obtain⟨⟨h0,h1,h2⟩,h⟩:=ax h;cases h;have:=xv a d.toNat (by omega) (by omega) (fD h0);rw[Int.toNat_of_nonneg (by omega)]at this;exact this.gen
def wZ(a:Nat)(k:Int):Option Nat:=b_ (sm a/\0<=k/\k<35184372088832) (some (a/2^k.toNat))
theorem DW{a:Nat}{k:Int}{r:Nat}(h:wZ a k=some r):aU PP 229 [] [ah a,D.int .i64 k] [] (ah r):=by
 obtain⟨⟨h0,h1,h2⟩,h⟩:=ax h;injection h with h;subst h;have:=Cm a k.toNat (fD h0) (by omega);rw[Int.toNat_of_nonneg h1]at this;exact this.gen
instance (l:List UInt8):Decidable (rH l):=inferInstanceAs (Decidable (∀b∈l,_))
def ma(s:List UInt8):Option Nat:=b_ (s.length<=1000000/\rH s) (some (ji s))
theorem vX{s:List UInt8}{r:Nat}(h:ma s=some r):aU PP 148 [] [b9 s] [] (ah r):=by
 obtain⟨⟨h0,h1⟩,h⟩:=ax h;injection h with h;subst h;exact(xK ⟨s.toArray⟩ h0 h1).gen
theorem x8{k:IntKind}{n m:Int}(h:m≠0):m_ .quo k n m=some (k.wrap (n.tdiv m)):=if_neg h
theorem ym{k:IntKind}{n m:Int}(h:m≠0):m_ .rem k n m=some (n.tmod m):=if_neg h
section
variable {P:Program} {os:List Oper} {c:Ctx} {T T':List (Nat×D)} {H H':List (Nat×Hp)} {sps:List Spec}
variable {ops:Array Oper} {dst:Option Nat} {ty:TypeId} {pos:String} {aft:Array Edge}
theorem ai.vr{t:TypeId}{x:Operand}{a:Nat}(hx:ev T x=some (ah a))(ht:isSlice P t=true)(hr:ai P ops c os (a_ T dst (.int .i64 (ay a).length)) H sps T' H'):
  ai P ops c (⟨dst,.call {callee:=.builtin .len,args:=#[x],argTypes:=#[t]},ty,pos,aft,none⟩::os) T H (ps [(x,ah a)] (.int .i64 (ay a).length)::sps) T' H':=.ln (hl:=aH _) hx ht hr
theorem ai.ED{t:TypeId}{x y:Operand}{a d:Nat}{k:IntKind}{z:Int}(hx:ev T x=some (ah a))(hy:ev T y=some (.int k z))(ht:sle P t=some 1)(h:ix (ay a) z=some d)
  (hr:ai P ops c os (a_ T dst (.ptr [.int .u32 d] rfl)) H sps T' H'):
  ai P ops c (⟨dst,.indexAddr t x y,ty,pos,aft,none⟩::os) T H (ps [(x,ah a),(y,.int k z)] (.ptr [.int .u32 d] rfl)::sps) T' H':=
 .nN (hl:=aH _) hx hy ht (aj h).1 (by have:=de h;have:=(aj h).1;omega) (bb (aj h).2) hr
def Ez(T:List (Nat×D)):List (Nat×Operand×D×List D)->Prop
 |[]=>True
 |(_,x,d,_)::q=>ev T x=some d/\Ez T q
theorem pK{T:List (Nat×D)}:∀{q:List (Nat×Operand×D×List D)},Ez T q->∀x∈qs q,ev T x.1=some x.2
 |[],_,x,hx=>by cases hx
 |(o,y,d,m)::q,h,x,hx=>by
  simp only[qs,List.map_cons,List.mem_cons]at hx;rcases hx with rfl|hx
  ·exact h.1
  ·exact pK h.2 x hx
theorem ai.oh{t:TypeId}{parts:List (Nat×Operand)}{z:List D}{pl:List (Nat×Nat)}(l:List D)(q:List (Nat×Operand×D×List D))(hz:x4 P t=some z)(hp:Cg P t=some pl)(hq:gR pl z.length parts q)(he:Ez T q)(hle:rv (over z q) l)
  (hr:ai P ops c os (a_ T dst (.agg l)) H sps T' H'):
  ai P ops c (⟨dst,.build t parts.toArray,ty,pos,aft,none⟩::os) T H (ps (qs q) (.agg l)::sps) T' H':=.FJ q hz hp hq (pK he) hle hr
theorem ai.zC{α:Type}{e:an α}{t te:TypeId}{parts:List (Nat×Operand)}{m bt n:Nat}{z:List D}(xs:List α)(q:List (Nat×Operand×D×List D))(hm:mM P t=some (te,m,bt,z))(hmn:m=e.n)(hs:Nat.ble (n*m) 16777216=true)(hn0:Nat.blt 0 n=true)(hq:gR (AG m 0 n) (n*m) parts q)(he:Ez T q)
  (hle:over (List.replicate n z).flatten q=flat e xs)(hln:xs.length=n)
  (hr:ai P ops c os (a_ T dst (al e xs)) H sps T' H'):
  ai P ops c (⟨dst,.buildSlice t n parts.toArray,ty,pos,aft,none⟩::os) T H (ps (qs q) (al e xs)::sps) T' H':=.FV xs q hm hmn hs hn0 hq (pK he) hle hln hr
theorem ai.F9{α:Type}{e:an α}{t te:TypeId}{r:Nat}{parts:List (Nat×Operand)}{m bt n:Nat}{z:List D}(xs:List α)(q:List (Nat×Operand×D×List D))(hm:mM P t=some (te,m,bt,z))(hmn:m=e.n)(hs:Nat.ble (n*m) 16777216=true)(hn0:Nat.blt 0 n=true)(hq:gR (AG m 0 n) (n*m) parts q)(he:Ez T q)
  (hle:over (List.replicate n z).flatten q=flat e xs)(hln:xs.length=n)(hf:af H r=none)
  (hr:ai P ops c os ((r,.own r)::T) ((r,aS e te xs)::H) sps T' H'):
  ai P ops c (⟨some r,.buildSlice t n parts.toArray,ty,pos,aft,none⟩::os) T H (rws (qs q) r (aS e te xs)::sps) T' H':=.FU xs q hm hmn hs hn0 hq (pK he) hle hln hf hr
end
end Go.Am
namespace Go.Am
open Go.RowKit
set_option maxRecDepth 100000
noncomputable section
def eV(v18:Int)(v19:Int):Option (St (Int×Int) Int):=(if(v19 !=0)=true then b_ ((v19:Int)≠0) (some (St.next (v19,(Int.tmod v18 v19))))else some (St.done v18))
def cO(v3:Nat)(v4:Nat):Option (St (Nat×Nat) (Ex Nat Nat)):=(if(decide (((ay v4).length:Int)>0))=true then((if(decide (((ay v3).length:Int)<=2))=true then(if(decide (((ay v4).length:Int)<=2))=true then(kH v3).bind fun v14=>(kH v4).bind fun v16=>(Loop (fun(s:Int×Int)=>eV s.1 s.2) (v14,v16)).bind fun v26=>(kO v26).bind fun v27=>some (Ex.ret v27)else some (Ex.cC ()))else some (Ex.cC ()))).bind fun o10=>(match o10 with|Ex.cC ()=>(jG v3 v4).bind fun(v29,v30)=>some (St.next (v4,v30))|Ex.ret r32=>some (St.done (Ex.ret r32)))else some (St.done (Ex.cC v3)))
def ml(a1:Nat)(a2:Nat):Option Nat:=(Loop (fun(s:Nat×Nat)=>cO s.1 s.2) (a1,a2)).bind fun o5=>(match o5 with|Ex.cC v33=>some v33|Ex.ret r34=>some r34)
theorem xI{a1:Nat}{a2:Nat}{r35:Nat}(h:ml a1 a2=some r35):aU PP 214 [] [ah a1,ah a2] [] (ah r35):=by
 unfold ml at h;refine .of Go.Proofs.Tryz.func214 rfl (by kernel_rfl) rfl rfl rfl rfl rfl rfl (fun A w0 L b=>?_);show Ok PP _ [(0,ah a1),(1,ah a2)] [] _ _;refine .ak (.au rfl<|.nil) rfl ?_;obtain⟨o5,hl6,h⟩:=bind_some h;refine .cX (fun i=>o5=Ex.cC i) (fun(i:Nat)=>[(0,ah i)]) (fun(i:Nat)=>[]) ?_ ?_
 ·have ho1:=h;refine .block (.cD (fun(s:Nat×Nat)=>[(0,ah s.1),(1,ah s.2)]) (fun(s:Nat×Nat)=>[]) hl6 (.of rfl) trivial rfl rfl ?_);rintro⟨v3,v4⟩ st7 hb8;have h:cO v3 v4=some st7:=hb8;unfold cO at h
  try dsimp only
  refine .sq ?_;refine .ak (.mv rfl<|.vr rfl ao<|.cm rfl rfl rfl<|.nil) rfl ?_;by_cases c9:(decide (((ay v4).length:Int)>0))=true
  ·replace h:=ae c9 h;refine .cL rfl c9 ?_;refine .skip (Ok.on ?_);refine .block ?_;obtain⟨o10,hp11,h⟩:=bind_some h;refine .cX (fun i=>o10=Ex.cC i) (fun(i:Unit)=>[(0,ah v3),(1,ah v4)]) (fun(i:Unit)=>[]) ?_ ?_
   ·have ho2:=h;have h:=hp11;by_cases c12:(decide (((ay v3).length:Int)<=2))=true
    ·replace h:=ae c12 h;refine .ak (.mv rfl<|.vr rfl ao<|.cm rfl rfl rfl<|.mv rfl<|.gy c12<|.mv rfl<|.gy c12<|.vr rfl ao<|.gy c12<|.cm rfl rfl rfl<|.bw rfl c12 rfl<|.nil) rfl ?_;by_cases c13:(decide (((ay v4).length:Int)<=2))=true
     ·replace h:=ae c13 h;refine .cL rfl c13 ?_;obtain⟨v14,e15,h⟩:=bind_some h;obtain⟨v16,e17,h⟩:=bind_some h;refine .ak (.mv rfl<|.ag (tC e15) ⟨rfl,trivial⟩ trivial trivial<|.mv rfl<|.ag (tC e17) ⟨rfl,trivial⟩ trivial trivial<|.au rfl<|.au rfl<|.nil) rfl ?_;obtain⟨v26,hl21,h⟩:=bind_some h;refine .cX (fun i=>v26=i) (fun(i:Int)=>[(5,D.int .u64 i)]) (fun(i:Int)=>[]) ?_ ?_
      ·have ho3:=h;refine .block (.cD (fun(s:Int×Int)=>[(5,D.int .u64 s.1),(6,D.int .u64 s.2)]) (fun(s:Int×Int)=>[]) hl21 (.of rfl) trivial rfl rfl ?_);rintro⟨v18,v19⟩ st22 hb23;have h:eV v18 v19=some st22:=hb23;unfold eV at h
       try dsimp only
       refine .sq ?_;refine .ak (.mv rfl<|.cm rfl rfl rfl<|.nil) rfl ?_;by_cases c24:(v19 !=0)=true
       ·replace h:=ae c24 h;refine .cL rfl c24 ?_;refine .skip (Ok.on ?_);refine .block ?_;obtain⟨k25,h⟩:=ax h;refine .dc cq (.mv rfl<|.mv rfl<|.mv rfl<|.ar rfl rfl (ym k25)<|.au rfl<|.au rfl<|.nil) rfl (by kernel_rfl) (fun _ _ hs=>⟨(v19,(Int.tmod v18 v19)),(sj h),hs.sub (.of rfl) trivial rfl rfl⟩)
       ·replace h:=ab c24 h;refine .c_ rfl c24 ?_;refine .exit (fun _ _ hs=>⟨_,(sj h),fun e=>⟨v18,e.symm,hs.sub (.of rfl) trivial rfl rfl⟩⟩)
      ·rintro _ rfl
       try dsimp only
       obtain⟨v27,e28,h⟩:=bind_some h;refine .ak (.mv rfl<|.ag (rB e28) ⟨rfl,trivial⟩ trivial trivial<|.au rfl<|.nil) rfl ?_;cases h;have h:=ho2;refine .aN (Hi:=[]) (Ho:=[]) (b:=b) (fn:=Go.Proofs.Tryz.f214) (d:=ah v27) (fun _ _ hb=>by exact⟨_,(sj h),fun e=>by subst e;have h:=ho1;cases h;exact hb⟩) rfl (.t1 (.tmp rfl)) (.refl _) trivial trivial
     ·replace h:=ab c13 h;refine .c_ rfl c13 ?_;refine .skip (fun _ _ hs=>⟨(),(sj h),hs.sub (.of rfl) trivial rfl rfl⟩)
    ·replace h:=ab c12 h;refine .ak (.mv rfl<|.vr rfl ao<|.cm rfl rfl rfl<|.mv rfl<|.gm c12<|.gm c12<|.gm c12<|.br rfl c12 rfl<|.nil) rfl ?_;refine .c_ rfl (by decide) ?_;refine .skip (fun _ _ hs=>⟨(),(sj h),hs.sub (.of rfl) trivial rfl rfl⟩)
   ·rintro⟨⟩ rfl
    try dsimp only
    obtain⟨⟨v29,v30⟩,e31,h⟩:=bind_some h;refine .ak (.mv rfl<|.mv rfl<|.ag (pc e31) ⟨rfl,rfl,trivial⟩ trivial trivial<|.mv rfl<|.ext rfl rfl<|.ext rfl rfl<|.au rfl<|.au rfl<|.nil) rfl ?_;refine .region (.mv rfl<|.mv rfl<|.au rfl<|.au rfl<|.nil) rfl (fun _ _ hs=>⟨(v4,v30),(sj h),hs.sub (.of rfl) trivial rfl rfl⟩)
  ·replace h:=ab c9 h;refine .c_ rfl c9 ?_;refine .exit (fun _ _ hs=>⟨_,(sj h),fun e=>⟨v3,e.symm,hs.sub (.of rfl) trivial rfl rfl⟩⟩)
 ·rintro v33 rfl
  try dsimp only
  refine .ak (.mv rfl<|.au rfl<|.nil) rfl ?_;cases h;refine .aN (fun _ _ hb=>hb) rfl (.t1 (.tmp rfl)) (.refl _) trivial trivial
def fZ(a1:Nat)(v9:Nat):Option (St Nat Nat):=(jG a1 v9).bind fun(v14,v15)=>(sb v9 v14).bind fun v17=>(wZ v17 1).bind fun v19=>(su v19 v9).bind fun v21=>(if(decide (v21>=0))=true then some (St.done v9)else some (St.next v19))
def kK(a1:Nat):Option Nat:=(if(((ay a1).length:Int)==0)=true then some 0 else(kO 1).bind fun v3=>(wk a1).bind fun v5=>(sR v3 (IntKind.i64.wrap (Int.tdiv (IntKind.i64.wrap (v5+1)) 2))).bind fun v7=>(Loop (fun(s:Nat)=>fZ a1 s) v7).bind fun r24=>some r24)
theorem vA{a1:Nat}{r25:Nat}(h:kK a1=some r25):aU PP 170 [] [ah a1] [] (ah r25):=by
 unfold kK at h;refine .of Go.Proofs.Tryz.func170 rfl (by kernel_rfl) rfl rfl rfl rfl rfl rfl (fun A w0 L b=>?_);show Ok PP _ [(0,ah a1)] [] _ _;refine .ak (.au rfl<|.nil) rfl ?_;refine .sq ?_;refine .ak (.mv rfl<|.vr rfl ao<|.cm rfl rfl rfl<|.nil) rfl ?_;by_cases c2:(((ay a1).length:Int)==0)=true
 ·replace h:=ae c2 h;refine .cL rfl c2 ?_;refine .ak (.au rfl<|.nil) rfl ?_;cases h;refine .aN (fun _ _ hb=>hb) rfl (.t1 (.tmp rfl)) (aQ) trivial trivial
 ·replace h:=ab c2 h;refine .c_ rfl c2 ?_;refine .skip (Ok.on ?_);obtain⟨v3,e4,h⟩:=bind_some h;obtain⟨v5,e6,h⟩:=bind_some h;obtain⟨v7,e8,h⟩:=bind_some h;refine .ak (.ag (rB e4) ⟨rfl,trivial⟩ trivial trivial<|.mv rfl<|.ag (CL e6) ⟨rfl,trivial⟩ trivial trivial<|.ar rfl rfl rfl<|.ar rfl rfl (x8 (by decide))<|.ag (zA e8) ⟨rfl,rfl,trivial⟩ trivial trivial<|.au rfl<|.nil) rfl ?_;obtain⟨o10,hl11,h⟩:=bind_some h;have ho1:=h;refine .block (.cD (fun(s:Nat)=>[(0,ah a1),(3,ah s)]) (fun(s:Nat)=>[]) hl11 (.of rfl) trivial rfl rfl ?_);rintro v9 st12 hb13;have h:fZ a1 v9=some st12:=hb13;unfold fZ at h
  try dsimp only
  refine .block ?_;obtain⟨⟨v14,v15⟩,e16,h⟩:=bind_some h;refine .ak (.mv rfl<|.mv rfl<|.ag (pc e16) ⟨rfl,rfl,trivial⟩ trivial trivial<|.mv rfl<|.ext rfl rfl<|.ext rfl rfl<|.au rfl<|.au rfl<|.nil) rfl ?_;obtain⟨v17,e18,h⟩:=bind_some h;obtain⟨v19,e20,h⟩:=bind_some h;refine .ak (.mv rfl<|.mv rfl<|.ag (xb e18) ⟨rfl,rfl,trivial⟩ trivial trivial<|.ag (DW e20) ⟨rfl,rfl,trivial⟩ trivial trivial<|.au rfl<|.nil) rfl ?_;refine .sq ?_;obtain⟨v21,e22,h⟩:=bind_some h;refine .ak (.mv rfl<|.mv rfl<|.ag (wV e22) ⟨rfl,rfl,trivial⟩ trivial trivial<|.cm rfl rfl rfl<|.nil) rfl ?_;by_cases c23:(decide (v21>=0))=true
  ·replace h:=ae c23 h;refine .cL rfl c23 ?_;refine .ak (.mv rfl<|.au rfl<|.nil) rfl ?_;refine .aN (Hi:=[]) (Ho:=[]) (b:=b) (fn:=Go.Proofs.Tryz.f170) (d:=ah v9) (fun _ _ hb=>by exact⟨_,(sj h),fun e=>by subst e;have h:=ho1;cases h;exact hb⟩) rfl (.t1 (.tmp rfl)) (.refl _) trivial trivial
  ·replace h:=ab c23 h;refine .c_ rfl c23 ?_;refine .skip (Ok.on ?_);refine .region (.mv rfl<|.au rfl<|.nil) rfl (fun _ _ hs=>⟨v19,(sj h),hs.sub (.of rfl) trivial rfl rfl⟩)
def dU(v2:Int)(v3:Int)(v4:List Int):Option (St (Int×Int×(List Int)) (List Int)):=(if(decide (v2<v3))=true then(ix v4 v3).bind fun v10=>(ix v4 v2).bind fun v12=>(ix (v4.set v2.toNat v10) v3).bind fun v14=>some (St.next ((IntKind.i64.wrap (v2+1)),(IntKind.i64.wrap (v3-1)),((v4.set v2.toNat v10).set v3.toNat v12)))else some (St.done v4))
def fj(a1:List Int):Option (List Int):=(Loop (fun(s:Int×Int×(List Int))=>dU s.1 s.2.1 s.2.2) (0,(IntKind.i64.wrap ((a1.length:Int)-1)),a1)).bind fun v16=>some v16
theorem pr{a1:List Int}{r17:List Int}(h:fj a1=some r17):aU PP 230 [(0,aS (an.int .u8) 5 a1)] [D.own 0] [(0,aS (an.int .u8) 5 r17)] (D.fU []):=by
 unfold fj at h;refine .of Go.Proofs.Tryz.func230 rfl (by kernel_rfl) rfl rfl rfl rfl rfl rfl (fun A w0 L b=>?_);show Ok PP _ [(0,D.own 0),(1000000,D.pinned 0 (b 0))] [(0,aS (an.int .u8) 5 a1)] _ _;refine .sl 0 rfl rfl rfl ?_;refine .ak (.mv rfl<|.DQ rfl xJ<|.ar rfl rfl rfl<|.au rfl<|.au rfl<|.nil) rfl ?_;obtain⟨o5,hl6,h⟩:=bind_some h;have ho1:=h;refine .block (.cD (fun(s:Int×Int×(List Int))=>[(0,D.own 0),(2,D.int .i64 s.1),(3,D.int .i64 s.2.1),(1000000,D.pinned 0 (b 0))]) (fun(s:Int×Int×(List Int))=>[(0,aS (an.int .u8) 5 s.2.2)]) hl6 (.p rfl .sl<|.k rfl<|.k rfl<|.k rfl<|trivial) (.of rfl) rfl rfl ?_);rintro⟨v2,v3,v4⟩ st7 hb8;have h:dU v2 v3 v4=some st7:=hb8;unfold dU at h
 try dsimp only
 refine .sq ?_;refine .ak (.mv rfl<|.mv rfl<|.cm rfl rfl rfl<|.nil) rfl ?_;by_cases c9:(decide (v2<v3))=true
 ·replace h:=ae c9 h;refine .cL rfl c9 ?_;refine .skip (Ok.on ?_);refine .sq ?_;refine .block ?_;refine .sl 0 rfl rfl rfl ?_;obtain⟨v10,e11,h⟩:=bind_some h;obtain⟨v12,e13,h⟩:=bind_some h;obtain⟨v14,e15,h⟩:=bind_some h;refine .dc cq (.mv rfl<|.mv rfl<|.mv rfl<|.mv rfl<|.mv rfl<|.mv rfl<|.l4 rfl rfl mu (aj e11).1 (by have:=je e11;simpa using this)<|.EW rfl rfl l8 rfl (aj e11).2 rfl<|.mv rfl<|.mv rfl<|.l4 rfl rfl mu (aj e13).1 (by have:=je e13;simpa using this)<|.EW rfl rfl l8 rfl (aj e13).2 rfl<|.l4 rfl rfl mu (aj e13).1 (by have:=je e13;simpa using this)<|.A_ v10 rfl rfl rfl l8 rfl rfl rfl rfl (de e13)<|.l4 rfl rfl mu (aj e15).1 (by have:=je e15;simpa using this)<|.A_ v12 rfl rfl rfl l8 rfl rfl rfl rfl (de e15)<|.nil) rfl (by kernel_rfl) (Ok.on ?_);refine .region (.mv rfl<|.ar rfl rfl rfl<|.mv rfl<|.ar rfl rfl rfl<|.au rfl<|.au rfl<|.nil) rfl (fun _ _ hs=>⟨((IntKind.i64.wrap (v2+1)),(IntKind.i64.wrap (v3-1)),((v4.set v2.toNat v10).set v3.toNat v12)),(sj h),hs.sub (.p rfl .sl<|.k rfl<|.k rfl<|.k rfl<|trivial) (.of rfl) rfl rfl⟩)
 ·replace h:=ab c9 h;refine .c_ rfl c9 ?_;refine .exit (fun a w hs=>⟨_,(sj h),fun e=>by subst e;have h:=ho1;cases h;exact bA (hs.Fb rfl .nil (.refl _) (.of rfl) (.of rfl))⟩)
def dM(v10:Nat)(v17:Int)(v18:Int)(v19:List Int):Option (St (Int×Int×(List Int)) (List Int)):=((if(decide (v18<9))=true then(if(decide (((ay v10).length:Int)>0))=true then some (Ex.cC ())else(if(decide (v17>0))=true then some (Ex.cC ())else some (Ex.ret ())))else some (Ex.ret ()))).bind fun o24=>(match o24 with|Ex.cC ()=>b_ ((v19.length+([(IntKind.u8.wrap (IntKind.u64.wrap (48+(Int.tmod v17 10))))]).length)*1<=140737488355328/\v19.length+([(IntKind.u8.wrap (IntKind.u64.wrap (48+(Int.tmod v17 10))))]).length<=9223372036854775807) (some (St.next ((IntKind.u64.wrap (Int.tdiv v17 10)),(IntKind.i64.wrap (v18+1)),(v19++[(IntKind.u8.wrap (IntKind.u64.wrap (48+(Int.tmod v17 10))))]))))|Ex.ret ()=>some (St.done v19))
def dP(v3:Nat)(v4:List Int):Option (St (Nat×(List Int)) (List Int)):=(if(decide (((ay v3).length:Int)>0))=true then(tT v3 1000000000).bind fun(v10,v11)=>(kH v11).bind fun v13=>((Loop (fun(s:Int×Int×(List Int))=>dM v10 s.1 s.2.1 s.2.2) (v13,0,v4)).bind fun v30=>some (v30)).bind fun v31=>some (St.next (v10,v31))else some (St.done v4))
def iM(a1:Nat):Option (List UInt8):=(if(((ay a1).length:Int)==0)=true then some ([48]:List UInt8)else(Loop (fun(s:Nat×(List Int))=>dP s.1 s.2) (a1,[])).bind fun v32=>(fj v32).bind fun v33=>some (bytesOf v33))
theorem rI{a1:Nat}{r35:List UInt8}(h:iM a1=some r35):aU PP 176 [] [ah a1] [] (b9 r35):=by
 unfold iM at h;refine .of Go.Proofs.Tryz.func176 rfl (by kernel_rfl) rfl rfl rfl rfl rfl rfl (fun A w0 L b=>?_);show Ok PP _ [(0,ah a1)] [] _ _;refine .ak (.au rfl<|.nil) rfl ?_;refine .sq ?_;refine .ak (.mv rfl<|.vr rfl ao<|.cm rfl rfl rfl<|.nil) rfl ?_;by_cases c2:(((ay a1).length:Int)==0)=true
 ·replace h:=ae c2 h;refine .cL rfl c2 ?_;refine .ak (.au rfl<|.nil) rfl ?_;cases h;refine .aN (fun _ _ hb=>hb) rfl (.t1 (.tmp rfl)) (.refl _) trivial trivial
 ·replace h:=ab c2 h;refine .c_ rfl c2 ?_;refine .skip (Ok.on ?_);refine .ak (.au rfl<|.nil) rfl ?_;refine .jK (an.int .u8) 3 2000003 5 rfl rfl ?_;obtain⟨v32,hl6,h⟩:=bind_some h;refine .cX (fun i=>v32=i) (fun(i:(List Int))=>[(3,D.own 2000003)]) (fun(i:(List Int))=>[(2000003,aS (an.int .u8) 5 i)]) ?_ ?_
  ·have ho1:=h;refine .block (.cD (fun(s:Nat×(List Int))=>[(0,ah s.1),(3,D.own 2000003)]) (fun(s:Nat×(List Int))=>[(2000003,aS (an.int .u8) 5 s.2)]) hl6 (.of rfl) (.of rfl) rfl rfl ?_);rintro⟨v3,v4⟩ st7 hb8;have h:dP v3 v4=some st7:=hb8;unfold dP at h
   try dsimp only
   refine .sq ?_;refine .ak (.mv rfl<|.vr rfl ao<|.cm rfl rfl rfl<|.nil) rfl ?_;by_cases c9:(decide (((ay v3).length:Int)>0))=true
   ·replace h:=ae c9 h;refine .cL rfl c9 ?_;refine .skip (Ok.on ?_);refine .block ?_;obtain⟨⟨v10,v11⟩,e12,h⟩:=bind_some h;refine .ak (.mv rfl<|.ag (BM e12) ⟨rfl,rfl,trivial⟩ trivial trivial<|.mv rfl<|.ext rfl rfl<|.ext rfl rfl<|.au rfl<|.au rfl<|.nil) rfl ?_;obtain⟨v13,e14,h⟩:=bind_some h;refine .ak (.mv rfl<|.ag (tC e14) ⟨rfl,trivial⟩ trivial trivial<|.au rfl<|.nil) rfl ?_;obtain⟨v31,hp16,h⟩:=bind_some h;refine .cX (fun i=>v31=i) (fun(i:(List Int))=>[(3,D.own 2000003),(4,ah v10)]) (fun(i:(List Int))=>[(2000003,aS (an.int .u8) 5 i)]) ?_ ?_
    ·have ho2:=h;have h:=hp16;refine .ak (.au rfl<|.nil) rfl ?_;obtain⟨o20,hl21,h⟩:=bind_some h;have ho3:=h;refine .block (.cD (fun(s:Int×Int×(List Int))=>[(3,D.own 2000003),(4,ah v10),(6,D.int .u64 s.1),(7,D.int .i64 s.2.1)]) (fun(s:Int×Int×(List Int))=>[(2000003,aS (an.int .u8) 5 s.2.2)]) hl21 (.of rfl) (.of rfl) rfl rfl ?_);rintro⟨v17,v18,v19⟩ st22 hb23;have h:dM v10 v17 v18 v19=some st22:=hb23;unfold dM at h
     try dsimp only
     obtain⟨o24,hp25,h⟩:=bind_some h;refine .cX (fun i=>o24=Ex.cC i) (fun(i:Unit)=>[(3,D.own 2000003),(4,ah v10),(6,D.int .u64 v17),(7,D.int .i64 v18)]) (fun(i:Unit)=>[(2000003,aS (an.int .u8) 5 v19)]) ?_ ?_
     ·have ho4:=h;have h:=hp25;by_cases c26:(decide (v18<9))=true
      ·replace h:=ae c26 h;by_cases c27:(decide (((ay v10).length:Int)>0))=true
       ·replace h:=ae c27 h;refine .ak (.mv rfl<|.cm rfl rfl rfl<|.mv rfl<|.gy c26<|.mv rfl<|.gy c26<|.vr rfl ao<|.gy c26<|.cm rfl rfl rfl<|.gy c26<|.mv rfl<|.gk c27<|.gk c27<|.gy c26<|.bw rfl c27 rfl<|.bw rfl c26 rfl<|.nil) rfl ?_;refine .cL rfl rfl ?_;refine .skip (fun _ _ hs=>⟨(),(sj h),hs.sub (.of rfl) (.of rfl) rfl rfl⟩)
       ·replace h:=ab c27 h;refine .ak (.mv rfl<|.cm rfl rfl rfl<|.mv rfl<|.gy c26<|.mv rfl<|.gy c26<|.vr rfl ao<|.gy c26<|.cm rfl rfl rfl<|.gy c26<|.mv rfl<|.gz c27<|.mv rfl<|.gz c27<|.cm rfl rfl rfl<|.gy c26<|.br rfl c27 rfl<|.bw rfl c26 rfl<|.nil) rfl ?_;by_cases c28:(decide (v17>0))=true
        ·replace h:=ae c28 h;refine .cL rfl c28 ?_;refine .skip (fun _ _ hs=>⟨(),(sj h),hs.sub (.of rfl) (.of rfl) rfl rfl⟩)
        ·replace h:=ab c28 h;refine .c_ rfl c28 ?_;cases h;have h:=ho4;refine .exit (fun a w hs=>⟨_,(sj h),fun e=>by subst e;have h:=ho3;exact bA (⟨v19,(sj h),hs.sub (.of rfl) (.of rfl) rfl rfl⟩)⟩)
      ·replace h:=ab c26 h;refine .ak (.mv rfl<|.cm rfl rfl rfl<|.mv rfl<|.gm c26<|.gm c26<|.gm c26<|.gm c26<|.gu<|.gu<|.gm c26<|.br rfl c26 rfl<|.nil) rfl ?_;refine .c_ rfl (by decide) ?_;cases h;have h:=ho4;refine .exit (fun a w hs=>⟨_,(sj h),fun e=>by subst e;have h:=ho3;exact bA (⟨v19,(sj h),hs.sub (.of rfl) (.of rfl) rfl rfl⟩)⟩)
     ·rintro⟨⟩ rfl
      try dsimp only
      refine .sq ?_;refine .block ?_;refine .sl 3 rfl rfl rfl ?_;obtain⟨k29,h⟩:=ax h;refine .ak (.mv rfl<|.mv rfl<|.ar rfl rfl (ym (by decide))<|.ar rfl rfl rfl<|.cv rfl pq rfl<|.zC (e:=(an.int .u8)) [(IntKind.u8.wrap (IntKind.u64.wrap (48+(Int.tmod v17 10))))] [(0,_,D.int .u8 (IntKind.u8.wrap (IntKind.u64.wrap (48+(Int.tmod v17 10)))),[D.int .u8 (IntKind.u8.wrap (IntKind.u64.wrap (48+(Int.tmod v17 10))))])] sG rfl rfl rfl ⟨rfl,rfl,.one rfl,rfl,trivial⟩ ⟨rfl,trivial⟩ rfl rfl<|.yH (ys:=[(IntKind.u8.wrap (IntKind.u64.wrap (48+(Int.tmod v17 10))))]) rfl .sl rfl (.refl _) rfl sG rfl k29.1 k29.2 rfl<|.au rfl<|.nil) rfl ?_;refine .region (.mv rfl<|.ar rfl rfl (x8 (by decide))<|.au rfl<|.nil) rfl (Ok.on ?_);refine .region (.mv rfl<|.ar rfl rfl rfl<|.au rfl<|.nil) rfl (fun _ _ hs=>⟨((IntKind.u64.wrap (Int.tdiv v17 10)),(IntKind.i64.wrap (v18+1)),(v19++[(IntKind.u8.wrap (IntKind.u64.wrap (48+(Int.tmod v17 10))))])),(sj h),hs.oo (fun r=>match r with|2000003=>40|r=>r) (.p rfl (.own (r:=2000003))<|.r rfl rfl<|.r rfl rfl<|.r rfl rfl<|trivial) (.r rfl rfl trivial) rfl rfl rfl⟩)
    ·rintro _ rfl
     try dsimp only
     refine .region (.mv rfl<|.au rfl<|.nil) rfl (fun _ _ hs=>⟨(v10,v31),(sj h),hs.sub (.of rfl) (.of rfl) rfl rfl⟩)
   ·replace h:=ab c9 h;refine .c_ rfl c9 ?_;refine .exit (fun _ _ hs=>⟨_,(sj h),fun e=>⟨v4,e.symm,hs.sub (.of rfl) (.of rfl) rfl rfl⟩⟩)
  ·rintro _ rfl
   try dsimp only
   refine .sl 3 rfl rfl rfl ?_;obtain⟨v33,e34,h⟩:=bind_some h;refine .ak (.mv rfl<|.ag (Hi:=[(2000003,aS (an.int .u8) 5 v32)]) (Ho:=[(2000003,aS (an.int .u8) 5 v33)]) (d:=D.fU []) (ds:=[D.sl 2000003 v32.length]) (.Bm (pr e34) (fun r=>match r with|0=>2000003|r=>r) (fun r=>match r with|2000003=>0|r=>r) rfl (.r rfl rfl trivial) rfl ⟨.D_ (r:=0),trivial⟩ (.r rfl rfl trivial) rfl (.refl rfl) rfl rfl rfl rfl rfl) ⟨rfl,trivial⟩ ⟨rfl,trivial⟩ trivial<|.nil) rfl ?_;refine .vt 3 (.own 2000003) rfl .sl ?_;refine .kV 3 rfl rfl rfl ?_;refine .ak (.mv rfl<|.F0 rfl (by kernel_rfl)<|.au rfl<|.nil) rfl ?_;cases h;refine .aN (fun _ _ hb=>hb) rfl (.t1 (.tmp rfl)) (.refl _) trivial trivial
end
end Go.Am
namespace Go.Am
open Go.RowKit
theorem j6{x:Nat}:(ay x).length=0↔x=0:=by
 constructor
 ·intro h;apply Classical.byContradiction;intro h0;have:=cn h0;omega
 ·rintro rfl;rw[cu];rfl
theorem gZ{x:Nat}:(ay x).length<=2↔x<18446744073709551616:=by
 constructor
 ·intro h;have h1:=jY (x:=x);have h2:(4294967296:Nat)^(ay x).length<=4294967296^2:=Nat.pow_le_pow_right (by omega) h;have:(4294967296:Nat)^2=18446744073709551616:=by decide
  omega
 ·exact fun h=>d_ (n:=2) h
theorem cE{x y:Nat}(h:x<=y):bn x<=bn y:=by
 apply dE;exact Nat.lt_of_le_of_lt h (kP y)
theorem k_{x y:Nat}(h:x<=y)(hy:sm y):sm x:=Nat.le_trans (cE h) hy
theorem mW{x n:Nat}(h:bn x<=n):x<2^n:=Nat.lt_of_lt_of_le (kP x) (Nat.pow_le_pow_right (by omega) h)
theorem jA{x:Nat}(h:x<18446744073709551616):sm x:=by
 have:bn x<=64:=dE (n:=64) h;unfold sm;omega
theorem ck{α:Type}{p:Prop}[Decidable p]{x y:Option α}(hp:p)(h:x=y):b_ p x=y:=by rw[aO hp,h]
theorem jf{n:Nat}(h:n<18446744073709551616):kO (n:Int)=some n:=ck ⟨by omega,by omega⟩ rfl
theorem mY{x:Nat}(h:x<18446744073709551616):kH x=some (x:Int):=ck (gZ.2 h) rfl
theorem nW{a b:Nat}(h:sm a)(k:sm b):sb a b=some (a+b):=ck ⟨h,k⟩ rfl
theorem qm{a b:Nat}(h:b<=a)(k:sm a):uB a b=some (a-b):=ck ⟨h,k⟩ rfl
theorem jE{a b:Nat}(h:sm a)(k:sm b):nU a b=some (a*b):=ck ⟨h,k⟩ rfl
theorem n9{a b:Nat}(h:sm a)(k:sm b):su a b=some (fl a b):=ck ⟨h,k⟩ rfl
theorem yF{a:Nat}(h:sm a):wk a=some (bn a:Int):=ck h rfl
theorem gM{a b:Nat}(hb:b≠0)(h:sm a)(k:sm b):jG a b=some (a/b,a%b):=ck ⟨hb,h,k⟩ rfl
theorem rW(x y:Nat):Loop (fun(s:Int×Int)=>eV s.1 s.2) ((x:Int),(y:Int))=some ((Nat.gcd x y:Nat):Int):=by
 obtain⟨r,hr,rfl⟩:=cb (body:=fun(s:Int×Int)=>eV s.1 s.2) ((x:Int),(y:Int)) (fun s=>∃a b:Nat,s=((a:Int),(b:Int))/\Nat.gcd a b=Nat.gcd x y) (fun s=>s.2.toNat) (fun r=>r=((Nat.gcd x y:Nat):Int)) ⟨x,y,rfl,rfl⟩ (by
  rintro s ⟨a,b,rfl,hg⟩;simp only[eV];by_cases hb:b=0
  ·right
   subst hb;rw[Nat.gcd_zero_right]at hg;exact⟨(a:Int),by simp,by rw[hg]⟩
  ·left
   refine⟨((b:Int),((a%b:Nat):Int)),?_,⟨b,a%b,rfl,?_⟩,?_⟩
   ·have h1:((b:Int) !=0)=true:=by simp;omega
    rw[if_pos h1];exact ck (by omega) rfl
   ·rw[←hg,Nat.gcd_comm a b,Nat.gcd_rec b a,Nat.gcd_comm]
   ·simp only[Int.toNat_natCast];exact Nat.mod_lt _ (by omega))
 exact hr
def zc(a b:Nat):Option Nat:=b_ (sm a/\sm b) (some (Nat.gcd a b))
theorem zW{a b:Nat}(h:sm a)(k:sm b):zc a b=some (Nat.gcd a b):=ck ⟨h,k⟩ rfl
theorem wv{a:Nat}:cO a 0=some (.done (Ex.cC a)):=by simp[cO,cu]
theorem uG{a b:Nat}(h0:b≠0)(ha:(ay a).length<=2)(hb:(ay b).length<=2)(e1:kH a=some (a:Int))(e2:kH b=some (b:Int))(e3:kO ((Nat.gcd a b:Nat):Int)=some (Nat.gcd a b)):cO a b=some (.done (Ex.ret (Nat.gcd a b))):=by
 have hl:(decide (((ay b).length:Int)>0))=true:=by have:=cn h0;simp;omega
 have h3:(decide (((ay a).length:Int)<=2))=true:=by simp;omega
 have h4:(decide (((ay b).length:Int)<=2))=true:=by simp;omega
 unfold cO;rw[if_pos hl,if_pos h3,if_pos h4,e1,e2,Option.bind_some,Option.bind_some,rW,Option.bind_some,e3]
 rfl
theorem vG{a b:Nat}(h0:b≠0)(ha:a<18446744073709551616)(hb:b<18446744073709551616):cO a b=some (.done (Ex.ret (Nat.gcd a b))):=
 uG h0 (gZ.2 ha) (gZ.2 hb) (mY ha) (mY hb) (jf (Nat.lt_of_le_of_lt (Nat.gcd_le_right _ (Nat.pos_of_ne_zero h0)) hb))
theorem vy{a b:Nat}(h0:b≠0)(hab:¬(a<18446744073709551616/\b<18446744073709551616))(ha:sm a)(hb:sm b):cO a b=some (.next (b,a%b)):=by
 have hl:(decide (((ay b).length:Int)>0))=true:=by have:=cn h0;simp;omega
 unfold cO;rw[if_pos hl];by_cases h3:(ay a).length<=2
 ·have h4:¬(ay b).length<=2:=fun h=>hab ⟨gZ.1 h3,gZ.1 h⟩;rw[if_pos (by simp;omega),if_neg (by simp;omega)];simp only[Option.bind_some,gM h0 ha hb]
 ·rw[if_neg (by simp;omega)];simp only[Option.bind_some,gM h0 ha hb]
theorem Dc(x y:Nat)(hx:sm x)(hy:sm y):ml x y=some (Nat.gcd x y):=by
 obtain⟨r,hr,hq⟩:=cb (body:=fun(s:Nat×Nat)=>cO s.1 s.2) (x,y) (fun s=>sm s.1/\sm s.2/\Nat.gcd s.1 s.2=Nat.gcd x y) (fun s=>s.2) (fun r=>r=Ex.cC (Nat.gcd x y)\/r=Ex.ret (Nat.gcd x y)) ⟨hx,hy,rfl⟩ (by
  rintro⟨a,b⟩ ⟨ha,hb,hg⟩;simp only at ha hb hg|-;by_cases h0:b=0
  ·right
   subst h0;rw[Nat.gcd_zero_right]at hg;exact⟨_,wv,.inl (by rw[hg])⟩
  by_cases h2:a<18446744073709551616/\b<18446744073709551616
  ·right
   exact⟨_,vG h0 h2.1 h2.2,.inr (by rw[hg])⟩
  ·left
   exact⟨_,vy h0 h2 ha hb,⟨hb,k_ (Nat.le_of_lt (Nat.mod_lt _ (Nat.pos_of_ne_zero h0))) hb,by rw[←hg,Nat.gcd_comm a b,Nat.gcd_rec b a,Nat.gcd_comm]⟩,Nat.mod_lt _ (Nat.pos_of_ne_zero h0)⟩)
 unfold ml;rw[hr];rcases hq with rfl|rfl<;>rfl
theorem Er{a b r:Nat}(h:zc a b=some r):aU PP 214 [] [ah a,ah b] [] (ah r):=by
 obtain⟨⟨h0,h1⟩,h⟩:=ax h;injection h with h;subst h;exact xI (Dc a b h0 h1)
def dJ:Nat->Nat
 |0=>0
 |x+1=>if(dJ x+1)*(dJ x+1)<=x+1 then dJ x+1 else dJ x
theorem nY:∀x,dJ x*dJ x<=x
 |0=>by simp[dJ]
 |x+1=>by
  have:=nY x;simp only[dJ]
  split
  ·assumption
  ·omega
theorem qV:∀x,x<(dJ x+1)*(dJ x+1)
 |0=>by simp[dJ]
 |x+1=>by
  have h:=qV x;simp only[dJ]
  split
  ·have h2:(dJ x+1+1)*(dJ x+1+1)=(dJ x+1)*(dJ x+1)+2*(dJ x+1)+1:=by
    rw[Nat.add_mul,Nat.mul_add];omega
   omega
  ·omega
theorem yZ{x n:Nat}(h:n*n<=x):n<=dJ x:=by
 apply Nat.le_of_lt_succ;apply Classical.byContradiction;intro hc;have h1:=Nat.mul_le_mul (Nat.le_of_not_lt hc) (Nat.le_of_not_lt hc);have:=qV x;simp only[Nat.succ_eq_add_one]at h1;omega
theorem yo{a x s:Nat}(hx:0<x)(hs:s*s<=a):s<=(x+a/x)/2:=by
 rw[Nat.le_div_iff_mul_le (by omega)];rcases Nat.lt_or_ge (2*s) x with h|h
 ·generalize a/x=q;omega
 ·have h1:2*s-x<=a/x:=by
   rw[Nat.le_div_iff_mul_le hx];refine Nat.le_trans ?_ hs;have h2:(2*s-x)*x+x*x=2*s*x:=by rw[←Nat.add_mul,Nat.sub_add_cancel h]
   have h3:2*s*x<=s*s+x*x:=by
    rcases Nat.le_total s x with h|h
    ·obtain⟨d,rfl⟩:=Nat.exists_eq_add_of_le h;rw[Nat.mul_add,Nat.add_mul,Nat.mul_add s,Nat.mul_add d];have:2*s*s=s*s+s*s:=by rw[Nat.mul_assoc];omega
     have:2*s*d=s*d+s*d:=by rw[Nat.mul_assoc];omega
     have:d*s=s*d:=Nat.mul_comm _ _;omega
    ·obtain⟨d,rfl⟩:=Nat.exists_eq_add_of_le h;have e1:2*(x+d)*x=x*x+x*x+(d*x+d*x):=by
      rw[Nat.mul_assoc,Nat.add_mul];omega
     have e2:(x+d)*(x+d)=x*x+x*d+(d*x+d*d):=by rw[Nat.add_mul,Nat.mul_add,Nat.mul_add]
     have e3:x*d=d*x:=Nat.mul_comm _ _;omega
   omega
  generalize a/x=q at h1|-;omega
theorem fE{x n:Nat}:bn x<=n↔x<2^n:=⟨mW,dE⟩
theorem p5{x y n:Nat}(h:bn x<=n)(k:bn y<=n):bn (x+y)<=n+1:=by
 rw[fE]at*;rw[Nat.pow_succ];omega
theorem qS{a n:Nat}(h:a<n):bn (2^a)<=n:=fE.2 (Nat.pow_lt_pow_right (by omega) h)
def vH(a:Nat):Option Nat:=b_ (bn a<=2199023255552) (some (dJ a))
theorem wrap_small{n:Int}(h0:-9223372036854775808<=n)(h1:n<9223372036854775808):IntKind.i64.wrap n=n:=by rw[IntKind.wrap_i64];omega
theorem z_{a k:Nat}(h:sm a)(hk:k<35184372088832):wZ a (k:Int)=some (a/2^k):=ck ⟨h,by omega,by omega⟩ (by rw[Int.toNat_natCast])
theorem rk{a k:Nat}(h:sm a)(hk:k<35184372088832):sR a (k:Int)=some (a*2^k):=ck ⟨h,by omega,by omega⟩ (by rw[Int.toNat_natCast])
theorem rh{x y:Nat}(h:y<=x):fl x y>=0:=by unfold fl;rw[if_neg (by omega)];split<;>omega
theorem A6(a:Nat)(h:bn a<=2199023255552):kK a=some (dJ a):=by
 unfold kK;by_cases h0:a=0
 ·subst h0;simp[cu,dJ]
 have hl:=cn h0;have hsa:sm a:=Nat.le_trans h (by omega);have hl2:¬(((ay a).length:Int)==0)=true:=by
  rw[beq_iff_eq];omega
 rw[if_neg hl2];have e1:kO (1:Int)=some 1:=jf (n:=1) (by omega);rw[e1,yF hsa];simp only[Option.bind_some];have ew:IntKind.i64.wrap (Int.tdiv (IntKind.i64.wrap ((bn a:Int)+1)) 2)=(((bn a+1)/2:Nat):Int):=by
  rw[wrap_small (n:=(bn a:Int)+1) (by omega) (by omega),Int.tdiv_eq_ediv_of_nonneg (by omega),wrap_small (by omega) (by omega)];omega
 rw[ew,rk (jA (by omega)) (by omega),Nat.one_mul];simp only[Option.bind_some];have hp0:0<2^((bn a+1)/2):=Nat.two_pow_pos _;have hs0:dJ a<=2^((bn a+1)/2):=by
  apply Classical.byContradiction;intro hc;have h1:=Nat.mul_le_mul (Nat.le_of_lt (Nat.lt_of_not_le hc)) (Nat.le_of_lt (Nat.lt_of_not_le hc));have h2:=nY a;have h3:=kP a;rw[←Nat.pow_add]at h1;have h4:(2:Nat)^bn a<=2^((bn a+1)/2+(bn a+1)/2):=Nat.pow_le_pow_right (by omega) (by omega);omega
 have hb0:bn (2^((bn a+1)/2))<=1099511627778:=qS (by omega);generalize 2^((bn a+1)/2)=x0 at*;obtain⟨r,hr,rfl⟩:=cb (body:=fun s=>fZ a s) x0 (fun x=>0<x/\dJ a<=x/\bn x<=1099511627778) id (fun r=>r=dJ a) ⟨hp0,hs0,hb0⟩ (by
  intro x ⟨hx,hsx,hbx⟩;have hsx':sm x:=Nat.le_trans hbx (by omega);have hbd:bn (a/x)<=2199023255552:=Nat.le_trans (cE (Nat.div_le_self _ _)) h;have hsd:sm (a/x):=Nat.le_trans hbd (by omega);have hsum:sm (x+a/x):=by
   exact Nat.le_trans (p5 (Nat.le_trans hbx (by omega)) hbd) (by omega)
  have hge:=yo (a:=a) hx (nY a);have hy:sm ((x+a/x)/2):=k_ (Nat.div_le_self _ _) hsum;unfold fZ;rw[gM (by omega) hsa hsx'];simp only[Option.bind_some];rw[nW hsx' hsd];simp only[Option.bind_some];have e2:wZ (x+a/x) 1=some ((x+a/x)/2):=z_ (k:=1) hsum (by omega);rw[e2];simp only[Option.bind_some];rw[n9 hy hsx'];simp only[Option.bind_some];by_cases hc:x<=(x+a/x)/2
  ·right
   refine⟨x,?_,?_⟩
   ·rw[if_pos (decide_eq_true (rh hc))]
   ·have h1:x<=a/x:=by omega
    rw[Nat.le_div_iff_mul_le hx]at h1;exact Nat.le_antisymm (yZ h1) hsx
  ·left
   refine⟨(x+a/x)/2,?_,⟨?_,hge,?_⟩,by simp only[id];omega⟩
   ·rw[if_neg];have:fl ((x+a/x)/2) x=-1:=by unfold fl;rw[if_pos (by omega)]
    rw[this];decide
   ·apply Nat.pos_of_ne_zero;intro e;have h1:dJ a=0:=by omega
    have h2:=qV a;rw[h1]at h2;omega
   ·exact Nat.le_trans (cE (by omega)) hbx)
 rw[hr];rfl
theorem Dj{a r:Nat}(h:vH a=some r):aU PP 170 [] [ah a] [] (ah r):=by
 obtain⟨h0,h⟩:=ax h;injection h with h;subst h;exact vA (A6 a h0)
theorem iy{α:Type}{xs:List α}{n:Nat}(h:n<xs.length):ix xs (n:Int)=some xs[n]:=by
 unfold ix;rw[if_pos (by omega),Int.toNat_natCast,List.getElem?_eq_getElem h]
theorem s6{α:Type}{xs:List α}{i:Int}(n:Nat)(hi:i=(n:Int))(h:n<xs.length):ix xs i=some xs[n]:=by rw[hi,iy h]
theorem vC(a:List Int)(hl:a.length<=4398046511110):fj a=some a.reverse:=by
 unfold fj;have e0:IntKind.i64.wrap ((a.length:Int)-1)=(a.length:Int)-1:=wrap_small (by omega) (by omega);rw[e0];obtain⟨r,hr,rfl⟩:=cb (body:=fun(s:Int×Int×(List Int))=>dU s.1 s.2.1 s.2.2) (0,((a.length:Int)-1),a)
  (fun s=>∃k:Nat,s.1=(k:Int)/\s.2.1=(a.length:Int)-1-k/\k<=a.length/\s.2.2.length=a.length/\(2*k<=a.length+1)/\∀n (h:n<a.length),s.2.2[n]?=if n<k\/a.length-1-k<n then a[a.length-1-n]?else a[n]?)
  (fun s=>(s.2.1+1).toNat) (fun r=>r=a.reverse)
  ⟨0,rfl,by simp,by omega,rfl,by omega,fun n h=>by rw[if_neg (by omega)]⟩ (by
   rintro⟨i,j,xs⟩ ⟨k,hi,hj,hk,hlen,hk2,hx⟩;simp only at hi hj hlen hx|-;unfold dU;by_cases hlt:i<j
   ·left
    have h1:k<a.length-1-k:=by omega
    have hj':j=((a.length-1-k:Nat):Int):=by omega
    rw[if_pos (decide_eq_true hlt),s6 (a.length-1-k) hj' (by omega),Option.bind_some,s6 k hi (by omega),Option.bind_some];rw[s6 (a.length-1-k) hj' (by rw[List.length_set];omega),Option.bind_some];refine⟨_,rfl,⟨k+1,?_,?_,by omega,by simp[hlen],by omega,?_⟩,by simp only;rw[wrap_small (by omega) (by omega)];omega⟩
    ·simp only;rw[wrap_small (by omega) (by omega)];omega
    ·simp only;rw[wrap_small (by omega) (by omega)];omega
    ·intro n hn;simp only;rw[show j.toNat=a.length-1-k from by omega,show i.toNat=k from by omega];have ek:=hx k (by omega);have ej:=hx (a.length-1-k) (by omega);rw[if_neg (by omega)]at ek ej;rw[List.getElem?_eq_getElem (by omega)]at ek ej;by_cases c1:n=a.length-1-k
     ·subst c1;rw[List.getElem?_set_self (by rw[List.length_set];omega),if_pos (by omega),ek];rw[show a.length-1-(a.length-1-k)=k from by omega]
     ·rw[List.getElem?_set_ne (by omega)];by_cases c2:n=k
      ·subst c2;rw[List.getElem?_set_self (by omega),if_pos (by omega),ej]
      ·rw[List.getElem?_set_ne (by omega),hx n hn];by_cases c3:n<k\/a.length-1-k<n
       ·rw[if_pos c3,if_pos (by omega)]
       ·rw[if_neg c3,if_neg (by omega)]
   ·right
    rw[if_neg (by simpa using hlt)];refine⟨xs,rfl,?_⟩;apply List.ext_getElem?;intro n;by_cases hn:n<a.length
    ·rw[hx n hn,List.getElem?_reverse hn]
     split
     ·rfl
     ·rw[show a.length-1-n=n from by omega]
    ·rw[List.getElem?_eq_none (by omega),List.getElem?_eq_none (by simp;omega)])
 rw[hr];rfl
def dR(x:Nat):List Int:=if h:x=0 then []else((48+x%10:Nat):Int)::dR (x/10)
termination_by x
decreasing_by exact Nat.div_lt_self (Nat.pos_of_ne_zero h) (by decide)
theorem tf:dR 0=[]:=by rw[dR];rfl
theorem zF{x:Nat}(h:x≠0):dR x=((48+x%10:Nat):Int)::dR (x/10):=by rw[dR,dif_neg h]
theorem wy:∀(n x:Nat),x<2^n->(dR x).length<=n
 |0,x,h=>by
  have:x=0:=by simp at h;exact h
  subst this;rw[tf];exact Nat.le_refl _
 |n+1,x,h=>by
  by_cases h0:x=0
  ·subst h0;rw[tf];exact Nat.zero_le _
  ·rw[zF h0,List.length_cons];have:=wy n (x/10) (by rw[Nat.pow_succ]at h;omega);omega
def mJ(x:Nat):List UInt8:=if x=0 then [48]else bytesOf (dR x).reverse
def xi(a:Nat):Option (List UInt8):=b_ (sm a) (some (mJ a))
theorem AQ(n:Int)(h:0<=n/\n<=255):IntKind.u8.wrap n=n:=by rw[IntKind.wrap_u8];omega
theorem u64_in{n:Int}(h0:0<=n)(h1:n<18446744073709551616):IntKind.u64.wrap n=n:=by rw[IntKind.wrap_u64];omega
theorem vW{a:Nat}{d:Int}(h:sm a)(k:1<=d/\d<4294967296):tT a d=some (a/d.toNat,a%d.toNat):=ck ⟨h,k⟩ rfl
theorem sN{x n:Nat}(h:bn x<=n):(dR x).length<=n:=wy _ _ (mW h)
theorem zS(tgt:List Int)(q n:Nat)(b:List Int)(hn:n<1000000000)(ht:tgt.length<=4398046511104)(hq:(ay q).length=0↔q=0)(hb:b++dR (q*1000000000+n)=tgt):
  ∃b',Loop (fun(s:Int×Int×(List Int))=>dM q s.1 s.2.1 s.2.2) ((n:Int),0,b)=some b'/\b'++dR q=tgt:=by
 refine cb (body:=fun(s:Int×Int×(List Int))=>dM q s.1 s.2.1 s.2.2) ((n:Int),0,b)
  (fun s=>∃m k:Nat,s.1=(m:Int)/\s.2.1=((9-k:Nat):Int)/\k<=9/\m<10^k/\s.2.2++dR (q*10^k+m)=tgt)
  (fun s=>(9-s.2.1).toNat) (fun r=>r++dR q=tgt) ⟨n,9,rfl,rfl,by omega,hn,hb⟩ ?_
 rintro⟨i,j,b⟩ ⟨m,k,hi,hj,hk,hm,hb⟩;simp only at hi hj hb|-;subst hi;subst hj;unfold dM;by_cases h9:k=0
 ·right
  subst h9;rw[if_neg (by simp),Option.bind_some];simp only;rw[Nat.pow_zero]at hm hb;refine⟨b,rfl,?_⟩;rw[show q=q*1+m from by omega];exact hb
 obtain⟨k,rfl⟩:=Nat.exists_eq_succ_of_ne_zero h9;have hlt:((9-(k+1):Nat):Int)<9:=by omega
 rw[Nat.succ_eq_add_one,if_pos (decide_eq_true hlt)];by_cases hz:q=0/\m=0
 ·right
  obtain⟨rfl,rfl⟩:=hz;rw[if_neg (by rw[hq.2 rfl];decide),if_neg (by decide),Option.bind_some];refine⟨b,rfl,?_⟩;rw[Nat.zero_mul]at hb;exact hb
 ·left
  have hp:q*10^(k+1)+m≠0:=by
   intro h;apply hz
   constructor
   ·apply Classical.byContradiction;intro h1;have:=Nat.mul_pos (Nat.pos_of_ne_zero h1) (show 0<10^(k+1)from Nat.pow_pos (by decide));omega
   ·omega
  have hgo:(if(decide (((ay q).length:Int)>0))=true then some (Ex.cC ())else(if(decide ((m:Int)>0))=true then some (Ex.cC ())else some (Ex.ret ())):Option (Ex Unit Unit))=some (Ex.cC ()):=by
   by_cases h1:q=0
   ·rw[if_neg (by rw[hq.2 h1];decide),if_pos (decide_eq_true (by have:=fun h=>hz ⟨h1,h⟩;omega))]
   ·rw[if_pos (decide_eq_true (by have:=fun h=>h1 (hq.1 h);omega))]
  rw[hgo,Option.bind_some];simp only;have hm':m<1000000000:=Nat.lt_of_lt_of_le hm (show 10^(k+1)<=10^9 from Nat.pow_le_pow_right (by decide) (by omega));have e1:IntKind.u8.wrap (IntKind.u64.wrap (48+Int.tmod (m:Int) 10))=((48+(q*10^(k+1)+m)%10:Nat):Int):=by
   rw[Int.tmod_eq_emod_of_nonneg (by omega),u64_in (by omega) (by omega),AQ _ (by omega)];have:(q*10^(k+1)+m)%10=m%10:=by
    rw[Nat.pow_succ,←Nat.mul_assoc,Nat.add_comm,Nat.add_mul_mod_self_right]
   rw[this];omega
  have e2:IntKind.u64.wrap (Int.tdiv (m:Int) 10)=((m/10:Nat):Int):=by
   rw[Int.tdiv_eq_ediv_of_nonneg (by omega),u64_in (by omega) (by omega)];omega
  have e3:(q*10^(k+1)+m)/10=q*10^k+m/10:=by
   rw[Nat.pow_succ,←Nat.mul_assoc,Nat.add_comm,Nat.add_mul_div_right _ _ (by decide),Nat.add_comm]
  have e4:IntKind.i64.wrap (((9-(k+1):Nat):Int)+1)=((9-k:Nat):Int):=by rw[wrap_small (by omega) (by omega)];omega
  rw[zF hp,e3]at hb;rw[e1,e2,e4];have hbl:b.length+1<=tgt.length:=by rw[←hb,List.length_append,List.length_cons];omega
  refine⟨_,ck ⟨by simp only[List.length_cons,List.length_nil];omega,by simp only[List.length_cons,List.length_nil];omega⟩ rfl,⟨m/10,k,rfl,rfl,by omega,?_,?_⟩,by simp only;omega⟩
  ·rw[Nat.pow_succ]at hm;exact Nat.div_lt_of_lt_mul (by rw[Nat.mul_comm];exact hm)
  ·simp only;rw[←hb,List.append_assoc];rfl
theorem Bj(a:Nat)(h:sm a):Loop (fun(s:Nat×(List Int))=>dP s.1 s.2) (a,[])=some (dR a):=by
 obtain⟨r,hr,rfl⟩:=cb (body:=fun(s:Nat×(List Int))=>dP s.1 s.2) (a,[]) (fun s=>sm s.1/\s.2++dR s.1=dR a) (fun s=>s.1) (fun r=>r=dR a) ⟨h,rfl⟩ (by
  rintro⟨x,b⟩ ⟨hx,hb⟩;simp only at hx hb|-;unfold dP;by_cases h0:x=0
  ·right
   subst h0;rw[if_neg (by rw[j6.2 rfl];decide)];refine⟨b,rfl,?_⟩;rw[tf,List.append_nil]at hb;exact hb
  ·left
   have hl:=cn h0;rw[if_pos (decide_eq_true (by omega)),vW hx ⟨by decide,by decide⟩,Option.bind_some];simp only;have en:(1000000000:Int).toNat=1000000000:=rfl;rw[en];have hlt:x%1000000000<1000000000:=Nat.mod_lt _ (by decide);rw[mY (by omega),Option.bind_some];obtain⟨b',hb',hb2⟩:=zS (dR a) (x/1000000000) (x%1000000000) b hlt (sN h) j6 (by
    rw[show x/1000000000*1000000000+x%1000000000=x from Nat.div_add_mod' x 1000000000];exact hb)
   rw[hb'];exact⟨_,rfl,⟨k_ (Nat.div_le_self _ _) hx,hb2⟩,Nat.div_lt_self (Nat.pos_of_ne_zero h0) (by decide)⟩)
 exact hr
theorem Dz(a:Nat)(h:sm a):iM a=some (mJ a):=by
 unfold iM mJ;by_cases h0:a=0
 ·subst h0;rw[if_pos (by rw[j6.2 rfl];rfl),if_pos rfl]
 ·have hl:=cn h0;have hl2:¬(((ay a).length:Int)==0)=true:=by rw[beq_iff_eq];omega
  rw[if_neg hl2,if_neg h0,Bj a h,Option.bind_some,vC _ (Nat.le_trans (sN h) (by omega))]
  rfl
theorem Cn{a:Nat}{r:List UInt8}(h:xi a=some r):aU PP 176 [] [ah a] [] (b9 r):=by
 obtain⟨h0,h⟩:=ax h;injection h with h;subst h;exact rI (Dz a h0)
end Go.Am
namespace Go.Am
open Go.RowKit
def qC(x:Rat):List D:=[.bool (decide (x.num<0)),ah x.num.natAbs,ah (x.den-1)]
def qD(x:Rat):D:=.agg (qC x)
def an.rat:an Rat:=⟨3,qC,fun _=>rfl,fun _=>rfl⟩
theorem lT:Le (.bool false) (.bool (decide ((0:Rat).num<0))):=.refl _
theorem l7:Le .nil (ah (0:Rat).num.natAbs):=aQ
theorem l5:Le .nil (ah ((0:Rat).den-1)):=aQ
def aA(x:Nat):List Int:=if h:x=0 then []else((x%10000:Nat):Int)::aA (x/10000)
termination_by x
decreasing_by exact Nat.div_lt_self (by omega) (by omega)
theorem du:aA 0=[]:=by rw[aA];simp
theorem iO{x:Nat}(h:x≠0):aA x=((x%10000:Nat):Int)::aA (x/10000):=by rw[aA];simp[h]
def Ds(d:Nat):D where
 p:=fun ε w S v=>∃l:List Int,(l=aA d\/(d=1/\l=[]))/\(al (an.int .i64) l).p ε w S v
 nm:=[]
 sh:=.one
 mono:=fun⟨l,hl,h⟩ he hS=>⟨l,hl,(al (an.int .i64) l).mono h (fun r hr=>by cases hr) hS⟩
 hJ:=fun⟨l,_,h⟩=>(al (an.int .i64) l).hJ h
def qb(x:Rat):List D:=[.bool (decide (x.num<0)),al (an.int .i64) (aA x.num.natAbs),.bool false,Ds x.den]
def AV(x:Rat):D:=.agg (qb x)
def an.rq:an Rat:=⟨4,qb,fun _=>rfl,fun _=>rfl⟩
theorem za:Le .nil (al (an.int .i64) (aA 0)):=by rw[du];exact .jK _
theorem EE:Le (.bool false) (.bool (decide ((0:Rat).num<0))):=.refl _
theorem EF:Le .nil (al (an.int .i64) (aA (0:Rat).num.natAbs)):=za
theorem EB:Le .nil (Ds (0:Rat).den):=⟨fun ε w S v h=>⟨[],.inr ⟨rfl,rfl⟩,(Le.jK (an.int .i64)).1 ε w S v h⟩,fun r hr=>by cases hr⟩
def sz(x:Rat):Nat:=max (bn x.num.natAbs) (bn x.den)
def cJ(x:Rat):Prop:=sz x<=400000000000
instance (x:Rat):Decidable (cJ x):=inferInstanceAs (Decidable (sz x<=400000000000))
def eh(n:Int):Prop:=-9223372036854775808<=n/\n<9223372036854775808
instance (n:Int):Decidable (eh n):=inferInstanceAs (Decidable (_/\_))
def vq(x:Rat):Int:=if x<0 then-1 else if x=0 then 0 else 1
def fY(x y:Rat):Int:=if x<y then-1 else if y<x then 1 else 0
def gD(n:Int):Option Rat:=b_ (eh n) (some (n:Rat))
def A9(n d:Int):Option (Rat×Int):=b_ (eh n/\eh d) (some (if d=0 then(0,9)else((n:Rat)/(d:Rat),0)))
def gG(a b:Rat):Option Rat:=b_ (cJ a/\cJ b) (some (a+b))
def jQ(a b:Rat):Option Rat:=b_ (cJ a/\cJ b) (some (a-b))
def fR(a b:Rat):Option Rat:=b_ (cJ a/\cJ b) (some (a*b))
def gp(a b:Rat):Option Rat:=b_ (b≠0/\cJ a/\cJ b) (some (a/b))
def pR(a:Rat):Option Rat:=some (-a)
def xu(a:Rat):Option Rat:=some (if a<0 then-a else a)
def j1(a b:Rat):Option Int:=b_ (cJ a/\cJ b) (some (fY a b))
def eM(a:Rat):Option Int:=some (vq a)
def qp(a:Rat):Option Rat:=b_ (cJ a) (some (a.den:Rat))
def nA(a:Rat):Option Rat:=b_ (cJ a) (some (a.floor:Rat))
def EU(a:Rat):List UInt8:=(if a.num<0 then [45]else [])++mJ a.num.natAbs++(if a.den=1 then []else 47::mJ a.den)
def Ay(a:Rat):Option (List UInt8):=b_ (cJ a) (some (EU a))
end Go.Am
namespace Go.Am
open Go.RowKit
set_option maxRecDepth 100000
noncomputable section
def cg(a1:Bool)(a2:Nat):Option (Bool×Nat):=(if a1=true then some ((decide (((ay a2).length:Int)>0)),a2)else some (false,a2))
theorem dN{a1:Bool}{a2:Nat}{r4:Bool}{r5:Nat}(h:cg a1 a2=some (r4,r5)):aU PP 152 [] [D.bool a1,ah a2] [] (D.agg ([D.bool r4,ah r5])):=by
 unfold cg at h;refine .of Go.Proofs.Tryz.func152 rfl (by kernel_rfl) rfl rfl rfl rfl rfl rfl (fun A w0 L b=>?_);show Ok PP _ [(0,D.bool a1),(1,ah a2)] [] _ _;refine .ak (.fV ([D.bool false,ah 0]) dm ⟨.refl _,aQ,trivial⟩ rfl<|.nil) rfl ?_;by_cases c3:a1=true
 ·replace h:=ae c3 h;refine .ak (.mv rfl<|.mv rfl<|.gy c3<|.mv rfl<|.gy c3<|.vr rfl ao<|.gy c3<|.cm rfl rfl rfl<|.bw rfl c3 rfl<|.mv rfl<|.oh ([D.bool (decide (((ay a2).length:Int)>0)),ah a2]) [(0,_,D.bool (decide (((ay a2).length:Int)>0)),[D.bool (decide (((ay a2).length:Int)>0))]),(1,_,ah a2,[ah a2])] dm fH ⟨rfl,rfl,.one rfl,rfl,rfl,rfl,.one rfl,rfl,trivial⟩ ⟨rfl,rfl,trivial⟩ ⟨.refl _,.refl _,trivial⟩<|.cw ([D.bool (decide (((ay a2).length:Int)>0)),ah a2]) rfl rfl rfl aZ rfl rfl rfl<|.nil) rfl ?_;cases h;refine .aN (fun _ _ hb=>hb) rfl (.cons (.agg rfl rfl aZ rfl) .nil) (.refl _) trivial trivial
 ·replace h:=ab c3 h;refine .ak (.mv rfl<|.mv rfl<|.gm c3<|.gm c3<|.gm c3<|.br rfl c3 rfl<|.mv rfl<|.oh ([D.bool false,ah a2]) [(0,_,D.bool false,[D.bool false]),(1,_,ah a2,[ah a2])] dm fH ⟨rfl,rfl,.one rfl,rfl,rfl,rfl,.one rfl,rfl,trivial⟩ ⟨rfl,rfl,trivial⟩ ⟨.refl _,.refl _,trivial⟩<|.cw ([D.bool false,ah a2]) rfl rfl rfl aZ rfl rfl rfl<|.nil) rfl ?_;cases h;refine .aN (fun _ _ hb=>hb) rfl (.cons (.agg rfl rfl aZ rfl) .nil) (.refl _) trivial trivial
def gW(a1:Bool)(a2:Nat):Option Int:=(if a1=true then some (-1)else(if(((ay a2).length:Int)==0)=true then some 0 else some 1))
theorem tq{a1:Bool}{a2:Nat}{r5:Int}(h:gW a1 a2=some r5):aU PP 153 [] [D.agg ([D.bool a1,ah a2])] [] (D.int .i64 r5):=by
 unfold gW at h;refine .of Go.Proofs.Tryz.func153 rfl (by kernel_rfl) rfl rfl rfl rfl rfl rfl (fun A w0 L b=>?_);show Ok PP _ [(0,D.agg ([D.bool a1,ah a2]))] [] _ _;refine .ak (.jJ rfl rfl<|.au rfl<|.nil) rfl ?_;refine .sq ?_;refine .block ?_;refine .ak (.fa rfl aJ<|.bH (D.bool a1) rfl rfl bS rfl<|.au rfl<|.nil) rfl ?_;by_cases c3:a1=true
 ·replace h:=ae c3 h;refine .cL rfl c3 ?_;refine .ak (.au rfl<|.nil) rfl ?_;cases h;refine .aN (fun _ _ hb=>hb) rfl (.t1 (.tmp rfl)) (.refl _) trivial trivial
 ·replace h:=ab c3 h;refine .c_ rfl c3 ?_;refine .ak (.fa rfl aD<|.bH (ah a2) rfl rfl aL rfl<|.vr rfl ao<|.cm rfl rfl rfl<|.au rfl<|.nil) rfl ?_;by_cases c4:(((ay a2).length:Int)==0)=true
  ·replace h:=ae c4 h;refine .cL rfl c4 ?_;refine .ak (.au rfl<|.nil) rfl ?_;cases h;refine .aN (fun _ _ hb=>hb) rfl (.t1 (.tmp rfl)) (.refl _) trivial trivial
  ·replace h:=ab c4 h;refine .c_ rfl c4 ?_;refine .skip (Ok.on ?_);refine .ak (.au rfl<|.nil) rfl ?_;cases h;refine .aN (fun _ _ hb=>hb) rfl (.t1 (.tmp rfl)) (.refl _) trivial trivial
def iY(a1:Bool)(a2:Nat)(a3:Bool)(a4:Nat):Option (Bool×Nat):=(if(a1==a3)=true then(sb a2 a4).bind fun v6=>(cg a1 v6).bind fun(v8,v9)=>some (v8,v9)else(su a2 a4).bind fun v11=>(if(decide (v11>=0))=true then(uB a2 a4).bind fun v14=>(cg a1 v14).bind fun(v16,v17)=>some (v16,v17)else(uB a4 a2).bind fun v19=>(cg a3 v19).bind fun(v21,v22)=>some (v21,v22)))
theorem uD{a1:Bool}{a2:Nat}{a3:Bool}{a4:Nat}{r24:Bool}{r25:Nat}(h:iY a1 a2 a3 a4=some (r24,r25)):aU PP 180 [] [D.agg ([D.bool a1,ah a2]),D.agg ([D.bool a3,ah a4])] [] (D.agg ([D.bool r24,ah r25])):=by
 unfold iY at h;refine .of Go.Proofs.Tryz.func180 rfl (by kernel_rfl) rfl rfl rfl rfl rfl rfl (fun A w0 L b=>?_);show Ok PP _ [(0,D.agg ([D.bool a1,ah a2])),(1,D.agg ([D.bool a3,ah a4]))] [] _ _;refine .ak (.jJ rfl rfl<|.jJ rfl rfl<|.fV ([D.bool false,ah 0]) dm ⟨.refl _,aQ,trivial⟩ rfl<|.nil) rfl ?_;refine .sq ?_;refine .block ?_;refine .ak (.fa rfl aJ<|.bH (D.bool a1) rfl rfl bS rfl<|.fa rfl aJ<|.bH (D.bool a3) rfl rfl bS rfl<|.bc jk rfl rfl rfl<|.au rfl<|.nil) rfl ?_;by_cases c5:(a1==a3)=true
 ·replace h:=ae c5 h;refine .cL rfl c5 ?_;obtain⟨v6,e7,h⟩:=bind_some h;obtain⟨⟨v8,v9⟩,e10,h⟩:=bind_some h;refine .dt cq (.fa rfl aJ<|.bH (D.bool a1) rfl rfl bS rfl<|.fa rfl aD<|.bH (ah a2) rfl rfl aL rfl<|.fa rfl aD<|.bH (ah a4) rfl rfl aL rfl<|.ag (xb e7) ⟨rfl,rfl,trivial⟩ trivial trivial<|.ag (dN e10) ⟨rfl,rfl,trivial⟩ trivial trivial<|.cw ([D.bool v8,ah v9]) rfl rfl rfl aZ rfl rfl rfl<|.nil) rfl (by kernel_rfl) ?_;cases h;refine .aN (fun _ _ hb=>hb) rfl (.cons (.agg rfl rfl aZ rfl) .nil) (.refl _) trivial trivial
 ·replace h:=ab c5 h;refine .c_ rfl c5 ?_;obtain⟨v11,e12,h⟩:=bind_some h;refine .ak (.fa rfl aD<|.bH (ah a2) rfl rfl aL rfl<|.fa rfl aD<|.bH (ah a4) rfl rfl aL rfl<|.ag (wV e12) ⟨rfl,rfl,trivial⟩ trivial trivial<|.cm rfl rfl rfl<|.au rfl<|.nil) rfl ?_;by_cases c13:(decide (v11>=0))=true
  ·replace h:=ae c13 h;refine .cL rfl c13 ?_;obtain⟨v14,e15,h⟩:=bind_some h;obtain⟨⟨v16,v17⟩,e18,h⟩:=bind_some h;refine .dt cq (.fa rfl aJ<|.bH (D.bool a1) rfl rfl bS rfl<|.fa rfl aD<|.bH (ah a2) rfl rfl aL rfl<|.fa rfl aD<|.bH (ah a4) rfl rfl aL rfl<|.ag (Al e15) ⟨rfl,rfl,trivial⟩ trivial trivial<|.ag (dN e18) ⟨rfl,rfl,trivial⟩ trivial trivial<|.cw ([D.bool v16,ah v17]) rfl rfl rfl aZ rfl rfl rfl<|.nil) rfl (by kernel_rfl) ?_;cases h;refine .aN (fun _ _ hb=>hb) rfl (.cons (.agg rfl rfl aZ rfl) .nil) (.refl _) trivial trivial
  ·replace h:=ab c13 h;refine .c_ rfl c13 ?_;refine .skip (Ok.on ?_);obtain⟨v19,e20,h⟩:=bind_some h;obtain⟨⟨v21,v22⟩,e23,h⟩:=bind_some h;refine .dt cq (.fa rfl aJ<|.bH (D.bool a3) rfl rfl bS rfl<|.fa rfl aD<|.bH (ah a4) rfl rfl aL rfl<|.fa rfl aD<|.bH (ah a2) rfl rfl aL rfl<|.ag (Al e20) ⟨rfl,rfl,trivial⟩ trivial trivial<|.ag (dN e23) ⟨rfl,rfl,trivial⟩ trivial trivial<|.cw ([D.bool v21,ah v22]) rfl rfl rfl aZ rfl rfl rfl<|.nil) rfl (by kernel_rfl) ?_;cases h;refine .aN (fun _ _ hb=>hb) rfl (.cons (.agg rfl rfl aZ rfl) .nil) (.refl _) trivial trivial
def dK(a1:Bool)(a2:Nat)(a3:Nat):Option (Bool×Nat):=(nU a2 a3).bind fun v4=>(cg a1 v4).bind fun(v6,v7)=>some (v6,v7)
theorem iI{a1:Bool}{a2:Nat}{a3:Nat}{r9:Bool}{r10:Nat}(h:dK a1 a2 a3=some (r9,r10)):aU PP 177 [] [D.agg ([D.bool a1,ah a2]),ah a3] [] (D.agg ([D.bool r9,ah r10])):=by
 unfold dK at h;refine .of Go.Proofs.Tryz.func177 rfl (by kernel_rfl) rfl rfl rfl rfl rfl rfl (fun A w0 L b=>?_);show Ok PP _ [(0,D.agg ([D.bool a1,ah a2])),(1,ah a3)] [] _ _;refine .ak (.jJ rfl rfl<|.fV ([D.bool false,ah 0]) dm ⟨.refl _,aQ,trivial⟩ rfl<|.nil) rfl ?_;obtain⟨v4,e5,h⟩:=bind_some h;obtain⟨⟨v6,v7⟩,e8,h⟩:=bind_some h;refine .dt cq (.fa rfl aJ<|.bH (D.bool a1) rfl rfl bS rfl<|.fa rfl aD<|.bH (ah a2) rfl rfl aL rfl<|.mv rfl<|.ag (qg e5) ⟨rfl,rfl,trivial⟩ trivial trivial<|.ag (dN e8) ⟨rfl,rfl,trivial⟩ trivial trivial<|.cw ([D.bool v6,ah v7]) rfl rfl rfl aZ rfl rfl rfl<|.nil) rfl (by kernel_rfl) ?_;cases h;refine .aN (fun _ _ hb=>hb) rfl (.cons (.agg rfl rfl aZ rfl) .nil) (.refl _) trivial trivial
def iV(a1:Bool)(a2:Nat)(a3:Bool)(a4:Nat):Option Int:=(if(!(a1==a3))=true then(if a1=true then some (-1)else some 1)else(if a1=true then(su a4 a2).bind fun v8=>some v8 else(su a2 a4).bind fun v10=>some v10))
theorem uT{a1:Bool}{a2:Nat}{a3:Bool}{a4:Nat}{r12:Int}(h:iV a1 a2 a3 a4=some r12):aU PP 178 [] [D.agg ([D.bool a1,ah a2]),D.agg ([D.bool a3,ah a4])] [] (D.int .i64 r12):=by
 unfold iV at h;refine .of Go.Proofs.Tryz.func178 rfl (by kernel_rfl) rfl rfl rfl rfl rfl rfl (fun A w0 L b=>?_);show Ok PP _ [(0,D.agg ([D.bool a1,ah a2])),(1,D.agg ([D.bool a3,ah a4]))] [] _ _;refine .ak (.jJ rfl rfl<|.jJ rfl rfl<|.au rfl<|.nil) rfl ?_;refine .sq ?_;refine .block ?_;by_cases c5:(!(a1==a3))=true
 ·replace h:=ae c5 h;refine .ak (.fa rfl aJ<|.bH (D.bool a1) rfl rfl bS rfl<|.fa rfl aJ<|.bH (D.bool a3) rfl rfl bS rfl<|.bc jk rfl rfl rfl<|.mv rfl<|.gy c5<|.fa rfl aJ<|.gy c5<|.bH (D.bool a1) rfl rfl bS rfl<|.bw rfl c5 rfl<|.au rfl<|.nil) rfl ?_;by_cases c6:a1=true
  ·replace h:=ae c6 h;refine .cL rfl c6 ?_;refine .ak (.au rfl<|.nil) rfl ?_;cases h;refine .aN (fun _ _ hb=>hb) rfl (.t1 (.tmp rfl)) (.refl _) trivial trivial
  ·replace h:=ab c6 h;refine .c_ rfl c6 ?_;refine .ak (.fa rfl aJ<|.bH (D.bool a1) rfl rfl bS rfl<|.fa rfl aJ<|.bH (D.bool a3) rfl rfl bS rfl<|.bc jk rfl rfl rfl<|.au rfl<|.nil) rfl ?_;refine .cL rfl c5 ?_;refine .ak (.au rfl<|.nil) rfl ?_;cases h;refine .aN (fun _ _ hb=>hb) rfl (.t1 (.tmp rfl)) (.refl _) trivial trivial
 ·replace h:=ab c5 h;refine .ak (.fa rfl aJ<|.bH (D.bool a1) rfl rfl bS rfl<|.fa rfl aJ<|.bH (D.bool a3) rfl rfl bS rfl<|.bc jk rfl rfl rfl<|.mv rfl<|.gm c5<|.gm c5<|.br rfl c5 rfl<|.au rfl<|.nil) rfl ?_;refine .c_ rfl (by decide) ?_;refine .ak (.fa rfl aJ<|.bH (D.bool a1) rfl rfl bS rfl<|.fa rfl aJ<|.bH (D.bool a3) rfl rfl bS rfl<|.bc jk rfl rfl rfl<|.au rfl<|.nil) rfl ?_;refine .c_ rfl c5 ?_;refine .ak (.fa rfl aJ<|.bH (D.bool a1) rfl rfl bS rfl<|.au rfl<|.nil) rfl ?_;by_cases c7:a1=true
  ·replace h:=ae c7 h;refine .cL rfl c7 ?_;obtain⟨v8,e9,h⟩:=bind_some h;refine .ak (.fa rfl aD<|.bH (ah a4) rfl rfl aL rfl<|.fa rfl aD<|.bH (ah a2) rfl rfl aL rfl<|.ag (wV e9) ⟨rfl,rfl,trivial⟩ trivial trivial<|.au rfl<|.nil) rfl ?_;cases h;refine .aN (fun _ _ hb=>hb) rfl (.t1 (.tmp rfl)) (.refl _) trivial trivial
  ·replace h:=ab c7 h;refine .c_ rfl c7 ?_;refine .skip (Ok.on ?_);obtain⟨v10,e11,h⟩:=bind_some h;refine .ak (.fa rfl aD<|.bH (ah a2) rfl rfl aL rfl<|.fa rfl aD<|.bH (ah a4) rfl rfl aL rfl<|.ag (wV e11) ⟨rfl,rfl,trivial⟩ trivial trivial<|.au rfl<|.nil) rfl ?_;cases h;refine .aN (fun _ _ hb=>hb) rfl (.t1 (.tmp rfl)) (.refl _) trivial trivial
def f_(a1:Bool)(a2:Nat)(a3:Nat):Option (Bool×Nat):=(jG a2 a3).bind fun(v4,v5)=>((if a1=true then(if(decide (((ay v5).length:Int)>0))=true then(kO 1).bind fun v11=>(sb v4 v11).bind fun v13=>some (v13)else some (v4))else some (v4))).bind fun v15=>(cg a1 v15).bind fun(v16,v17)=>some (v16,v17)
theorem rM{a1:Bool}{a2:Nat}{a3:Nat}{r19:Bool}{r20:Nat}(h:f_ a1 a2 a3=some (r19,r20)):aU PP 188 [] [D.agg ([D.bool a1,ah a2]),ah a3] [] (D.agg ([D.bool r19,ah r20])):=by
 unfold f_ at h;refine .of Go.Proofs.Tryz.func188 rfl (by kernel_rfl) rfl rfl rfl rfl rfl rfl (fun A w0 L b=>?_);show Ok PP _ [(0,D.agg ([D.bool a1,ah a2])),(1,ah a3)] [] _ _;refine .ak (.jJ rfl rfl<|.fV ([D.bool false,ah 0]) dm ⟨.refl _,aQ,trivial⟩ rfl<|.nil) rfl ?_;obtain⟨⟨v4,v5⟩,e6,h⟩:=bind_some h;refine .ak (.fa rfl aD<|.bH (ah a2) rfl rfl aL rfl<|.mv rfl<|.ag (pc e6) ⟨rfl,rfl,trivial⟩ trivial trivial<|.mv rfl<|.ext rfl rfl<|.ext rfl rfl<|.au rfl<|.au rfl<|.nil) rfl ?_;obtain⟨v15,hp8,h⟩:=bind_some h;refine .cX (fun i=>v15=i) (fun(i:Nat)=>[(2,D.ref 2 0),(4,D.ref 4 0),(5,ah i)]) (fun(i:Nat)=>[(2,Hp.box 26 ([D.bool a1,ah a2])),(4,Hp.box 26 ([D.bool false,ah 0]))]) ?_ ?_
 ·have ho1:=h;have h:=hp8;by_cases c9:a1=true
  ·replace h:=ae c9 h;refine .ak (.fa rfl aJ<|.bH (D.bool a1) rfl rfl bS rfl<|.mv rfl<|.gy c9<|.mv rfl<|.gy c9<|.vr rfl ao<|.gy c9<|.cm rfl rfl rfl<|.bw rfl c9 rfl<|.nil) rfl ?_;by_cases c10:(decide (((ay v5).length:Int)>0))=true
   ·replace h:=ae c10 h;refine .cL rfl c10 ?_;obtain⟨v11,e12,h⟩:=bind_some h;obtain⟨v13,e14,h⟩:=bind_some h;refine .region (.mv rfl<|.ag (rB e12) ⟨rfl,trivial⟩ trivial trivial<|.ag (xb e14) ⟨rfl,rfl,trivial⟩ trivial trivial<|.au rfl<|.nil) rfl (fun _ _ hs=>⟨v13,(sj h),hs.sub (.of rfl) (.of rfl) rfl rfl⟩)
   ·replace h:=ab c10 h;refine .c_ rfl c10 ?_;refine .skip (fun _ _ hs=>⟨v4,(sj h),hs.sub (.of rfl) (.of rfl) rfl rfl⟩)
  ·replace h:=ab c9 h;refine .ak (.fa rfl aJ<|.bH (D.bool a1) rfl rfl bS rfl<|.mv rfl<|.gm c9<|.gm c9<|.gm c9<|.br rfl c9 rfl<|.nil) rfl ?_;refine .c_ rfl (by decide) ?_;refine .skip (fun _ _ hs=>⟨v4,(sj h),hs.sub (.of rfl) (.of rfl) rfl rfl⟩)
 ·rintro _ rfl
  try dsimp only
  obtain⟨⟨v16,v17⟩,e18,h⟩:=bind_some h;refine .ak (.fa rfl aJ<|.bH (D.bool a1) rfl rfl bS rfl<|.mv rfl<|.ag (dN e18) ⟨rfl,rfl,trivial⟩ trivial trivial<|.cw ([D.bool v16,ah v17]) rfl rfl rfl aZ rfl rfl rfl<|.nil) rfl ?_;cases h;refine .aN (fun _ _ hb=>hb) rfl (.cons (.agg rfl rfl aZ rfl) .nil) (.refl _) trivial trivial
def eG(a1:Bool)(a2:Nat)(a3:Nat):Option Nat:=(kO 1).bind fun v4=>(sb a3 v4).bind fun v6=>some v6
theorem gf{a1:Bool}{a2:Nat}{a3:Nat}{r8:Nat}(h:eG a1 a2 a3=some r8):aU PP 168 [] [D.agg ([D.bool a1,ah a2,ah a3])] [] (ah r8):=by
 unfold eG at h;refine .of Go.Proofs.Tryz.func168 rfl (by kernel_rfl) rfl rfl rfl rfl rfl rfl (fun A w0 L b=>?_);show Ok PP _ [(0,D.agg ([D.bool a1,ah a2,ah a3]))] [] _ _;refine .ak (.jJ rfl rfl<|.au rfl<|.nil) rfl ?_;obtain⟨v4,e5,h⟩:=bind_some h;obtain⟨v6,e7,h⟩:=bind_some h;refine .dt cq (.fa rfl jP<|.bH (ah a3) rfl rfl aL rfl<|.ag (rB e5) ⟨rfl,trivial⟩ trivial trivial<|.ag (xb e7) ⟨rfl,rfl,trivial⟩ trivial trivial<|.au rfl<|.nil) rfl (by kernel_rfl) ?_;cases h;refine .aN (fun _ _ hb=>hb) rfl (.t1 (.tmp rfl)) (.refl _) trivial trivial
def dT(a1:Bool)(a2:Nat)(a3:Nat):Option ((Bool×Nat)×Nat):=((zc a2 a3).bind fun v6=>(if(((ay v6).length:Int) !=1)=true then(jG a2 v6).bind fun(v9,v10)=>(jG a3 v6).bind fun(v12,v13)=>some ((v12,v9))else(ix (ay v6) 0).bind fun v15=>(if((v15:Int) !=1)=true then(jG a2 v6).bind fun(v18,v19)=>(jG a3 v6).bind fun(v21,v22)=>some ((v21,v18))else some ((a3,a2))))).bind fun(v24,v25)=>(cg a1 v25).bind fun(v26,v27)=>(kO 1).bind fun v29=>(uB v24 v29).bind fun v31=>some ((v26,v27),v31)
theorem jz{a1:Bool}{a2:Nat}{a3:Nat}{r33:Bool}{r34:Nat}{r35:Nat}(h:dT a1 a2 a3=some ((r33,r34),r35)):aU PP 151 [] [D.agg ([D.bool a1,ah a2]),ah a3] [] (D.agg ([D.bool r33,ah r34,ah r35])):=by
 unfold dT at h;refine .of Go.Proofs.Tryz.func151 rfl (by kernel_rfl) rfl rfl rfl rfl rfl rfl (fun A w0 L b=>?_);show Ok PP _ [(0,D.agg ([D.bool a1,ah a2])),(1,ah a3)] [] _ _;refine .ak (.jJ rfl rfl<|.fV ([D.bool false,ah 0,ah 0]) aB ⟨.refl _,aQ,aQ,trivial⟩ rfl<|.nil) rfl ?_;obtain⟨o4,hp5,h⟩:=bind_some h;refine .cX (fun i=>o4=i) (fun(i:Nat×Nat)=>[(1,ah i.1),(2,D.ref 2 0),(4,D.ref 4 0)]) (fun(i:Nat×Nat)=>[(2,Hp.box 26 ([D.bool a1,ah i.2])),(4,Hp.box 28 ([D.bool false,ah 0,ah 0]))]) ?_ ?_
 ·have ho1:=h;have h:=hp5;obtain⟨v6,e7,h⟩:=bind_some h;refine .ak (.fa rfl aD<|.bH (ah a2) rfl rfl aL rfl<|.mv rfl<|.ag (Er e7) ⟨rfl,rfl,trivial⟩ trivial trivial<|.au rfl<|.nil) rfl ?_;by_cases c8:(((ay v6).length:Int) !=1)=true
  ·replace h:=ae c8 h;refine .ak (.mv rfl<|.vr rfl ao<|.cm rfl rfl rfl<|.mv rfl<|.gk c8<|.gk c8<|.gk c8<|.gk c8<|.bw rfl c8 rfl<|.nil) rfl ?_;refine .cL rfl rfl ?_;obtain⟨⟨v9,v10⟩,e11,h⟩:=bind_some h;refine .ak (.fa rfl aD<|.bH (ah a2) rfl rfl aL rfl<|.mv rfl<|.ag (pc e11) ⟨rfl,rfl,trivial⟩ trivial trivial<|.mv rfl<|.ext rfl rfl<|.ext rfl rfl<|.fa rfl aD<|.yi ([D.bool a1,ah v9]) rfl rfl rfl aL rfl rfl rfl<|.nil) rfl ?_;obtain⟨⟨v12,v13⟩,e14,h⟩:=bind_some h;refine .region (.mv rfl<|.mv rfl<|.ag (pc e14) ⟨rfl,rfl,trivial⟩ trivial trivial<|.mv rfl<|.ext rfl rfl<|.ext rfl rfl<|.au rfl<|.nil) rfl (fun _ _ hs=>⟨(v12,v9),(sj h),hs.sub (.of rfl) (.of rfl) rfl rfl⟩)
  ·replace h:=ab c8 h;obtain⟨v15,e16,h⟩:=bind_some h;refine .ak (.mv rfl<|.vr rfl ao<|.cm rfl rfl rfl<|.mv rfl<|.gz c8<|.mv rfl<|.gz c8<|.ED rfl rfl av e16<|.gz c8<|.i6 rfl aI<|.gz c8<|.cm rfl rfl rfl<|.br rfl c8 rfl<|.nil) rfl ?_;by_cases c17:((v15:Int) !=1)=true
   ·replace h:=ae c17 h;refine .cL rfl c17 ?_;obtain⟨⟨v18,v19⟩,e20,h⟩:=bind_some h;refine .ak (.fa rfl aD<|.bH (ah a2) rfl rfl aL rfl<|.mv rfl<|.ag (pc e20) ⟨rfl,rfl,trivial⟩ trivial trivial<|.mv rfl<|.ext rfl rfl<|.ext rfl rfl<|.fa rfl aD<|.yi ([D.bool a1,ah v18]) rfl rfl rfl aL rfl rfl rfl<|.nil) rfl ?_;obtain⟨⟨v21,v22⟩,e23,h⟩:=bind_some h;refine .region (.mv rfl<|.mv rfl<|.ag (pc e23) ⟨rfl,rfl,trivial⟩ trivial trivial<|.mv rfl<|.ext rfl rfl<|.ext rfl rfl<|.au rfl<|.nil) rfl (fun _ _ hs=>⟨(v21,v18),(sj h),hs.sub (.of rfl) (.of rfl) rfl rfl⟩)
   ·replace h:=ab c17 h;refine .c_ rfl c17 ?_;refine .skip (fun _ _ hs=>⟨(a3,a2),(sj h),hs.sub (.of rfl) (.of rfl) rfl rfl⟩)
 ·rintro⟨v24,v25⟩ rfl
  try dsimp only
  obtain⟨⟨v26,v27⟩,e28,h⟩:=bind_some h;obtain⟨v29,e30,h⟩:=bind_some h;obtain⟨v31,e32,h⟩:=bind_some h;refine .ak (.fa rfl aJ<|.bH (D.bool a1) rfl rfl bS rfl<|.fa rfl aD<|.bH (ah v25) rfl rfl aL rfl<|.ag (dN e28) ⟨rfl,rfl,trivial⟩ trivial trivial<|.mv rfl<|.ag (rB e30) ⟨rfl,trivial⟩ trivial trivial<|.ag (Al e32) ⟨rfl,rfl,trivial⟩ trivial trivial<|.oh ([D.bool v26,ah v27,ah v31]) [(0,_,D.agg ([D.bool v26,ah v27]),[D.bool v26,ah v27]),(2,_,ah v31,[ah v31])] aB cB ⟨rfl,rfl,.agg _,rfl,rfl,rfl,.one rfl,rfl,trivial⟩ ⟨rfl,rfl,trivial⟩ ⟨.refl _,.refl _,.refl _,trivial⟩<|.cw ([D.bool v26,ah v27,ah v31]) rfl rfl rfl aa rfl rfl rfl<|.nil) rfl ?_;cases h;refine .aN (fun _ _ hb=>hb) rfl (.cons (.agg rfl rfl aa rfl) .nil) (.refl _) trivial trivial
def rJ(a1:Bool)(a2:Nat):Option ((Bool×Nat)×Nat):=some ((a1,a2),0)
theorem z7{a1:Bool}{a2:Nat}{r3:Bool}{r4:Nat}{r5:Nat}(h:rJ a1 a2=some ((r3,r4),r5)):aU PP 169 [] [D.agg ([D.bool a1,ah a2])] [] (D.agg ([D.bool r3,ah r4,ah r5])):=by
 unfold rJ at h;refine .of Go.Proofs.Tryz.func169 rfl (by kernel_rfl) rfl rfl rfl rfl rfl rfl (fun A w0 L b=>?_);show Ok PP _ [(0,D.agg ([D.bool a1,ah a2]))] [] _ _;refine .ak (.jJ rfl rfl<|.fV ([D.bool false,ah 0,ah 0]) aB ⟨.refl _,aQ,aQ,trivial⟩ rfl<|.nil) rfl ?_;refine .ak (.cd ([D.bool a1,ah a2]) rfl rfl aZ rfl rfl<|.oh ([D.bool a1,ah a2,ah 0]) [(0,_,D.agg ([D.bool a1,ah a2]),[D.bool a1,ah a2])] aB cB ⟨rfl,rfl,.agg _,rfl,trivial⟩ ⟨rfl,trivial⟩ ⟨.refl _,.refl _,aQ,trivial⟩<|.cw ([D.bool a1,ah a2,ah 0]) rfl rfl rfl aa rfl rfl rfl<|.nil) rfl ?_;cases h;refine .aN (fun _ _ hb=>hb) rfl (.cons (.agg rfl rfl aa rfl) .nil) (.refl _) trivial trivial
def fJ(a1:Int):Option Nat:=(if(decide (a1<0))=true then(kO (IntKind.u64.wrap (0-(IntKind.u64.wrap a1)))).bind fun v3=>some v3 else(kO (IntKind.u64.wrap a1)).bind fun v5=>some v5)
theorem lQ{a1:Int}{r7:Nat}(h:fJ a1=some r7):aU PP 179 [] [D.int .i64 a1] [] (ah r7):=by
 unfold fJ at h;refine .of Go.Proofs.Tryz.func179 rfl (by kernel_rfl) rfl rfl rfl rfl rfl rfl (fun A w0 L b=>?_);show Ok PP _ [(0,D.int .i64 a1)] [] _ _;refine .ak (.au rfl<|.nil) rfl ?_;refine .sq ?_;refine .ak (.mv rfl<|.cm rfl rfl rfl<|.nil) rfl ?_;by_cases c2:(decide (a1<0))=true
 ·replace h:=ae c2 h;refine .cL rfl c2 ?_;obtain⟨v3,e4,h⟩:=bind_some h;refine .ak (.mv rfl<|.cv rfl ld rfl<|.neg rfl rfl<|.ag (rB e4) ⟨rfl,trivial⟩ trivial trivial<|.au rfl<|.nil) rfl ?_;cases h;refine .aN (fun _ _ hb=>hb) rfl (.t1 (.tmp rfl)) (.refl _) trivial trivial
 ·replace h:=ab c2 h;refine .c_ rfl c2 ?_;refine .skip (Ok.on ?_);obtain⟨v5,e6,h⟩:=bind_some h;refine .ak (.mv rfl<|.cv rfl ld rfl<|.ag (rB e6) ⟨rfl,trivial⟩ trivial trivial<|.au rfl<|.nil) rfl ?_;cases h;refine .aN (fun _ _ hb=>hb) rfl (.t1 (.tmp rfl)) (.refl _) trivial trivial
def xf(a1:Int):Option ((Bool×Nat)×Nat):=(fJ a1).bind fun v2=>(cg (decide (a1<0)) v2).bind fun(v4,v5)=>(rJ v4 v5).bind fun((v7,v8),v9)=>some ((v7,v8),v9)
theorem Eo{a1:Int}{r11:Bool}{r12:Nat}{r13:Nat}(h:xf a1=some ((r11,r12),r13)):aU PP 40 [] [D.int .i64 a1] [] (D.agg ([D.bool r11,ah r12,ah r13])):=by
 unfold xf at h;refine .of Go.Proofs.Tryz.func40 rfl (by kernel_rfl) rfl rfl rfl rfl rfl rfl (fun A w0 L b=>?_);show Ok PP _ [(0,D.int .i64 a1)] [] _ _;refine .ak (.fV ([D.bool false,ah 0,ah 0]) aB ⟨.refl _,aQ,aQ,trivial⟩ rfl<|.nil) rfl ?_;obtain⟨v2,e3,h⟩:=bind_some h;obtain⟨⟨v4,v5⟩,e6,h⟩:=bind_some h;obtain⟨⟨⟨v7,v8⟩,v9⟩,e10,h⟩:=bind_some h;refine .ak (.mv rfl<|.cm rfl rfl rfl<|.mv rfl<|.ag (lQ e3) ⟨rfl,trivial⟩ trivial trivial<|.ag (dN e6) ⟨rfl,rfl,trivial⟩ trivial trivial<|.ag (z7 e10) ⟨rfl,trivial⟩ trivial trivial<|.cw ([D.bool v7,ah v8,ah v9]) rfl rfl rfl aa rfl rfl rfl<|.nil) rfl ?_;cases h;refine .aN (fun _ _ hb=>hb) rfl (.cons (.agg rfl rfl aa rfl) .nil) (.refl _) trivial trivial
def Ch(a1:Int)(a2:Int):Option (((Bool×Nat)×Nat)×Int):=(if(a2==0)=true then some (((false,0),0),9)else(fJ a1).bind fun v4=>(cg (!((decide (a1<0))==(decide (a2<0)))) v4).bind fun(v6,v7)=>(fJ a2).bind fun v9=>(dT v6 v7 v9).bind fun((v11,v12),v13)=>some (((v11,v12),v13),0))
theorem DZ{a1:Int}{a2:Int}{r15:Bool}{r16:Nat}{r17:Nat}{r18:Int}(h:Ch a1 a2=some (((r15,r16),r17),r18)):aU PP 36 [] [D.int .i64 a1,D.int .i64 a2] [] (D.fU [D.agg ([D.bool r15,ah r16,ah r17]),D.int .i64 r18]):=by
 unfold Ch at h;refine .of Go.Proofs.Tryz.func36 rfl (by kernel_rfl) rfl rfl rfl rfl rfl rfl (fun A w0 L b=>?_);show Ok PP _ [(0,D.int .i64 a1),(1,D.int .i64 a2)] [] _ _;refine .ak (.fV ([D.bool false,ah 0,ah 0]) aB ⟨.refl _,aQ,aQ,trivial⟩ rfl<|.au rfl<|.nil) rfl ?_;refine .sq ?_;refine .ak (.mv rfl<|.cm rfl rfl rfl<|.nil) rfl ?_;by_cases c3:(a2==0)=true
 ·replace h:=ae c3 h;refine .cL rfl c3 ?_;refine .ak (.oh ([D.bool false,ah 0,ah 0]) [] aB cB trivial trivial ⟨.refl _,aQ,aQ,trivial⟩<|.cw ([D.bool false,ah 0,ah 0]) rfl rfl rfl aa rfl rfl rfl<|.au rfl<|.nil) rfl ?_;cases h;refine .aN (fun _ _ hb=>hb) rfl (.cons (.agg rfl rfl aa rfl) (.t1 (.tmp rfl))) (.refl _) trivial trivial
 ·replace h:=ab c3 h;refine .c_ rfl c3 ?_;refine .skip (Ok.on ?_);obtain⟨v4,e5,h⟩:=bind_some h;obtain⟨⟨v6,v7⟩,e8,h⟩:=bind_some h;obtain⟨v9,e10,h⟩:=bind_some h;obtain⟨⟨⟨v11,v12⟩,v13⟩,e14,h⟩:=bind_some h;refine .ak (.mv rfl<|.cm rfl rfl rfl<|.mv rfl<|.cm rfl rfl rfl<|.bc jk rfl rfl rfl<|.mv rfl<|.ag (lQ e5) ⟨rfl,trivial⟩ trivial trivial<|.ag (dN e8) ⟨rfl,rfl,trivial⟩ trivial trivial<|.mv rfl<|.ag (lQ e10) ⟨rfl,trivial⟩ trivial trivial<|.ag (jz e14) ⟨rfl,rfl,trivial⟩ trivial trivial<|.cw ([D.bool v11,ah v12,ah v13]) rfl rfl rfl aa rfl rfl rfl<|.au rfl<|.nil) rfl ?_;cases h;refine .aN (fun _ _ hb=>hb) rfl (.cons (.agg rfl rfl aa rfl) (.t1 (.tmp rfl))) (.refl _) trivial trivial
def nM(a1:Bool)(a2:Nat)(a3:Nat):Option (List UInt8):=(xi a2).bind fun v4=>((if a1=true then b_ (([45]:List UInt8).length+v4.length<=9223372036854775807) (some ((([45]:List UInt8)++v4)))else some (v4))).bind fun v10=>((if(decide (((ay a3).length:Int)>0))=true then(eG a1 a2 a3).bind fun v14=>(xi v14).bind fun v16=>b_ (([47]:List UInt8).length+v16.length<=9223372036854775807) (b_ (v10.length+(([47]:List UInt8)++v16).length<=9223372036854775807) (some ((v10++(([47]:List UInt8)++v16)))))else some (v10))).bind fun v20=>some v20
theorem zm{a1:Bool}{a2:Nat}{a3:Nat}{r21:List UInt8}(h:nM a1 a2 a3=some r21):aU PP 33 [] [D.agg ([D.bool a1,ah a2,ah a3])] [] (b9 r21):=by
 unfold nM at h;refine .of Go.Proofs.Tryz.func33 rfl (by kernel_rfl) rfl rfl rfl rfl rfl rfl (fun A w0 L b=>?_);show Ok PP _ [(0,D.agg ([D.bool a1,ah a2,ah a3]))] [] _ _;refine .ak (.jJ rfl rfl<|.au rfl<|.nil) rfl ?_;obtain⟨v4,e5,h⟩:=bind_some h;refine .ak (.fa rfl bF<|.fa rfl aD<|.bH (ah a2) rfl rfl aL rfl<|.ag (Cn e5) ⟨rfl,trivial⟩ trivial trivial<|.au rfl<|.nil) rfl ?_;obtain⟨v10,hp7,h⟩:=bind_some h;refine .cX (fun i=>v10=i) (fun(i:(List UInt8))=>[(1,D.ref 1 0),(3,b9 i)]) (fun(i:(List UInt8))=>[(1,Hp.box 28 ([D.bool a1,ah a2,ah a3]))]) ?_ ?_
 ·have ho1:=h;have h:=hp7;refine .ak (.fa rfl bF<|.fa rfl aJ<|.bH (D.bool a1) rfl rfl bS rfl<|.nil) rfl ?_;by_cases c8:a1=true
  ·replace h:=ae c8 h;refine .cL rfl c8 ?_;obtain⟨k9,h⟩:=ax h;refine .region (.mv rfl<|.Ca rfl rfl k9<|.au rfl<|.nil) rfl (fun _ _ hs=>⟨(([45]:List UInt8)++v4),(sj h),hs.sub (.of rfl) (.of rfl) rfl rfl⟩)
  ·replace h:=ab c8 h;refine .c_ rfl c8 ?_;refine .skip (fun _ _ hs=>⟨v4,(sj h),hs.sub (.of rfl) (.of rfl) rfl rfl⟩)
 ·rintro _ rfl
  try dsimp only
  obtain⟨v20,hp12,h⟩:=bind_some h;refine .cX (fun i=>v20=i) (fun(i:(List UInt8))=>[(3,b9 i)]) (fun(i:(List UInt8))=>[]) ?_ ?_
  ·have ho1:=h;have h:=hp12;refine .ak (.fa rfl jP<|.bH (ah a3) rfl rfl aL rfl<|.vr rfl ao<|.cm rfl rfl rfl<|.nil) rfl ?_;by_cases c13:(decide (((ay a3).length:Int)>0))=true
   ·replace h:=ae c13 h;refine .cL rfl c13 ?_;obtain⟨v14,e15,h⟩:=bind_some h;obtain⟨v16,e17,h⟩:=bind_some h;obtain⟨k18,h⟩:=ax h;obtain⟨k19,h⟩:=ax h;refine .region (.mv rfl<|.cd ([D.bool a1,ah a2,ah a3]) rfl rfl aa rfl rfl<|.ag (gf e15) ⟨rfl,trivial⟩ trivial trivial<|.ag (Cn e17) ⟨rfl,trivial⟩ trivial trivial<|.Ca rfl rfl k18<|.Ca rfl rfl k19<|.au rfl<|.nil) rfl (fun _ _ hs=>⟨(v10++(([47]:List UInt8)++v16)),(sj h),hs.sub (.of rfl) trivial rfl rfl⟩)
   ·replace h:=ab c13 h;refine .c_ rfl c13 ?_;refine .skip (fun _ _ hs=>⟨v10,(sj h),hs.sub (.of rfl) trivial rfl rfl⟩)
  ·rintro _ rfl
   try dsimp only
   refine .ak (.mv rfl<|.au rfl<|.nil) rfl ?_;cases h;refine .aN (fun _ _ hb=>hb) rfl (.t1 (.tmp rfl)) (.refl _) trivial trivial
def n5(a1:Bool)(a2:Nat)(a3:Nat)(a4:Bool)(a5:Nat)(a6:Nat):Option ((Bool×Nat)×Nat):=(eG a1 a2 a3).bind fun v7=>(eG a4 a5 a6).bind fun v9=>(dK a1 a2 v9).bind fun(v11,v12)=>(dK a4 a5 v7).bind fun(v14,v15)=>(iY v11 v12 v14 v15).bind fun(v17,v18)=>(nU v7 v9).bind fun v20=>(dT v17 v18 v20).bind fun((v22,v23),v24)=>some ((v22,v23),v24)
theorem xm{a1:Bool}{a2:Nat}{a3:Nat}{a4:Bool}{a5:Nat}{a6:Nat}{r26:Bool}{r27:Nat}{r28:Nat}(h:n5 a1 a2 a3 a4 a5 a6=some ((r26,r27),r28)):aU PP 42 [] [D.agg ([D.bool a1,ah a2,ah a3]),D.agg ([D.bool a4,ah a5,ah a6])] [] (D.agg ([D.bool r26,ah r27,ah r28])):=by
 unfold n5 at h;refine .of Go.Proofs.Tryz.func42 rfl (by kernel_rfl) rfl rfl rfl rfl rfl rfl (fun A w0 L b=>?_);show Ok PP _ [(0,D.agg ([D.bool a1,ah a2,ah a3])),(1,D.agg ([D.bool a4,ah a5,ah a6]))] [] _ _;refine .ak (.jJ rfl rfl<|.jJ rfl rfl<|.fV ([D.bool false,ah 0,ah 0]) aB ⟨.refl _,aQ,aQ,trivial⟩ rfl<|.nil) rfl ?_;obtain⟨v7,e8,h⟩:=bind_some h;obtain⟨v9,e10,h⟩:=bind_some h;refine .dt cq (.cd ([D.bool a1,ah a2,ah a3]) rfl rfl aa rfl rfl<|.ag (gf e8) ⟨rfl,trivial⟩ trivial trivial<|.cd ([D.bool a4,ah a5,ah a6]) rfl rfl aa rfl rfl<|.ag (gf e10) ⟨rfl,trivial⟩ trivial trivial<|.au rfl<|.au rfl<|.nil) rfl (by kernel_rfl) ?_;obtain⟨⟨v11,v12⟩,e13,h⟩:=bind_some h;obtain⟨⟨v14,v15⟩,e16,h⟩:=bind_some h;obtain⟨⟨v17,v18⟩,e19,h⟩:=bind_some h;obtain⟨v20,e21,h⟩:=bind_some h;obtain⟨⟨⟨v22,v23⟩,v24⟩,e25,h⟩:=bind_some h;refine .dt cq (.fa rfl bF<|.cd ([D.bool a1,ah a2]) rfl rfl aZ rfl rfl<|.mv rfl<|.ag (iI e13) ⟨rfl,rfl,trivial⟩ trivial trivial<|.fa rfl bF<|.cd ([D.bool a4,ah a5]) rfl rfl aZ rfl rfl<|.mv rfl<|.ag (iI e16) ⟨rfl,rfl,trivial⟩ trivial trivial<|.ag (uD e19) ⟨rfl,rfl,trivial⟩ trivial trivial<|.mv rfl<|.mv rfl<|.ag (qg e21) ⟨rfl,rfl,trivial⟩ trivial trivial<|.ag (jz e25) ⟨rfl,rfl,trivial⟩ trivial trivial<|.cw ([D.bool v22,ah v23,ah v24]) rfl rfl rfl aa rfl rfl rfl<|.nil) rfl (by kernel_rfl) ?_;cases h;refine .aN (fun _ _ hb=>hb) rfl (.cons (.agg rfl rfl aa rfl) .nil) (.refl _) trivial trivial
def nn(a1:Bool)(a2:Nat)(a3:Nat):Option ((Bool×Nat)×Nat):=(cg (!a1) a2).bind fun(v4,v5)=>some ((v4,v5),a3)
theorem wK{a1:Bool}{a2:Nat}{a3:Nat}{r7:Bool}{r8:Nat}{r9:Nat}(h:nn a1 a2 a3=some ((r7,r8),r9)):aU PP 48 [] [D.agg ([D.bool a1,ah a2,ah a3])] [] (D.agg ([D.bool r7,ah r8,ah r9])):=by
 unfold nn at h;refine .of Go.Proofs.Tryz.func48 rfl (by kernel_rfl) rfl rfl rfl rfl rfl rfl (fun A w0 L b=>?_);show Ok PP _ [(0,D.agg ([D.bool a1,ah a2,ah a3]))] [] _ _;refine .ak (.jJ rfl rfl<|.fV ([D.bool false,ah 0,ah 0]) aB ⟨.refl _,aQ,aQ,trivial⟩ rfl<|.nil) rfl ?_;obtain⟨⟨v4,v5⟩,e6,h⟩:=bind_some h;refine .dt cq (.fa rfl bF<|.fa rfl aJ<|.bH (D.bool a1) rfl rfl bS rfl<|.not rfl<|.fa rfl bF<|.fa rfl aD<|.bH (ah a2) rfl rfl aL rfl<|.ag (dN e6) ⟨rfl,rfl,trivial⟩ trivial trivial<|.fa rfl jP<|.bH (ah a3) rfl rfl aL rfl<|.oh ([D.bool v4,ah v5,ah a3]) [(0,_,D.agg ([D.bool v4,ah v5]),[D.bool v4,ah v5]),(2,_,ah a3,[ah a3])] aB cB ⟨rfl,rfl,.agg _,rfl,rfl,rfl,.one rfl,rfl,trivial⟩ ⟨rfl,rfl,trivial⟩ ⟨.refl _,.refl _,.refl _,trivial⟩<|.cw ([D.bool v4,ah v5,ah a3]) rfl rfl rfl aa rfl rfl rfl<|.nil) rfl (by kernel_rfl) ?_;cases h;refine .aN (fun _ _ hb=>hb) rfl (.cons (.agg rfl rfl aa rfl) .nil) (.refl _) trivial trivial
def pN(a1:Bool)(a2:Nat)(a3:Nat)(a4:Bool)(a5:Nat)(a6:Nat):Option ((Bool×Nat)×Nat):=(nn a4 a5 a6).bind fun((v7,v8),v9)=>(n5 a1 a2 a3 v7 v8 v9).bind fun((v11,v12),v13)=>some ((v11,v12),v13)
theorem Be{a1:Bool}{a2:Nat}{a3:Nat}{a4:Bool}{a5:Nat}{a6:Nat}{r15:Bool}{r16:Nat}{r17:Nat}(h:pN a1 a2 a3 a4 a5 a6=some ((r15,r16),r17)):aU PP 44 [] [D.agg ([D.bool a1,ah a2,ah a3]),D.agg ([D.bool a4,ah a5,ah a6])] [] (D.agg ([D.bool r15,ah r16,ah r17])):=by
 unfold pN at h;refine .of Go.Proofs.Tryz.func44 rfl (by kernel_rfl) rfl rfl rfl rfl rfl rfl (fun A w0 L b=>?_);show Ok PP _ [(0,D.agg ([D.bool a1,ah a2,ah a3])),(1,D.agg ([D.bool a4,ah a5,ah a6]))] [] _ _;refine .ak (.jJ rfl rfl<|.jJ rfl rfl<|.fV ([D.bool false,ah 0,ah 0]) aB ⟨.refl _,aQ,aQ,trivial⟩ rfl<|.nil) rfl ?_;obtain⟨⟨⟨v7,v8⟩,v9⟩,e10,h⟩:=bind_some h;obtain⟨⟨⟨v11,v12⟩,v13⟩,e14,h⟩:=bind_some h;refine .dt cq (.cd ([D.bool a1,ah a2,ah a3]) rfl rfl aa rfl rfl<|.cd ([D.bool a4,ah a5,ah a6]) rfl rfl aa rfl rfl<|.ag (wK e10) ⟨rfl,trivial⟩ trivial trivial<|.ag (xm e14) ⟨rfl,rfl,trivial⟩ trivial trivial<|.cw ([D.bool v11,ah v12,ah v13]) rfl rfl rfl aa rfl rfl rfl<|.nil) rfl (by kernel_rfl) ?_;cases h;refine .aN (fun _ _ hb=>hb) rfl (.cons (.agg rfl rfl aa rfl) .nil) (.refl _) trivial trivial
def pJ(a1:Bool)(a2:Nat)(a3:Nat)(a4:Bool)(a5:Nat)(a6:Nat):Option ((Bool×Nat)×Nat):=(nU a2 a5).bind fun v7=>(cg (!(a1==a4)) v7).bind fun(v9,v10)=>(eG a1 a2 a3).bind fun v12=>(eG a4 a5 a6).bind fun v14=>(nU v12 v14).bind fun v16=>(dT v9 v10 v16).bind fun((v18,v19),v20)=>some ((v18,v19),v20)
theorem A1{a1:Bool}{a2:Nat}{a3:Nat}{a4:Bool}{a5:Nat}{a6:Nat}{r22:Bool}{r23:Nat}{r24:Nat}(h:pJ a1 a2 a3 a4 a5 a6=some ((r22,r23),r24)):aU PP 46 [] [D.agg ([D.bool a1,ah a2,ah a3]),D.agg ([D.bool a4,ah a5,ah a6])] [] (D.agg ([D.bool r22,ah r23,ah r24])):=by
 unfold pJ at h;refine .of Go.Proofs.Tryz.func46 rfl (by kernel_rfl) rfl rfl rfl rfl rfl rfl (fun A w0 L b=>?_);show Ok PP _ [(0,D.agg ([D.bool a1,ah a2,ah a3])),(1,D.agg ([D.bool a4,ah a5,ah a6]))] [] _ _;refine .ak (.jJ rfl rfl<|.jJ rfl rfl<|.fV ([D.bool false,ah 0,ah 0]) aB ⟨.refl _,aQ,aQ,trivial⟩ rfl<|.nil) rfl ?_;obtain⟨v7,e8,h⟩:=bind_some h;obtain⟨⟨v9,v10⟩,e11,h⟩:=bind_some h;obtain⟨v12,e13,h⟩:=bind_some h;obtain⟨v14,e15,h⟩:=bind_some h;obtain⟨v16,e17,h⟩:=bind_some h;obtain⟨⟨⟨v18,v19⟩,v20⟩,e21,h⟩:=bind_some h;refine .dt cq (.fa rfl bF<|.fa rfl aJ<|.bH (D.bool a1) rfl rfl bS rfl<|.fa rfl bF<|.fa rfl aJ<|.bH (D.bool a4) rfl rfl bS rfl<|.bc jk rfl rfl rfl<|.fa rfl bF<|.fa rfl aD<|.bH (ah a2) rfl rfl aL rfl<|.fa rfl bF<|.fa rfl aD<|.bH (ah a5) rfl rfl aL rfl<|.ag (qg e8) ⟨rfl,rfl,trivial⟩ trivial trivial<|.ag (dN e11) ⟨rfl,rfl,trivial⟩ trivial trivial<|.cd ([D.bool a1,ah a2,ah a3]) rfl rfl aa rfl rfl<|.ag (gf e13) ⟨rfl,trivial⟩ trivial trivial<|.cd ([D.bool a4,ah a5,ah a6]) rfl rfl aa rfl rfl<|.ag (gf e15) ⟨rfl,trivial⟩ trivial trivial<|.ag (qg e17) ⟨rfl,rfl,trivial⟩ trivial trivial<|.ag (jz e21) ⟨rfl,rfl,trivial⟩ trivial trivial<|.cw ([D.bool v18,ah v19,ah v20]) rfl rfl rfl aa rfl rfl rfl<|.nil) rfl (by kernel_rfl) ?_;cases h;refine .aN (fun _ _ hb=>hb) rfl (.cons (.agg rfl rfl aa rfl) .nil) (.refl _) trivial trivial
def ko(a1:Bool)(a2:Nat)(a3:Nat)(a4:Bool)(a5:Nat)(a6:Nat):Option ((Bool×Nat)×Nat):=(eG a4 a5 a6).bind fun v7=>(nU a2 v7).bind fun v9=>(cg (!(a1==a4)) v9).bind fun(v11,v12)=>(eG a1 a2 a3).bind fun v14=>(nU v14 a5).bind fun v16=>(dT v11 v12 v16).bind fun((v18,v19),v20)=>some ((v18,v19),v20)
theorem uL{a1:Bool}{a2:Nat}{a3:Nat}{a4:Bool}{a5:Nat}{a6:Nat}{r22:Bool}{r23:Nat}{r24:Nat}(h:ko a1 a2 a3 a4 a5 a6=some ((r22,r23),r24)):aU PP 164 [] [D.agg ([D.bool a1,ah a2,ah a3]),D.agg ([D.bool a4,ah a5,ah a6])] [] (D.agg ([D.bool r22,ah r23,ah r24])):=by
 unfold ko at h;refine .of Go.Proofs.Tryz.func164 rfl (by kernel_rfl) rfl rfl rfl rfl rfl rfl (fun A w0 L b=>?_);show Ok PP _ [(0,D.agg ([D.bool a1,ah a2,ah a3])),(1,D.agg ([D.bool a4,ah a5,ah a6]))] [] _ _;refine .ak (.jJ rfl rfl<|.jJ rfl rfl<|.fV ([D.bool false,ah 0,ah 0]) aB ⟨.refl _,aQ,aQ,trivial⟩ rfl<|.nil) rfl ?_;obtain⟨v7,e8,h⟩:=bind_some h;obtain⟨v9,e10,h⟩:=bind_some h;obtain⟨⟨v11,v12⟩,e13,h⟩:=bind_some h;obtain⟨v14,e15,h⟩:=bind_some h;obtain⟨v16,e17,h⟩:=bind_some h;obtain⟨⟨⟨v18,v19⟩,v20⟩,e21,h⟩:=bind_some h;refine .dt cq (.fa rfl bF<|.fa rfl aJ<|.bH (D.bool a1) rfl rfl bS rfl<|.fa rfl bF<|.fa rfl aJ<|.bH (D.bool a4) rfl rfl bS rfl<|.bc jk rfl rfl rfl<|.fa rfl bF<|.fa rfl aD<|.bH (ah a2) rfl rfl aL rfl<|.cd ([D.bool a4,ah a5,ah a6]) rfl rfl aa rfl rfl<|.ag (gf e8) ⟨rfl,trivial⟩ trivial trivial<|.ag (qg e10) ⟨rfl,rfl,trivial⟩ trivial trivial<|.ag (dN e13) ⟨rfl,rfl,trivial⟩ trivial trivial<|.cd ([D.bool a1,ah a2,ah a3]) rfl rfl aa rfl rfl<|.ag (gf e15) ⟨rfl,trivial⟩ trivial trivial<|.fa rfl bF<|.fa rfl aD<|.bH (ah a5) rfl rfl aL rfl<|.ag (qg e17) ⟨rfl,rfl,trivial⟩ trivial trivial<|.ag (jz e21) ⟨rfl,rfl,trivial⟩ trivial trivial<|.cw ([D.bool v18,ah v19,ah v20]) rfl rfl rfl aa rfl rfl rfl<|.nil) rfl (by kernel_rfl) ?_;cases h;refine .aN (fun _ _ hb=>hb) rfl (.cons (.agg rfl rfl aa rfl) .nil) (.refl _) trivial trivial
def lC(a1:Bool)(a2:Nat)(a3:Nat):Option Int:=(gW a1 a2).bind fun v4=>some v4
theorem uF{a1:Bool}{a2:Nat}{a3:Nat}{r6:Int}(h:lC a1 a2 a3=some r6):aU PP 24 [] [D.agg ([D.bool a1,ah a2,ah a3])] [] (D.int .i64 r6):=by
 unfold lC at h;refine .of Go.Proofs.Tryz.func24 rfl (by kernel_rfl) rfl rfl rfl rfl rfl rfl (fun A w0 L b=>?_);show Ok PP _ [(0,D.agg ([D.bool a1,ah a2,ah a3]))] [] _ _;refine .ak (.jJ rfl rfl<|.au rfl<|.nil) rfl ?_;obtain⟨v4,e5,h⟩:=bind_some h;refine .ak (.fa rfl bF<|.cd ([D.bool a1,ah a2]) rfl rfl aZ rfl rfl<|.ag (tq e5) ⟨rfl,trivial⟩ trivial trivial<|.au rfl<|.nil) rfl ?_;cases h;refine .aN (fun _ _ hb=>hb) rfl (.t1 (.tmp rfl)) (.refl _) trivial trivial
def px(a1:Bool)(a2:Nat)(a3:Nat):Option ((Bool×Nat)×Nat):=(cg false a2).bind fun(v4,v5)=>some ((v4,v5),a3)
theorem A4{a1:Bool}{a2:Nat}{a3:Nat}{r7:Bool}{r8:Nat}{r9:Nat}(h:px a1 a2 a3=some ((r7,r8),r9)):aU PP 50 [] [D.agg ([D.bool a1,ah a2,ah a3])] [] (D.agg ([D.bool r7,ah r8,ah r9])):=by
 unfold px at h;refine .of Go.Proofs.Tryz.func50 rfl (by kernel_rfl) rfl rfl rfl rfl rfl rfl (fun A w0 L b=>?_);show Ok PP _ [(0,D.agg ([D.bool a1,ah a2,ah a3]))] [] _ _;refine .ak (.jJ rfl rfl<|.fV ([D.bool false,ah 0,ah 0]) aB ⟨.refl _,aQ,aQ,trivial⟩ rfl<|.nil) rfl ?_;obtain⟨⟨v4,v5⟩,e6,h⟩:=bind_some h;refine .dt cq (.fa rfl bF<|.fa rfl aD<|.bH (ah a2) rfl rfl aL rfl<|.ag (dN e6) ⟨rfl,rfl,trivial⟩ trivial trivial<|.fa rfl jP<|.bH (ah a3) rfl rfl aL rfl<|.oh ([D.bool v4,ah v5,ah a3]) [(0,_,D.agg ([D.bool v4,ah v5]),[D.bool v4,ah v5]),(2,_,ah a3,[ah a3])] aB cB ⟨rfl,rfl,.agg _,rfl,rfl,rfl,.one rfl,rfl,trivial⟩ ⟨rfl,rfl,trivial⟩ ⟨.refl _,.refl _,.refl _,trivial⟩<|.cw ([D.bool v4,ah v5,ah a3]) rfl rfl rfl aa rfl rfl rfl<|.nil) rfl (by kernel_rfl) ?_;cases h;refine .aN (fun _ _ hb=>hb) rfl (.cons (.agg rfl rfl aa rfl) .nil) (.refl _) trivial trivial
def pv(a1:Bool)(a2:Nat)(a3:Nat)(a4:Bool)(a5:Nat)(a6:Nat):Option Int:=(eG a4 a5 a6).bind fun v7=>(dK a1 a2 v7).bind fun(v9,v10)=>(eG a1 a2 a3).bind fun v12=>(dK a4 a5 v12).bind fun(v14,v15)=>(iV v9 v10 v14 v15).bind fun v17=>some v17
theorem Bk{a1:Bool}{a2:Nat}{a3:Nat}{a4:Bool}{a5:Nat}{a6:Nat}{r19:Int}(h:pv a1 a2 a3 a4 a5 a6=some r19):aU PP 35 [] [D.agg ([D.bool a1,ah a2,ah a3]),D.agg ([D.bool a4,ah a5,ah a6])] [] (D.int .i64 r19):=by
 unfold pv at h;refine .of Go.Proofs.Tryz.func35 rfl (by kernel_rfl) rfl rfl rfl rfl rfl rfl (fun A w0 L b=>?_);show Ok PP _ [(0,D.agg ([D.bool a1,ah a2,ah a3])),(1,D.agg ([D.bool a4,ah a5,ah a6]))] [] _ _;refine .ak (.jJ rfl rfl<|.jJ rfl rfl<|.au rfl<|.nil) rfl ?_;obtain⟨v7,e8,h⟩:=bind_some h;obtain⟨⟨v9,v10⟩,e11,h⟩:=bind_some h;obtain⟨v12,e13,h⟩:=bind_some h;obtain⟨⟨v14,v15⟩,e16,h⟩:=bind_some h;obtain⟨v17,e18,h⟩:=bind_some h;refine .dt cq (.fa rfl bF<|.cd ([D.bool a1,ah a2]) rfl rfl aZ rfl rfl<|.cd ([D.bool a4,ah a5,ah a6]) rfl rfl aa rfl rfl<|.ag (gf e8) ⟨rfl,trivial⟩ trivial trivial<|.ag (iI e11) ⟨rfl,rfl,trivial⟩ trivial trivial<|.fa rfl bF<|.cd ([D.bool a4,ah a5]) rfl rfl aZ rfl rfl<|.cd ([D.bool a1,ah a2,ah a3]) rfl rfl aa rfl rfl<|.ag (gf e13) ⟨rfl,trivial⟩ trivial trivial<|.ag (iI e16) ⟨rfl,rfl,trivial⟩ trivial trivial<|.ag (uT e18) ⟨rfl,rfl,trivial⟩ trivial trivial<|.au rfl<|.nil) rfl (by kernel_rfl) ?_;cases h;refine .aN (fun _ _ hb=>hb) rfl (.t1 (.tmp rfl)) (.refl _) trivial trivial
def pH(a1:Bool)(a2:Nat)(a3:Nat):Option ((Bool×Nat)×Nat):=(eG a1 a2 a3).bind fun v4=>(rJ false v4).bind fun((v6,v7),v8)=>some ((v6,v7),v8)
theorem B5{a1:Bool}{a2:Nat}{a3:Nat}{r10:Bool}{r11:Nat}{r12:Nat}(h:pH a1 a2 a3=some ((r10,r11),r12)):aU PP 76 [] [D.agg ([D.bool a1,ah a2,ah a3])] [] (D.agg ([D.bool r10,ah r11,ah r12])):=by
 unfold pH at h;refine .of Go.Proofs.Tryz.func76 rfl (by kernel_rfl) rfl rfl rfl rfl rfl rfl (fun A w0 L b=>?_);show Ok PP _ [(0,D.agg ([D.bool a1,ah a2,ah a3]))] [] _ _;refine .ak (.jJ rfl rfl<|.fV ([D.bool false,ah 0,ah 0]) aB ⟨.refl _,aQ,aQ,trivial⟩ rfl<|.nil) rfl ?_;obtain⟨v4,e5,h⟩:=bind_some h;obtain⟨⟨⟨v6,v7⟩,v8⟩,e9,h⟩:=bind_some h;refine .ak (.cd ([D.bool a1,ah a2,ah a3]) rfl rfl aa rfl rfl<|.ag (gf e5) ⟨rfl,trivial⟩ trivial trivial<|.oh ([D.bool false,ah v4]) [(1,_,ah v4,[ah v4])] dm fH ⟨rfl,rfl,.one rfl,rfl,trivial⟩ ⟨rfl,trivial⟩ ⟨.refl _,.refl _,trivial⟩<|.ag (z7 e9) ⟨rfl,trivial⟩ trivial trivial<|.cw ([D.bool v6,ah v7,ah v8]) rfl rfl rfl aa rfl rfl rfl<|.nil) rfl ?_;cases h;refine .aN (fun _ _ hb=>hb) rfl (.cons (.agg rfl rfl aa rfl) .nil) (.refl _) trivial trivial
def mn(a1:Bool)(a2:Nat)(a3:Nat):Option ((Bool×Nat)×Nat):=(eG a1 a2 a3).bind fun v4=>(f_ a1 a2 v4).bind fun(v6,v7)=>(rJ v6 v7).bind fun((v9,v10),v11)=>some ((v9,v10),v11)
theorem yb{a1:Bool}{a2:Nat}{a3:Nat}{r13:Bool}{r14:Nat}{r15:Nat}(h:mn a1 a2 a3=some ((r13,r14),r15)):aU PP 78 [] [D.agg ([D.bool a1,ah a2,ah a3])] [] (D.agg ([D.bool r13,ah r14,ah r15])):=by
 unfold mn at h;refine .of Go.Proofs.Tryz.func78 rfl (by kernel_rfl) rfl rfl rfl rfl rfl rfl (fun A w0 L b=>?_);show Ok PP _ [(0,D.agg ([D.bool a1,ah a2,ah a3]))] [] _ _;refine .ak (.jJ rfl rfl<|.fV ([D.bool false,ah 0,ah 0]) aB ⟨.refl _,aQ,aQ,trivial⟩ rfl<|.nil) rfl ?_;obtain⟨v4,e5,h⟩:=bind_some h;obtain⟨⟨v6,v7⟩,e8,h⟩:=bind_some h;obtain⟨⟨⟨v9,v10⟩,v11⟩,e12,h⟩:=bind_some h;refine .dt cq (.fa rfl bF<|.cd ([D.bool a1,ah a2]) rfl rfl aZ rfl rfl<|.cd ([D.bool a1,ah a2,ah a3]) rfl rfl aa rfl rfl<|.ag (gf e5) ⟨rfl,trivial⟩ trivial trivial<|.ag (rM e8) ⟨rfl,rfl,trivial⟩ trivial trivial<|.ag (z7 e12) ⟨rfl,trivial⟩ trivial trivial<|.cw ([D.bool v9,ah v10,ah v11]) rfl rfl rfl aa rfl rfl rfl<|.nil) rfl (by kernel_rfl) ?_;cases h;refine .aN (fun _ _ hb=>hb) rfl (.cons (.agg rfl rfl aa rfl) .nil) (.refl _) trivial trivial
def oD(a1:Int):Option ((Bool×Nat)×Nat):=(kO 1).bind fun v2=>(sR v2 a1).bind fun v4=>(rJ false v4).bind fun((v6,v7),v8)=>some ((v6,v7),v8)
theorem CK{a1:Int}{r10:Bool}{r11:Nat}{r12:Nat}(h:oD a1=some ((r10,r11),r12)):aU PP 171 [] [D.int .i64 a1] [] (D.agg ([D.bool r10,ah r11,ah r12])):=by
 unfold oD at h;refine .of Go.Proofs.Tryz.func171 rfl (by kernel_rfl) rfl rfl rfl rfl rfl rfl (fun A w0 L b=>?_);show Ok PP _ [(0,D.int .i64 a1)] [] _ _;refine .ak (.fV ([D.bool false,ah 0,ah 0]) aB ⟨.refl _,aQ,aQ,trivial⟩ rfl<|.nil) rfl ?_;obtain⟨v2,e3,h⟩:=bind_some h;obtain⟨v4,e5,h⟩:=bind_some h;obtain⟨⟨⟨v6,v7⟩,v8⟩,e9,h⟩:=bind_some h;refine .ak (.ag (rB e3) ⟨rfl,trivial⟩ trivial trivial<|.mv rfl<|.ag (zA e5) ⟨rfl,rfl,trivial⟩ trivial trivial<|.oh ([D.bool false,ah v4]) [(1,_,ah v4,[ah v4])] dm fH ⟨rfl,rfl,.one rfl,rfl,trivial⟩ ⟨rfl,trivial⟩ ⟨.refl _,.refl _,trivial⟩<|.ag (z7 e9) ⟨rfl,trivial⟩ trivial trivial<|.cw ([D.bool v6,ah v7,ah v8]) rfl rfl rfl aa rfl rfl rfl<|.nil) rfl ?_;cases h;refine .aN (fun _ _ hb=>hb) rfl (.cons (.agg rfl rfl aa rfl) .nil) (.refl _) trivial trivial
def n0(a1:Bool)(a2:Nat)(a3:Nat)(a4:Int):Option (((Bool×Nat)×Nat)×Int):=(if(decide (a4<0))=true then some (((false,0),0),3)else(if(decide (a4>64))=true then some (((false,0),0),3)else(lC a1 a2 a3).bind fun v7=>(if(decide (v7<0))=true then some (((false,0),0),8)else(sR a2 (IntKind.i64.wrap (2*a4))).bind fun v10=>(eG a1 a2 a3).bind fun v12=>(jG v10 v12).bind fun(v14,v15)=>(vH v14).bind fun v17=>(rJ false v17).bind fun((v19,v20),v21)=>(oD a4).bind fun((v23,v24),v25)=>(ko v19 v20 v21 v23 v24 v25).bind fun((v27,v28),v29)=>some (((v27,v28),v29),0))))
theorem qJ{a1:Bool}{a2:Nat}{a3:Nat}{a4:Int}{r31:Bool}{r32:Nat}{r33:Nat}{r34:Int}(h:n0 a1 a2 a3 a4=some (((r31,r32),r33),r34)):aU PP 29 [] [D.agg ([D.bool a1,ah a2,ah a3]),D.int .i64 a4] [] (D.fU [D.agg ([D.bool r31,ah r32,ah r33]),D.int .i64 r34]):=by
 unfold n0 at h;refine .of Go.Proofs.Tryz.func29 rfl (by kernel_rfl) rfl rfl rfl rfl rfl rfl (fun A w0 L b=>?_);show Ok PP _ [(0,D.agg ([D.bool a1,ah a2,ah a3])),(1,D.int .i64 a4)] [] _ _;refine .ak (.jJ rfl rfl<|.fV ([D.bool false,ah 0,ah 0]) aB ⟨.refl _,aQ,aQ,trivial⟩ rfl<|.au rfl<|.nil) rfl ?_;refine .sq ?_;refine .block ?_;by_cases c5:(decide (a4<0))=true
 ·replace h:=ae c5 h;refine .ak (.mv rfl<|.cm rfl rfl rfl<|.mv rfl<|.gk c5<|.gk c5<|.bw rfl c5 rfl<|.au rfl<|.nil) rfl ?_;refine .cL rfl rfl ?_;refine .ak (.oh ([D.bool false,ah 0,ah 0]) [] aB cB trivial trivial ⟨.refl _,aQ,aQ,trivial⟩<|.cw ([D.bool false,ah 0,ah 0]) rfl rfl rfl aa rfl rfl rfl<|.au rfl<|.nil) rfl ?_;cases h;refine .aN (fun _ _ hb=>hb) rfl (.cons (.agg rfl rfl aa rfl) (.t1 (.tmp rfl))) (.refl _) trivial trivial
 ·replace h:=ab c5 h;refine .ak (.mv rfl<|.cm rfl rfl rfl<|.mv rfl<|.gz c5<|.mv rfl<|.gz c5<|.cm rfl rfl rfl<|.br rfl c5 rfl<|.au rfl<|.nil) rfl ?_;by_cases c6:(decide (a4>64))=true
  ·replace h:=ae c6 h;refine .cL rfl c6 ?_;refine .ak (.oh ([D.bool false,ah 0,ah 0]) [] aB cB trivial trivial ⟨.refl _,aQ,aQ,trivial⟩<|.cw ([D.bool false,ah 0,ah 0]) rfl rfl rfl aa rfl rfl rfl<|.au rfl<|.nil) rfl ?_;cases h;refine .aN (fun _ _ hb=>hb) rfl (.cons (.agg rfl rfl aa rfl) (.t1 (.tmp rfl))) (.refl _) trivial trivial
  ·replace h:=ab c6 h;refine .c_ rfl c6 ?_;obtain⟨v7,e8,h⟩:=bind_some h;refine .ak (.cd ([D.bool a1,ah a2,ah a3]) rfl rfl aa rfl rfl<|.ag (uF e8) ⟨rfl,trivial⟩ trivial trivial<|.cm rfl rfl rfl<|.au rfl<|.nil) rfl ?_;by_cases c9:(decide (v7<0))=true
   ·replace h:=ae c9 h;refine .cL rfl c9 ?_;refine .ak (.oh ([D.bool false,ah 0,ah 0]) [] aB cB trivial trivial ⟨.refl _,aQ,aQ,trivial⟩<|.cw ([D.bool false,ah 0,ah 0]) rfl rfl rfl aa rfl rfl rfl<|.au rfl<|.nil) rfl ?_;cases h;refine .aN (fun _ _ hb=>hb) rfl (.cons (.agg rfl rfl aa rfl) (.t1 (.tmp rfl))) (.refl _) trivial trivial
   ·replace h:=ab c9 h;refine .c_ rfl c9 ?_;refine .skip (Ok.on ?_);obtain⟨v10,e11,h⟩:=bind_some h;obtain⟨v12,e13,h⟩:=bind_some h;obtain⟨⟨v14,v15⟩,e16,h⟩:=bind_some h;refine .dt cq (.fa rfl bF<|.fa rfl aD<|.bH (ah a2) rfl rfl aL rfl<|.mv rfl<|.ar rfl rfl rfl<|.ag (zA e11) ⟨rfl,rfl,trivial⟩ trivial trivial<|.cd ([D.bool a1,ah a2,ah a3]) rfl rfl aa rfl rfl<|.ag (gf e13) ⟨rfl,trivial⟩ trivial trivial<|.ag (pc e16) ⟨rfl,rfl,trivial⟩ trivial trivial<|.mv rfl<|.ext rfl rfl<|.ext rfl rfl<|.au rfl<|.au rfl<|.nil) rfl (by kernel_rfl) ?_;obtain⟨v17,e18,h⟩:=bind_some h;obtain⟨⟨⟨v19,v20⟩,v21⟩,e22,h⟩:=bind_some h;obtain⟨⟨⟨v23,v24⟩,v25⟩,e26,h⟩:=bind_some h;obtain⟨⟨⟨v27,v28⟩,v29⟩,e30,h⟩:=bind_some h;refine .ak (.mv rfl<|.ag (Dj e18) ⟨rfl,trivial⟩ trivial trivial<|.oh ([D.bool false,ah v17]) [(1,_,ah v17,[ah v17])] dm fH ⟨rfl,rfl,.one rfl,rfl,trivial⟩ ⟨rfl,trivial⟩ ⟨.refl _,.refl _,trivial⟩<|.ag (z7 e22) ⟨rfl,trivial⟩ trivial trivial<|.mv rfl<|.ag (CK e26) ⟨rfl,trivial⟩ trivial trivial<|.ag (uL e30) ⟨rfl,rfl,trivial⟩ trivial trivial<|.cw ([D.bool v27,ah v28,ah v29]) rfl rfl rfl aa rfl rfl rfl<|.au rfl<|.nil) rfl ?_;cases h;refine .aN (fun _ _ hb=>hb) rfl (.cons (.agg rfl rfl aa rfl) (.t1 (.tmp rfl))) (.refl _) trivial trivial
end
end Go.Am
namespace Go.Am
open Go.RowKit
theorem cr{x y m n:Nat}(h:bn x<=m)(k:bn y<=n):bn (x*y)<=m+n:=by
 rw[fE]at*;rw[Nat.pow_add];exact Nat.mul_lt_mul'' h k
theorem kW{x y:Int}{n:Nat}(h:bn x.natAbs<=n)(k:bn y.natAbs<=n):bn (x+y).natAbs<=n+1:=
 Nat.le_trans (cE (Int.natAbs_add_le x y)) (p5 h k)
def sg(neg:Bool)(n:Nat):Int:=if neg then-(n:Int)else n
theorem Bs(z:Int):sg (decide (z<0)) z.natAbs=z:=by
 unfold sg;by_cases h:z<0
 ·rw[decide_eq_true h,if_pos rfl];omega
 ·rw[decide_eq_false h,if_neg (by decide)];omega
theorem ll(neg:Bool)(n:Nat):(sg neg n).natAbs=n:=by unfold sg;split<;>omega
theorem vV(z w:Int):sg (!(decide (z<0)==decide (w<0))) (z.natAbs*w.natAbs)=z*w:=by
 unfold sg;rcases Int.lt_or_le z 0 with h|h<;>rcases Int.lt_or_le w 0 with k|k
 ·rw[decide_eq_true h,decide_eq_true k,if_neg (by decide)];rw[Int.natCast_mul,Int.ofNat_natAbs_of_nonpos (Int.le_of_lt h),Int.ofNat_natAbs_of_nonpos (Int.le_of_lt k),Int.neg_mul_neg]
 ·rw[decide_eq_true h,decide_eq_false (by omega),if_pos (by decide)];rw[Int.natCast_mul,Int.ofNat_natAbs_of_nonpos (Int.le_of_lt h),Int.natAbs_of_nonneg k,Int.neg_mul,Int.neg_neg]
 ·rw[decide_eq_false (by omega),decide_eq_true k,if_pos (by decide)];rw[Int.natCast_mul,Int.natAbs_of_nonneg h,Int.ofNat_natAbs_of_nonpos (Int.le_of_lt k),Int.mul_neg,Int.neg_neg]
 ·rw[decide_eq_false (by omega),decide_eq_false (by omega),if_neg (by decide)];rw[Int.natCast_mul,Int.natAbs_of_nonneg h,Int.natAbs_of_nonneg k]
theorem B_(z:Int)(d:Nat):sg (decide (z<0)) (z.natAbs*d)=z*d:=by
 have:=vV z d;rw[show decide ((d:Int)<0)=false from decide_eq_false (by omega)]at this;rw[←this];cases decide (z<0)<;>rfl
theorem yQ(z:Int):sg (!decide (z<0)) z.natAbs=-z:=by
 unfold sg;by_cases h:z<0
 ·rw[decide_eq_true h,if_neg (by decide)];omega
 ·rw[decide_eq_false h,if_pos (by decide)];omega
theorem lE(n:Nat):decide (((ay n).length:Int)>0)=decide (n≠0):=by
 by_cases h:n=0
 ·subst h;rw[cu];rfl
 ·have:=cn h;rw[decide_eq_true (by omega),decide_eq_true h]
theorem nF(n:Nat):(((ay n).length:Int)==0)=decide (n=0):=by
 by_cases h:n=0
 ·subst h;rw[cu];rfl
 ·have:=cn h;rw[decide_eq_false h,beq_eq_false_iff_ne];omega
theorem di(neg:Bool)(n:Nat):cg neg n=some (decide (sg neg n<0),(sg neg n).natAbs):=by
 unfold cg;rw[ll,lE];cases neg
 ·rw[if_neg (by decide)];unfold sg;rw[if_neg (by decide),decide_eq_false (by omega)]
 ·rw[if_pos rfl];unfold sg;rw[if_pos rfl];by_cases h:n=0
  ·subst h;rfl
  ·rw[decide_eq_true h,decide_eq_true (by omega)]
theorem rA(z:Int):gW (decide (z<0)) z.natAbs=some (if z<0 then-1 else if z=0 then 0 else 1):=by
 unfold gW;rw[nF];by_cases h:z<0
 ·rw[if_pos (decide_eq_true h),if_pos h]
 ·rw[if_neg (by simpa using h),if_neg h];by_cases h0:z=0
  ·subst h0;rfl
  ·rw[if_neg (by simpa using h0),if_neg h0]
theorem tO(z w:Int)(hz:sm z.natAbs)(hw:sm w.natAbs):iY (decide (z<0)) z.natAbs (decide (w<0)) w.natAbs=some (decide (z+w<0),(z+w).natAbs):=by
 unfold iY;have e1:∀(neg:Bool) (n:Nat),sg neg n=z+w->cg neg n=some (decide (z+w<0),(z+w).natAbs):=fun neg n h=>by rw[di,h]
 by_cases hs:(decide (z<0)==decide (w<0))=true
 ·rw[if_pos hs,nW hz hw,Option.bind_some,e1]
  ·rfl
  ·unfold sg;rw[beq_iff_eq]at hs;by_cases h:z<0
   ·rw[decide_eq_true h]at*;have hs:=of_decide_eq_true hs.symm;rw[if_pos rfl];omega
   ·rw[decide_eq_false h]at*;have hs:=of_decide_eq_false hs.symm;rw[if_neg (by decide)];omega
 ·rw[if_neg hs,n9 hz hw,Option.bind_some];have hs2:(z<0/\0<=w)\/(0<=z/\w<0):=by
   rw[beq_iff_eq]at hs;by_cases h:z<0<;>by_cases k:w<0
   ·rw[decide_eq_true h,decide_eq_true k]at hs;exact absurd rfl hs
   ·left;omega
   ·right;omega
   ·rw[decide_eq_false h,decide_eq_false k]at hs;exact absurd rfl hs
  by_cases hc:w.natAbs<=z.natAbs
  ·rw[if_pos (decide_eq_true (rh hc)),qm hc hz,Option.bind_some,e1]
   ·rfl
   ·unfold sg;split<;>rename_i h<;>simp only[decide_eq_true_eq]at h<;>omega
  ·have:fl z.natAbs w.natAbs=-1:=by unfold fl;rw[if_pos (by omega)]
   rw[this,if_neg (by decide),qm (by omega) hw,Option.bind_some,e1]
   ·rfl
   ·unfold sg;split<;>rename_i h<;>simp only[decide_eq_true_eq]at h<;>omega
theorem g_(z:Int)(d:Nat)(hz:sm z.natAbs)(hd:sm d):dK (decide (z<0)) z.natAbs d=some (decide (z*d<0),(z*d).natAbs):=by
 unfold dK;rw[jE hz hd,Option.bind_some,di,B_];rfl
def AX(z w:Int):Int:=if z<w then-1 else if w<z then 1 else 0
theorem tF(z w:Int)(hz:sm z.natAbs)(hw:sm w.natAbs):iV (decide (z<0)) z.natAbs (decide (w<0)) w.natAbs=some (AX z w):=by
 unfold iV AX;by_cases h:z<0<;>by_cases k:w<0
 ·rw[decide_eq_true h,decide_eq_true k,if_neg (by decide),if_pos rfl,n9 hw hz];simp only[Option.bind_some,fl];congr 1;split<;>split<;>(try split)<;>(try split)<;>omega
 ·rw[decide_eq_true h,decide_eq_false k,if_pos (by decide),if_pos rfl,if_pos (by omega)]
 ·rw[decide_eq_false h,decide_eq_true k,if_pos (by decide),if_neg (by decide),if_neg (by omega),if_pos (by omega)]
 ·rw[decide_eq_false h,decide_eq_false k,if_neg (by decide),if_neg (by decide),n9 hz hw];simp only[Option.bind_some,fl];congr 1;split<;>split<;>(try split)<;>(try split)<;>omega
theorem pY(z:Int)(d:Nat)(h0:d≠0)(hz:sm z.natAbs)(hd:sm d):f_ (decide (z<0)) z.natAbs d=some (decide (z/d<0),(z/d).natAbs):=by
 unfold f_;rw[gM h0 hz hd,Option.bind_some];simp only;have hm:=Nat.div_add_mod z.natAbs d;have hlt:=Nat.mod_lt z.natAbs (Nat.pos_of_ne_zero h0);have hq:sm (z.natAbs/d):=k_ (Nat.div_le_self _ _) hz;have e1:kO (1:Int)=some 1:=jf (n:=1) (by omega);rw[e1,lE];have hsm1:sm 1:=jA (by omega);by_cases h:z<0
 ·rw[decide_eq_true h,if_pos rfl];by_cases hr:z.natAbs%d=0
  ·rw[if_neg (by simpa using hr),Option.bind_some,di];have:sg true (z.natAbs/d)=z/d:=by
    unfold sg;rw[if_pos rfl]
    symm;apply Int.ediv_eq_of_eq_mul_left (by omega)
    rw[Int.neg_mul,←Int.natCast_mul,Nat.mul_comm];omega
   rw[this];rfl
  ·rw[if_pos (by simpa using hr),Option.bind_some,nW hq hsm1,Option.bind_some,Option.bind_some,di];have:sg true (z.natAbs/d+1)=z/d:=by
    unfold sg;rw[if_pos rfl]
    symm
    have e:z=(((d-z.natAbs%d:Nat)):Int)+(d:Int)*(-((z.natAbs/d+1:Nat):Int)):=by
     have:((d*(z.natAbs/d):Nat):Int)=(d:Int)*((z.natAbs/d:Nat):Int):=Int.natCast_mul _ _;rw[Int.mul_neg,Int.natCast_add,Int.mul_add];omega
    rw[e,Int.add_mul_ediv_left _ _ (by omega),Int.ediv_eq_zero_of_lt (by omega) (by omega)];rw[←e];omega
   rw[this];rfl
 ·rw[decide_eq_false h,if_neg (by decide),Option.bind_some,di];have:sg false (z.natAbs/d)=z/d:=by
   unfold sg;rw[if_neg (by decide),Int.natCast_ediv];congr 1;omega
  rw[this];rfl
theorem kL(n:Int)(h:eh n):fJ n=some n.natAbs:=by
 unfold fJ;obtain⟨h0,h1⟩:=h;by_cases hn:n<0
 ·have e1:IntKind.u64.wrap (0-IntKind.u64.wrap n)=((n.natAbs:Nat):Int):=by
   rw[IntKind.wrap_u64,IntKind.wrap_u64];omega
  rw[if_pos (decide_eq_true hn),e1,jf (by omega)];rfl
 ·have e1:IntKind.u64.wrap n=((n.natAbs:Nat):Int):=by rw[IntKind.wrap_u64];omega
  rw[if_neg (by simpa using hn),e1,jf (by omega)];rfl
end Go.Am
namespace Go.Am
open Go.RowKit
abbrev rp(x:Rat):(Bool×Nat)×Nat:=((decide (x.num<0),x.num.natAbs),x.den-1)
theorem yK{g:Nat}(h:g≠0):ix (ay g) 0=some (g%4294967296):=by
 rw[jD h];rfl
theorem rm(z:Int)(d:Nat)(hd:d≠0):(mkRat z d).num=z/((Nat.gcd z.natAbs d:Nat):Int)/\(mkRat z d).den=d/Nat.gcd z.natAbs d:=by
 rw[Rat.num_mkRat,Rat.den_mkRat,if_neg hd,if_neg hd,Nat.gcd_comm];exact⟨rfl,rfl⟩
theorem zZ(z:Int)(g:Nat)(hg:g∣z.natAbs):sg (decide (z<0)) (z.natAbs/g)=z/(g:Int):=by
 obtain⟨k,hk⟩:=hg;rcases Nat.eq_zero_or_pos g with h0|h0
 ·subst h0;rw[Nat.zero_mul]at hk;have:z=0:=by omega
  subst this;rfl
 rw[hk,Nat.mul_div_cancel_left _ h0];unfold sg;by_cases h:z<0
 ·rw[decide_eq_true h,if_pos rfl]
  symm;apply Int.ediv_eq_of_eq_mul_right (by omega)
  rw[Int.mul_neg,←Int.natCast_mul];omega
 ·rw[decide_eq_false h,if_neg (by decide)]
  symm;apply Int.ediv_eq_of_eq_mul_right (by omega)
  rw[←Int.natCast_mul];omega
theorem i5(z:Int)(d:Nat)(hd:d≠0)(hz:sm z.natAbs)(hs:sm d):dT (decide (z<0)) z.natAbs d=some (rp (mkRat z d)):=by
 obtain⟨e1,e2⟩:=rm z d hd;unfold dT rp;rw[zW hz hs,Option.bind_some,e1,e2];have hg0:Nat.gcd z.natAbs d≠0:=fun h=>hd (Nat.eq_zero_of_gcd_eq_zero_right h);have hgd:Nat.gcd z.natAbs d∣d:=Nat.gcd_dvd_right _ _;have hgs:sm (Nat.gcd z.natAbs d):=k_ (Nat.le_of_dvd (Nat.pos_of_ne_zero hd) hgd) hs;have hsg:=zZ z _ (Nat.gcd_dvd_left z.natAbs d);have hq1:d/Nat.gcd z.natAbs d≠0:=Nat.pos_iff_ne_zero.1 (Nat.div_pos (Nat.le_of_dvd (Nat.pos_of_ne_zero hd) hgd) (Nat.pos_of_ne_zero hg0));have hq2:sm (d/Nat.gcd z.natAbs d):=k_ (Nat.div_le_self _ _) hs;generalize Nat.gcd z.natAbs d=g at*;have dg:(if(((ay g).length:Int) !=1)=true then(jG z.natAbs g).bind fun(v9,v10)=>(jG d g).bind fun(v12,v13)=>some ((v12,v9))else(ix (ay g) 0).bind fun v15=>(if((v15:Int) !=1)=true then(jG z.natAbs g).bind fun(v18,v19)=>(jG d g).bind fun(v21,v22)=>some ((v21,v18))else some ((d,z.natAbs))))=some (d/g,z.natAbs/g):=by
  by_cases h1:(((ay g).length:Int) !=1)=true
  ·rw[if_pos h1,gM hg0 hz hgs,Option.bind_some];dsimp only;rw[gM hg0 hs hgs,Option.bind_some]
  ·rw[if_neg h1,yK hg0,Option.bind_some];by_cases h2:(((g%4294967296:Nat):Int) !=1)=true
   ·rw[if_pos h2,gM hg0 hz hgs,Option.bind_some];dsimp only;rw[gM hg0 hs hgs,Option.bind_some]
   ·rw[if_neg h2];have h3:(ay g).length=1:=by
     have:((ay g).length:Int)=1:=by simpa using h1
     omega
    have:=jY (x:=g);rw[h3]at this;have h4:g%4294967296=1:=by simp at h2;omega
    have:g=1:=by omega
    subst this;rw[Nat.div_one,Nat.div_one]
 rw[dg,Option.bind_some];simp only;rw[di,hsg,Option.bind_some];simp only;have e3:kO (1:Int)=some 1:=jf (n:=1) (by omega);rw[e3,Option.bind_some,qm (by omega) hq2];rfl
def qw(x:Rat):Prop:=sz x<=2000000000000
theorem km{x:Rat}(h:cJ x):qw x:=Nat.le_trans h (by omega)
theorem oO{x:Rat}(h:qw x):bn x.num.natAbs<=2000000000000:=Nat.le_trans (Nat.le_max_left _ _) h
theorem oz{x:Rat}(h:qw x):bn x.den<=2000000000000:=Nat.le_trans (Nat.le_max_right _ _) h
theorem il{x n:Nat}(h:bn x<=n)(k:n<=4398046511104):sm x:=Nat.le_trans h k
theorem iv{x:Rat}(h:qw x):sm x.num.natAbs:=il (oO h) (by omega)
theorem fT{x:Rat}(h:qw x):sm x.den:=il (oz h) (by omega)
theorem sv{a b:Rat}(h:qw a)(k:qw b):bn (a.num*b.den).natAbs<=4000000000000:=by
 rw[Int.natAbs_mul];exact Nat.le_trans (cr (oO h) (oz k)) (by omega)
theorem z8{a b:Rat}(h:qw a)(k:qw b):bn (a.den*b.den)<=4000000000000:=Nat.le_trans (cr (oz h) (oz k)) (by omega)
theorem CA{a b:Rat}(h:qw a)(k:qw b):bn (a.num*b.num).natAbs<=4000000000000:=by
 rw[Int.natAbs_mul];exact Nat.le_trans (cr (oO h) (oO k)) (by omega)
theorem fp(a:Rat)(neg:Bool)(n:Nat)(h:qw a):eG neg n (a.den-1)=some a.den:=by
 unfold eG;have e3:kO (1:Int)=some 1:=jf (n:=1) (by omega);have:=a.den_pos;rw[e3,Option.bind_some,nW (k_ (Nat.sub_le _ _) (fT h)) (jA (by omega)),Nat.sub_add_cancel this];rfl
theorem uy(a b:Rat)(h:qw a)(k:qw b):n5 (decide (a.num<0)) a.num.natAbs (a.den-1) (decide (b.num<0)) b.num.natAbs (b.den-1)=some (rp (a+b)):=by
 unfold n5;rw[fp a _ _ h,Option.bind_some,fp b _ _ k,Option.bind_some,g_ _ _ (iv h) (fT k),Option.bind_some];simp only;rw[g_ _ _ (iv k) (fT h),Option.bind_some];simp only;rw[tO _ _ (il (sv h k) (by omega)) (il (sv k h) (by omega)),Option.bind_some];simp only;rw[jE (fT h) (fT k),Option.bind_some,i5 _ _ (Nat.mul_ne_zero a.den_nz b.den_nz) (il (kW (sv h k) (sv k h)) (by omega)) (il (z8 h k) (by omega)),←Rat.add_def']
 rfl
theorem ve(a:Rat):nn (decide (a.num<0)) a.num.natAbs (a.den-1)=some (rp (-a)):=by
 unfold nn rp;rw[di,yQ,Rat.neg_num,Rat.neg_den];rfl
theorem Dg(a:Rat):qw (-a)=qw a:=by unfold qw sz;rw[Rat.neg_num,Rat.neg_den,Int.natAbs_neg]
theorem yL(a b:Rat)(h:qw a)(k:qw b):pN (decide (a.num<0)) a.num.natAbs (a.den-1) (decide (b.num<0)) b.num.natAbs (b.den-1)=some (rp (a-b)):=by
 unfold pN;rw[ve,Option.bind_some];simp only;rw[uy a (-b) h (by rw[Dg];exact k),←Rat.sub_eq_add_neg];rfl
theorem zD(a b:Rat)(h:qw a)(k:qw b):pJ (decide (a.num<0)) a.num.natAbs (a.den-1) (decide (b.num<0)) b.num.natAbs (b.den-1)=some (rp (a*b)):=by
 unfold pJ;rw[jE (iv h) (iv k),Option.bind_some,di,vV,Option.bind_some];simp only;rw[fp a _ _ h,Option.bind_some,fp b _ _ k,Option.bind_some,jE (fT h) (fT k),Option.bind_some,i5 _ _ (Nat.mul_ne_zero a.den_nz b.den_nz) (il (CA h k) (by omega)) (il (z8 h k) (by omega)),←Rat.mul_def']
 rfl
theorem wj(a b:Rat)(hb:b≠0):a/b=mkRat (sg (!(decide (a.num<0)==decide (b.num<0))) (a.num.natAbs*b.den)) (a.den*b.num.natAbs):=by
 have hn:b.num≠0:=fun h=>hb (Rat.num_eq_zero.1 h);have e:a/b=Rat.divInt (a.num*b.den) (a.den*b.num):=by
  have ea:=Rat.num_divInt_den a;rw[Rat.div_def,Rat.inv_def]
  conv=>lhs;rw[←ea]
  rw[Rat.divInt_mul_divInt]
 rw[e];have hden:((a.den*b.num.natAbs:Nat):Int)=(a.den:Int)*(b.num.natAbs:Int):=Int.natCast_mul _ _;rw[←Rat.divInt_ofNat,hden];have hnum:((a.num.natAbs*b.den:Nat):Int)=(a.num.natAbs:Int)*(b.den:Int):=Int.natCast_mul _ _;rcases Int.lt_or_le b.num 0 with h|h
 ·have h1:(b.num.natAbs:Int)=-b.num:=Int.ofNat_natAbs_of_nonpos (Int.le_of_lt h);rw[h1,Int.mul_neg,Rat.divInt_neg']
  congr 1
  unfold sg;rw[decide_eq_true h];rcases Int.lt_or_le a.num 0 with k|k
  ·rw[decide_eq_true k,if_neg (by decide),hnum,Int.ofNat_natAbs_of_nonpos (Int.le_of_lt k),Int.neg_mul,Int.neg_neg]
  ·rw[decide_eq_false (by omega),if_pos (by decide),hnum,Int.natAbs_of_nonneg k,Int.neg_neg]
 ·have h1:(b.num.natAbs:Int)=b.num:=Int.natAbs_of_nonneg h;rw[h1]
  congr 1
  unfold sg;rw[decide_eq_false (p:=b.num<0) (by omega)];rcases Int.lt_or_le a.num 0 with k|k
  ·rw[decide_eq_true k,if_pos (by decide),hnum,Int.ofNat_natAbs_of_nonpos (Int.le_of_lt k),Int.neg_mul,Int.neg_neg]
  ·rw[decide_eq_false (by omega),if_neg (by decide),hnum,Int.natAbs_of_nonneg k]
theorem sS(a b:Rat)(hb:b≠0)(h:qw a)(k:qw b):ko (decide (a.num<0)) a.num.natAbs (a.den-1) (decide (b.num<0)) b.num.natAbs (b.den-1)=some (rp (a/b)):=by
 have hn:b.num.natAbs≠0:=fun h=>hb (Rat.num_eq_zero.1 (by omega));unfold ko;rw[fp b _ _ k,Option.bind_some,jE (iv h) (fT k),Option.bind_some,di,Option.bind_some];simp only;rw[fp a _ _ h,Option.bind_some,jE (fT h) (iv k),Option.bind_some,i5 _ _ (Nat.mul_ne_zero a.den_nz hn) (by rw[ll];exact il (cr (oO h) (oz k)) (by omega)) (il (cr (oz h) (oO k)) (by omega)),←wj a b hb]
 rfl
theorem BG(a:Rat):(if a.num<0 then(-1:Int)else if a.num=0 then 0 else 1)=vq a:=by
 unfold vq;have h1:a.num<0↔a<0:=by
  rw[Rat.lt_iff];simp
 have h2:a.num=0↔a=0:=Rat.num_eq_zero;simp only[h1,h2]
theorem sF(a:Rat)(d:Nat):lC (decide (a.num<0)) a.num.natAbs d=some (vq a):=by
 unfold lC;rw[rA,BG];rfl
theorem zP(a:Rat):px (decide (a.num<0)) a.num.natAbs (a.den-1)=some (rp (if a<0 then-a else a)):=by
 have h1:a.num<0↔a<0:=by rw[Rat.lt_iff];simp
 unfold px rp;rw[di,Option.bind_some];have e1:decide (sg false a.num.natAbs<0)=false:=by unfold sg;rw[if_neg (by decide)];exact decide_eq_false (by omega)
 rw[e1,ll];by_cases h:a<0
 ·have:=h1.2 h;rw[if_pos h,Rat.neg_num,Rat.neg_den,Int.natAbs_neg,decide_eq_false (p:=-a.num<0) (by omega)]
 ·have:=fun k=>h (h1.1 k);rw[if_neg h,decide_eq_false (p:=a.num<0) this]
theorem AW(a b:Rat):AX (a.num*b.den) (b.num*a.den)=fY a b:=by
 unfold AX fY;simp only[Rat.lt_iff]
theorem Ap(a b:Rat)(h:qw a)(k:qw b):pv (decide (a.num<0)) a.num.natAbs (a.den-1) (decide (b.num<0)) b.num.natAbs (b.den-1)=some (fY a b):=by
 unfold pv;rw[fp b _ _ k,Option.bind_some,g_ _ _ (iv h) (fT k),Option.bind_some];simp only;rw[fp a _ _ h,Option.bind_some,g_ _ _ (iv k) (fT h),Option.bind_some];simp only;rw[tF _ _ (il (sv h k) (by omega)) (il (sv k h) (by omega)),AW];rfl
theorem C1(z:Int):rp (z:Rat)=((decide (z<0),z.natAbs),0):=by
 unfold rp;rw[Rat.num_intCast,Rat.den_intCast]
theorem y5(z:Int):rJ (decide (z<0)) z.natAbs=some (rp (z:Rat)):=by rw[C1];rfl
theorem vZ(n:Nat):rJ false n=some (rp (n:Rat)):=by
 have:=y5 n;rw[decide_eq_false (by omega)]at this;exact this
theorem zB(a:Rat)(neg:Bool)(n:Nat)(h:qw a):pH neg n (a.den-1)=some (rp (a.den:Rat)):=by
 unfold pH;rw[fp a _ _ h,Option.bind_some,vZ];rfl
theorem vx(a:Rat)(h:qw a):mn (decide (a.num<0)) a.num.natAbs (a.den-1)=some (rp (a.floor:Rat)):=by
 unfold mn;rw[fp a _ _ h,Option.bind_some,pY _ _ a.den_nz (iv h) (fT h),Option.bind_some];simp only;rw[y5,Rat.floor_def];rfl
end Go.Am
namespace Go.Am
open Go.RowKit
theorem Ag:kO (1:Int)=some 1:=jf (n:=1) (by omega)
theorem C6(n:Int)(h:eh n):xf n=some (rp (n:Rat)):=by
 unfold xf;rw[kL n h,Option.bind_some,di,Bs,Option.bind_some];dsimp only;rw[y5];rfl
theorem s_{n:Int}(h:eh n):sm n.natAbs:=jA (by unfold eh at h;omega)
theorem Bp(a b:Int)(hb:b≠0):(a:Rat)/(b:Rat)=mkRat (sg (!(decide (a<0)==decide (b<0))) a.natAbs) b.natAbs:=by
 have h1:(b:Rat)≠0:=fun h=>hb (by rw[←Rat.intCast_zero,Rat.intCast_inj]at h;exact h);have:=wj a b h1;rw[Rat.num_intCast,Rat.num_intCast,Rat.den_intCast,Rat.den_intCast,Nat.mul_one,Nat.one_mul]at this;exact this
theorem Ej(n d:Int)(h:eh n)(k:eh d):Ch n d=some (if d=0 then(rp 0,9)else(rp ((n:Rat)/(d:Rat)),0)):=by
 unfold Ch;by_cases h0:d=0
 ·subst h0;rfl
 ·rw[if_neg (by rw[beq_iff_eq];exact h0),if_neg h0,kL n h,Option.bind_some,di,Option.bind_some];dsimp only;rw[kL d k,Option.bind_some,i5 _ _ (by omega) (by rw[ll];exact s_ h) (s_ k),←Bp n d h0]
  rfl
theorem me(z:Int)(d:Nat):(mkRat z d).num.natAbs<=z.natAbs:=by
 rw[Rat.num_mkRat]
 split
 ·exact Nat.zero_le _
 ·rename_i h;rw[Int.natAbs_ediv_of_dvd]
  ·exact Nat.div_le_self _ _
  ·rw[Int.ofNat_dvd_left];exact Nat.gcd_dvd_right _ _
theorem iA(z:Int)(d:Nat)(h:d≠0):(mkRat z d).den<=d:=by
 rw[Rat.den_mkRat,if_neg h];exact Nat.div_le_self _ _
theorem gB{x:Rat}{n:Nat}:sz x<=n↔bn x.num.natAbs<=n/\bn x.den<=n:=Nat.max_le
theorem l6:bn 1=1:=rfl
theorem i7(a b:Rat):sz (a+b)<=sz a+sz b+1:=by
 rw[Rat.add_def'];have ha:=gB.1 (Nat.le_refl (sz a));have hb:=gB.1 (Nat.le_refl (sz b));refine gB.2 ⟨Nat.le_trans (cE (me _ _)) (kW ?_ ?_),Nat.le_trans (cE (iA _ _ (Nat.mul_ne_zero a.den_nz b.den_nz))) ?_⟩
 ·rw[Int.natAbs_mul];exact cr ha.1 hb.2
 ·rw[Int.natAbs_mul,Nat.add_comm];exact cr hb.1 ha.2
 ·exact Nat.le_trans (cr ha.2 hb.2) (by omega)
theorem jO(a:Rat):sz (-a)=sz a:=by unfold sz;rw[Rat.neg_num,Rat.neg_den,Int.natAbs_neg]
theorem oi(a b:Rat):sz (a-b)<=sz a+sz b+1:=by
 rw[Rat.sub_eq_add_neg,←jO b];exact i7 a (-b)
theorem iD(a b:Rat):sz (a*b)<=sz a+sz b:=by
 rw[Rat.mul_def'];have ha:=gB.1 (Nat.le_refl (sz a));have hb:=gB.1 (Nat.le_refl (sz b));refine gB.2 ⟨Nat.le_trans (cE (me _ _)) ?_,Nat.le_trans (cE (iA _ _ (Nat.mul_ne_zero a.den_nz b.den_nz))) ?_⟩
 ·rw[Int.natAbs_mul];exact cr ha.1 hb.1
 ·exact cr ha.2 hb.2
theorem C9(a b:Rat)(h:b≠0):sz (a/b)<=sz a+sz b:=by
 rw[wj a b h];have hn:b.num.natAbs≠0:=fun h'=>h (Rat.num_eq_zero.1 (by omega));have ha:=gB.1 (Nat.le_refl (sz a));have hb:=gB.1 (Nat.le_refl (sz b));refine gB.2 ⟨Nat.le_trans (cE (me _ _)) ?_,Nat.le_trans (cE (iA _ _ (Nat.mul_ne_zero a.den_nz hn))) ?_⟩
 ·rw[ll];exact cr ha.1 hb.2
 ·exact cr ha.2 hb.1
theorem om(z:Int):sz (z:Rat)<=bn z.natAbs+1:=by
 rw[gB,Rat.num_intCast,Rat.den_intCast,l6];omega
theorem uf(a:Rat):sz (a.floor:Rat)<=sz a+1:=by
 have ha:=gB.1 (Nat.le_refl (sz a));refine Nat.le_trans (om _) (Nat.succ_le_succ (Nat.le_trans (cE ?_) ha.1));rw[Rat.floor_def];exact Int.natAbs_ediv_le_natAbs _ _
theorem DE(a:Rat):sz (if a<0 then-a else a)=sz a:=by split<;>simp[jO]
theorem vM(a:Rat):sz (a.den:Rat)<=sz a+1:=by
 have ha:=gB.1 (Nat.le_refl (sz a));have:=om (a.den:Int);rw[Int.natAbs_natCast]at this;exact Nat.le_trans this (by omega)
end Go.Am
namespace Go.Am
open Go.RowKit
theorem uz(a:Rat):decide (((ay (a.den-1)).length:Int)>0)=decide (a.den≠1):=by
 have:=a.den_pos;rw[lE];by_cases h:a.den=1
 ·rw[decide_eq_false (by omega),decide_eq_false (by omega)]
 ·rw[decide_eq_true (by omega),decide_eq_true h]
theorem uH{x n:Nat}(h:bn x<=n):(mJ x).length<=n+1:=by
 unfold mJ
 split
 ·simp
 ·unfold bytesOf;rw[List.length_map,List.length_reverse];exact Nat.le_trans (wy n x (mW h)) (by omega)
theorem vh{a:Nat}(h:sm a):xi a=some (mJ a):=ck h rfl
theorem Bx(a:Rat)(h:cJ a):nM (decide (a.num<0)) a.num.natAbs (a.den-1)=some (EU a):=by
 have h1:(mJ a.num.natAbs).length<=400000000001:=uH (gB.1 h).1;have h2:(mJ a.den).length<=400000000001:=uH (gB.1 h).2;unfold nM EU;rw[vh (iv (km h)),Option.bind_some,uz];have e1:(if decide (a.num<0)=true then b_ (([45]:List UInt8).length+(mJ a.num.natAbs).length<=9223372036854775807) (some ((([45]:List UInt8)++mJ a.num.natAbs)))else some (mJ a.num.natAbs))=some ((if a.num<0 then [45]else [])++mJ a.num.natAbs):=by
  by_cases h:a.num<0
  ·rw[if_pos (decide_eq_true h),if_pos h];exact ck (by simp only[List.length_cons,List.length_nil];omega) rfl
  ·rw[if_neg (by simpa using h),if_neg h];rfl
 rw[e1,Option.bind_some];have h3:((if a.num<0 then [45]else [])++mJ a.num.natAbs:List UInt8).length<=400000000002:=by
  rw[List.length_append];split<;>simp only[List.length_cons,List.length_nil]<;>omega
 generalize ((if a.num<0 then [45]else [])++mJ a.num.natAbs:List UInt8)=t at*;by_cases hd:a.den=1
 ·rw[if_neg (by simpa using hd),if_pos hd,List.append_nil];rfl
 ·rw[if_pos (decide_eq_true hd),if_neg hd,fp a _ _ (km h),Option.bind_some,vh (fT (km h)),Option.bind_some];rw[aO (by simp only[List.length_cons,List.length_nil];omega),aO (by simp only[List.length_append,List.length_cons,List.length_nil];omega)]
  rfl
theorem wJ(k:Nat):((2^k:Nat):Rat)=2^k:=by rw[Rat.natCast_pow];rfl
theorem Ba(k:Int)(h:0<=k/\k<=100000):oD k=some (rp ((2:Rat)^k.toNat)):=by
 obtain⟨n,rfl⟩:∃n:Nat,k=n:=⟨k.toNat,by omega⟩;unfold oD;rw[Ag,Option.bind_some,rk (jA (by omega)) (by omega),Option.bind_some,Nat.one_mul,vZ,Int.toNat_natCast,wJ]
 rfl
theorem wx{x m:Nat}(h:bn x<=2*m):bn (dJ x)<=m:=by
 rw[fE]at*;apply Classical.byContradiction;intro hc;have h1:=Nat.mul_le_mul (Nat.le_of_not_lt hc) (Nat.le_of_not_lt hc);have h2:=nY x;rw[←Nat.pow_add,show m+m=2*m from by omega]at h1;omega
def Ct(a:Rat)(k:Nat):Rat:=((dJ (a.num.natAbs*2^(2*k)/a.den):Nat):Rat)/2^k
def At(a:Rat)(k:Int):Option (Rat×Int):=b_ (cJ a/\eh k) (some (if k<0\/64<k then(0,3)else if a<0 then(0,8)else(Ct a k.toNat,0)))
theorem Di(k:Nat):sz ((2:Rat)^k)<=k+1:=by
 rw[←wJ,gB,Rat.num_natCast,Rat.den_natCast,Int.natAbs_natCast,l6];exact⟨qS (Nat.lt_succ_self k),by omega⟩
theorem CV(k:Nat)(h:k<=100000):qw ((2:Rat)^k):=by
 have:=Di k;unfold qw;generalize sz ((2:Rat)^k)=t at*;omega
theorem Dq(k:Nat):(2:Rat)^k≠0:=by
 have:(0:Rat)<2^k:=Rat.pow_pos (by decide);intro h;rw[h]at this;exact Rat.lt_irrefl this
theorem A7{x n:Nat}(hx:bn x<=400000000000)(hn:n<=64):bn (x*2^(2*n))<=400000000129:=by
 have h1:2*n<129:=by omega
 exact Nat.le_trans (cr hx (qS h1)) (by decide)
theorem ye(N d n:Nat)(hn:n<=64)(hd:d≠0)(hN:sm N)(hsd:sm d)(hb:bn (N*2^(2*n))<=400000000129)(hq:bn (N*2^(2*n)/d)<=400000000130):
  (sR N (IntKind.i64.wrap (2*(n:Int)))).bind (fun v10=>(jG v10 d).bind fun(v14,_)=>vH v14)=some (dJ (N*2^(2*n)/d)):=by
 have ew:IntKind.i64.wrap (2*(n:Int))=((2*n:Nat):Int):=by rw[wrap_small (by omega) (by omega)];omega
 have hk:2*n<35184372088832:=by omega
 rw[ew,rk hN hk,Option.bind_some];generalize N*2^(2*n)=X at*;rw[gM hd (il hb (by omega)) hsd,Option.bind_some];dsimp only;exact ck (Nat.le_trans hq (by omega)) rfl
theorem Bv(X:Nat)(h:bn X<=400000000130):qw ((dJ X:Nat):Rat):=by
 have h2:bn (dJ X)<=200000000065:=wx h;refine gB.2 ⟨?_,by rw[Rat.den_natCast,l6];omega⟩;rw[Rat.num_natCast,Int.natAbs_natCast];exact Nat.le_trans h2 (by omega)
theorem AN(X n:Nat)(hn:n<=64)(hq:bn X<=400000000130):((rJ false (dJ X)).bind fun((v19,v20),v21)=>(oD (n:Int)).bind fun((v23,v24),v25)=>(ko v19 v20 v21 v23 v24 v25).bind fun((v27,v28),v29)=>some (((v27,v28),v29),(0:Int)))=some (rp (((dJ X:Nat):Rat)/2^n),0):=by
 have hf:=Ba (n:Int) ⟨by omega,by omega⟩;have hw:=CV n (by omega);have hne:=Dq n;rw[Int.toNat_natCast]at hf;rw[hf,vZ];simp only[Option.bind_some,rp];rw[sS _ _ hne (Bv _ hq) hw]
 rfl
theorem Bg(a:Rat)(k:Int)(h:cJ a):n0 (decide (a.num<0)) a.num.natAbs (a.den-1) k=some (if k<0\/64<k then(rp 0,3)else if a<0 then(rp 0,8)else(rp (Ct a k.toNat),0)):=by
 unfold n0;by_cases h0:k<0
 ·rw[if_pos (decide_eq_true h0),if_pos (.inl h0)];rfl
 rw[if_neg (by simpa using h0)];by_cases h1:64<k
 ·rw[if_pos (decide_eq_true h1),if_pos (.inr h1)];rfl
 obtain⟨n,rfl⟩:∃n:Nat,k=n:=⟨k.toNat,by omega⟩;have hn64:n<=64:=by omega
 rw[if_neg (by simpa using h1),if_neg (by omega),sF,Option.bind_some];by_cases hn:a<0
 ·rw[if_pos (by unfold vq;rw[if_pos hn];decide),if_pos hn];rfl
 rw[if_neg (by unfold vq;rw[if_neg hn];split<;>decide),if_neg hn];have hb:=A7 (gB.1 h).1 hn64;have hq:=Nat.le_trans (Nat.le_trans (cE (Nat.div_le_self (a.num.natAbs*2^(2*n)) a.den)) hb) (show 400000000129<=400000000130 by decide);have hc:=ye a.num.natAbs a.den n hn64 a.den_nz (iv (km h)) (fT (km h)) hb hq;obtain⟨v10,e10,hc⟩:=bind_some hc;obtain⟨⟨v14,v15⟩,e14,hc⟩:=bind_some hc;rw[e10,Option.bind_some,fp a _ _ (km h),Option.bind_some,e14,Option.bind_some];dsimp only at hc|-;rw[hc,Option.bind_some];exact AN _ n hn64 hq
theorem jT{a1:Int}{r2:Rat}(h:gD a1=some r2):aU PP 40 [] [D.int .i64 a1] [] (qD r2):=by
 obtain⟨h0,h⟩:=ax h;injection h with h;subst h;exact Eo (C6 a1 h0)
theorem E3{a1:Int}{a2:Int}{r3:Rat}{r4:Int}(h:A9 a1 a2=some (r3,r4)):aU PP 36 [] [D.int .i64 a1,D.int .i64 a2] [] (D.fU [qD r3,D.int .i64 r4]):=by
 obtain⟨h0,h⟩:=ax h;have e:=Ej a1 a2 h0.1 h0.2;injection h with h;by_cases hd:a2=0
 ·rw[if_pos hd]at h e;injection h with h1 h2;subst h1;subst h2;exact DZ e
 ·rw[if_neg hd]at h e;injection h with h1 h2;subst h1;subst h2;exact DZ e
theorem kj{a1:Rat}{a2:Rat}{r3:Rat}(h:gG a1 a2=some r3):aU PP 42 [] [qD a1,qD a2] [] (qD r3):=by
 obtain⟨h0,h⟩:=ax h;injection h with h;subst h;exact xm (uy a1 a2 (km h0.1) (km h0.2))
theorem qL{a1:Rat}{a2:Rat}{r3:Rat}(h:jQ a1 a2=some r3):aU PP 44 [] [qD a1,qD a2] [] (qD r3):=by
 obtain⟨h0,h⟩:=ax h;injection h with h;subst h;exact Be (yL a1 a2 (km h0.1) (km h0.2))
theorem lO{a1:Rat}{a2:Rat}{r3:Rat}(h:fR a1 a2=some r3):aU PP 46 [] [qD a1,qD a2] [] (qD r3):=by
 obtain⟨h0,h⟩:=ax h;injection h with h;subst h;exact A1 (zD a1 a2 (km h0.1) (km h0.2))
theorem kA{a1:Rat}{a2:Rat}{r3:Rat}(h:gp a1 a2=some r3):aU PP 164 [] [qD a1,qD a2] [] (qD r3):=by
 obtain⟨h0,h⟩:=ax h;injection h with h;subst h;exact uL (sS a1 a2 h0.1 (km h0.2.1) (km h0.2.2))
theorem yW{a1:Rat}{r2:Rat}(h:pR a1=some r2):aU PP 48 [] [qD a1] [] (qD r2):=by
 injection h with h;subst h;exact wK (ve a1)
theorem Cq{a1:Rat}{r2:Rat}(h:xu a1=some r2):aU PP 50 [] [qD a1] [] (qD r2):=by
 injection h with h;subst h;exact A4 (zP a1)
theorem r_{a1:Rat}{a2:Rat}{r3:Int}(h:j1 a1 a2=some r3):aU PP 35 [] [qD a1,qD a2] [] (D.int .i64 r3):=by
 obtain⟨h0,h⟩:=ax h;injection h with h;subst h;exact Bk (Ap a1 a2 (km h0.1) (km h0.2))
theorem oB{a1:Rat}{r2:Int}(h:eM a1=some r2):aU PP 24 [] [qD a1] [] (D.int .i64 r2):=by
 injection h with h;subst h;exact uF (sF a1 _)
theorem Aq{a1:Rat}{r2:Rat}(h:qp a1=some r2):aU PP 76 [] [qD a1] [] (qD r2):=by
 obtain⟨h0,h⟩:=ax h;injection h with h;subst h;exact B5 (zB a1 _ _ (km h0))
theorem wX{a1:Rat}{r2:Rat}(h:nA a1=some r2):aU PP 78 [] [qD a1] [] (qD r2):=by
 obtain⟨h0,h⟩:=ax h;injection h with h;subst h;exact yb (vx a1 (km h0))
theorem Dr{a1:Rat}{r2:List UInt8}(h:Ay a1=some r2):aU PP 33 [] [qD a1] [] (b9 r2):=by
 obtain⟨h0,h⟩:=ax h;exact zm ((Bx a1 h0).trans h)
theorem Dd{a1:Rat}{a2:Int}{r3:Rat}{r4:Int}(h:At a1 a2=some (r3,r4)):aU PP 29 [] [qD a1,D.int .i64 a2] [] (D.fU [qD r3,D.int .i64 r4]):=by
 obtain⟨h0,h⟩:=ax h;have e:=Bg a1 a2 h0.1;injection h with h;by_cases hd:a2<0\/64<a2
 ·rw[if_pos hd]at h e;injection h with h1 h2;subst h1;subst h2;exact qJ e
 ·rw[if_neg hd]at h e;by_cases hn:a1<0
  ·rw[if_pos hn]at h e;injection h with h1 h2;subst h1;subst h2;exact qJ e
  ·rw[if_neg hn]at h e;injection h with h1 h2;subst h1;subst h2;exact qJ e
end Go.Am
