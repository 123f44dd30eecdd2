/- Part 4 of 7 of what the laws of layer 1 share: contracts of functions of the program, each for every argument of its description; no condition beyond it. -/
import Derived.Test.YtgnepgenefcnpaaGreatDoorBkC
set_option linter.unusedVariables false
set_option linter.unusedSimpArgs false
namespace Go.Am
open Go.RowKit
theorem bC(s n:Nat):(b_ s n).length=n:=by simp[b_]
theorem sx{m:Nat}{te:TypeId}{l:List D}{n:Nat}{ε:Env}{w:World}{S:ck}{b:Value}{F:ck}(hm:0<m)(hl:l.length=n*m)(h:kP m te l ε w S b F):∃A cap,b=.slice A n cap/\(0<n->A=some ⟨j3 b,0,none⟩):=by
 rcases h with⟨h0,hb,_⟩|⟨g,n',cap,cs,rest,hb,_,_,_,_,_,hln,_⟩
 ·subst h0;have:n=0:=by rcases Nat.mul_eq_zero.1 (show n*m=0 from hl.symm)with h|h<;>omega
  subst this;exact⟨none,0,hb,fun h=>by omega⟩
 ·have:=Nat.eq_of_mul_eq_mul_right hm (hln.symm.trans hl);subst this;exact⟨some ⟨g,0,none⟩,cap,hb,fun _=>by rw[hb];rfl⟩
section
variable {P:Program} {os:List Oper} {c:Ctx} {T T':List (Nat×D)} {H H':List (Nat×Hp)} {sps:List Spec}
variable {ops:Array Oper} {dst:Option Nat} {ty:TypeId} {pos:String} {aft:Array Edge}
variable {α:Type} {e:ak α} {te tr:TypeId} {r s:Nat} {M X:List (List α)}
theorem lk{ε:Env}{w:World}{S:ck}{b:Value}{F F':ck}(h1:(Hp.cg e te s X).p ε w S b F)(h2:(Hp.store e tr M).p ε w S (ε s) F'):kP 1 te (b_ s M.length++X.map (an e)) ε w S b F:=by
 obtain⟨vs,e1,h1⟩:=h1;obtain⟨vs',G,e2,e3,_⟩:=h2;rw[e1]at e2;injection e2 with e2;subst e2
 rwa [e3]at h1
theorem yL{a:Act}{w:World}{ε:Env}{φ:Nat->ck}{t:Nat}{d:D}{K:Nat->Option Hp}(hs:cd c (aM T) K a w ε φ)(hp:d.p ε w (Am.al c K φ) (a.tmps.getD t undef))(hn:∀r∈d.nm,K r≠none):cd c (aM ((t,d)::T)) K a w ε φ:=by
 refine{hs with t:=?_,tn:=?_}
 ·intro t' d' hd;simp only[aM]at hd
  cases hb:Nat.beq t' t with
  |true=>rw[hb]at hd;injection hd with hd;subst hd;rw[Nat.eq_of_beq_eq_true hb];exact hp
  |false=>rw[hb]at hd;exact hs.t t' d' hd
 ·intro t' d' hd r hr;simp only[aM]at hd
  cases hb:Nat.beq t' t with
  |true=>rw[hb]at hd;injection hd with hd;subst hd;exact hn r hr
  |false=>rw[hb]at hd;exact hs.tn t' d' hd r hr
theorem Ok.HB{x:Code}{Q:Exit->Act->World->Prop}(t:Nat)(ht:aM T t=some (.own r))(hh:af H r=some (.cg e te s X))(hk:af H s=some (.store e tr M))
  (h:Ok P c ((t,.sl r (M.length+X.length))::T) H x Q):Ok P c T H x Q:=by
 intro a w ⟨ε,φ,hs⟩;have hv:a.tmps.getD t undef=ε r:=(hs.t t _ ht).1;have hrow:=lk (hs.h r _ hh) (hs.h s _ hk);obtain⟨A,cap,h1,h2⟩:=sx (n:=M.length+X.length) (by decide) (by simp[bC]) hrow;refine h a w ⟨ε,φ,yL hs ⟨hv,A,cap,by rw[hv,h1],h2⟩ (fun r' hr'=>?_)⟩;have:r'=r:=by simpa [D.sl]using hr'
 subst this;rw[hh];simp
def F6(xs:List (Operand×D))(r:Nat)(h:Hp)(s:Nat)(k:Hp)(out:D):Spec:={ins:=xs.flatMap fun x=>eN x.1 x.2,cY:=[(r,h),(s,k)],out:=out,cZ:=[],news:=[]}
theorem ai.Gj{o:Oper}{xs:List (Operand×D)}{h k:Hp}{d:D}(hg:o.guard=none)(he:∀x∈xs,ev T x.1=some x.2)(hh:af H r=some h)(hk:af H s=some k)(hnm:∀r'∈d.nm,r'=r\/r'=s)
  (hrun:∀(ε:Env) (w:World) (S:ck) (a:Act) (F F':ck),(∀x∈xs,x.2.p ε w S (a.eval x.1))->h.p ε w S (ε r) F->k.p ε w S (ε s) F'->∃v,(execOp a.eval o).run P w=.ok (.value v) w/\d.p ε w S v)
  (hr:ai P ops c os (bg T o.dst d) H sps T' H'):ai P ops c (o::os) T H (F6 xs r h s k d::sps) T' H':=by
 refine .cons (sp:=F6 xs r h s k d) ?_ (eI he) ⟨hh,hk,trivial⟩ trivial hr;intro hd T0 H0 hi cY _ a w ⟨ε,φ,hs⟩ Q K hK;rw[if_pos (a_ hg _)];have hxs:=cJ hi;obtain⟨v,hv,hp⟩:=hrun ε w (Am.al c H0 φ) a (φ r) (φ s) (fun x hx=>(hs.ev (hxs x hx) (aw (he x hx)).2).1) (hs.h r h cY.1) (hs.h s k cY.2.1);simp only[Oper.wp,hv,Oper.upon];refine hK _ _ ⟨ε,φ,hs.put (d:=d) (cU hd) hp (fun r' hr'=>?_)⟩;rcases hnm r' hr' with rfl|rfl
 ·show H0 _≠none;rw[cY.1];simp
 ·show H0 _≠none;rw[cY.2.1];simp
theorem xX{t:TypeId}{z m:Nat}{x:Operand}{d:D}(hd:(b_ s M.length++X.map (an e))[z]?=some d)(hm:m=1)(ht:lay P t=some none)(h:ev T x=some (.ref r (z*m)))(hh:af H r=some (.cg e te s X))(hk:af H s=some (.store e tr M))(hnm:∀r'∈d.nm,r'=r\/r'=s)
  (hr:ai P ops c os (bg T dst d) H sps T' H'):ai P ops c (⟨dst,.load t x,ty,pos,aft,none⟩::os) T H (F6 [(x,.ref r (z*m))] r (.cg e te s X) s (.store e tr M) d::sps) T' H':=
 .Gj rfl (by simpa using h) hh hk hnm (fun ε w S a F F' ha h1 h2=>by
  subst hm;have hrow:=lk h1 h2;have hx:a.eval x=.pointer (some ⟨j3 (ε r),z*1,none⟩):=ha (x,.ref r (z*1)) (by simp);rw[Nat.mul_one]at hx;rcases hrow with⟨h,_,_⟩|⟨g,n',cap,cs,rest,hb,_,hg,_,_,_,_,hc⟩
  ·rw[h]at hd;simp at hd
  ·obtain⟨v,hv,hp⟩:=fP hc hd;have hlt:=(List.getElem?_eq_some_iff.1 hv).1;refine⟨v,?_,hp⟩;rw[hb]at hx;simp only[execOp,hx,j3,Instr.loadAt,Instr.sureAddr,Sem.run_bind,Sem.run_pure,Result.andThen_ok,loadVar,(iT ht w).1,Bool.false_eq_true,if_false,run_load,iL hg,List.getElem?_append_left hlt,hv]) hr
theorem ai.sE{t:TypeId}{z:Int}{m:Nat}{x:Operand}(hz:z.toNat<M.length)(h:ev T x=some (.ref r (z.toNat*m)))(hh:af H r=some (.cg e te s X))(hk:af H s=some (.store e tr M))(hm:m=1)(ht:lay P t=some none)
  (hr:ai P ops c os (bg T dst (.mr s z.toNat)) H sps T' H'):ai P ops c (⟨dst,.load t x,ty,pos,aft,none⟩::os) T H (F6 [(x,.ref r (z.toNat*m))] r (.cg e te s X) s (.store e tr M) (.mr s z.toNat)::sps) T' H':=
 xX (by rw[List.getElem?_append_left (by rw[bC];exact hz)];simp[b_,hz]) hm ht h hh hk (fun r' hr'=>.inr (by simpa [D.mr]using hr')) hr
theorem ai.Jt{t:TypeId}{z:Int}{m:Nat}{x:Operand}{xs:List α}(hz:M.length<=z.toNat)(hX:X[z.toNat-M.length]?=some xs)(h:ev T x=some (.ref r (z.toNat*m)))(hh:af H r=some (.cg e te s X))(hk:af H s=some (.store e tr M))(hm:m=1)(ht:lay P t=some none)
  (hr:ai P ops c os (bg T dst (an e xs)) H sps T' H'):ai P ops c (⟨dst,.load t x,ty,pos,aft,none⟩::os) T H (F6 [(x,.ref r (z.toNat*m))] r (.cg e te s X) s (.store e tr M) (an e xs)::sps) T' H':=
 xX (by rw[List.getElem?_append_right (by rw[bC];exact hz),bC,List.getElem?_map,hX];rfl) hm ht h hh hk (fun r' hr'=>by cases hr') hr
theorem oL{k:Nat}{xs:List α}{ε:Env}{w:World}{S:ck}{F:ck}{v:Value}(hM:M[k]?=some xs)(h:(Hp.store e tr M).p ε w S (ε s) F)(hv:(D.mr s k).p ε w S v):∃G,(aR e tr xs).p ε w S v G:=by
 obtain⟨_,vs,e1,e2⟩:=hv;obtain⟨vs',G,e3,_,e4,_⟩:=h;rw[e1]at e3;injection e3 with e3;subst e3;exact⟨G k,e4 k xs v hM e2⟩
theorem ai.xj{t:TypeId}{x y:Operand}{k m:Nat}{kd:IntKind}{z:Int}{xs:List α}(hx:ev T x=some (.mr s k))(hy:ev T y=some (.int kd z))(hh:af H s=some (.store e tr M))(hM:M[k]?=some xs)(ht:sle P t=some m)(h0:0<=z)(h1:z<xs.length)(hm:Nat.blt 0 e.n=true)
  (hr:ai P ops c os (bg T dst (.mc s k (z.toNat*m))) H sps T' H'):
  ai P ops c (⟨dst,.indexAddr t x y,ty,pos,aft,none⟩::os) T H (AX [(x,.mr s k),(y,.int kd z)] s (.store e tr M) (.mc s k (z.toNat*m))::sps) T' H':=
 .ask rfl (two hx hy) hh (fun r' hr'=>.inl (by simpa [D.mc]using hr')) (fun ε w S a F ha hp=>by
  have h2:=ha (x,.mr s k) (by simp);have h3:a.eval y=.int kd z:=ha (y,.int kd z) (by simp);obtain⟨G,hrow⟩:=oL hM hp h2;obtain⟨A,cap,hb,hA⟩:=wB (by simpa using hm) hrow;obtain⟨_,vs,e1,e2⟩:=h2;have hA':=hA (by omega);subst hA';dsimp only at hb e2;refine⟨.pointer (some ⟨j3 (a.eval x),z.toNat*m,none⟩),?_,vs,_,e1,e2,rfl⟩;generalize j3 (a.eval x)=g at hb;simp only[execOp,hb,h3,Sem.run_bind,iI ht g 0 xs.length cap kd z h0 h1 w,Result.andThen_ok,Nat.zero_add]
  rfl) hr
theorem ai.qq{t:TypeId}{x:Operand}{k m n:Nat}{z:Int}{xs:List α}{u:α}(h:ev T x=some (.mc s k (z.toNat*m)))(hh:af H s=some (.store e tr M))(hM:M[k]?=some xs)(hu:xs[z.toNat]?=some u)(ht:lay P t=some (some n))(hm:m=e.n)(hn:n=e.n)
  (hr:ai P ops c os (bg T dst (.agg (e.c u))) H sps T' H'):ai P ops c (⟨dst,.load t x,ty,pos,aft,none⟩::os) T H (AX [(x,.mc s k (z.toNat*m))] s (.store e tr M) (.agg (e.c u))::sps) T' H':=
 .ask rfl (by simpa using h) hh (fun r' hr'=>by rw[show(D.agg (e.c u)).nm=bD (e.c u)from rfl,e.nm]at hr';cases hr') (fun ε w S a F ha hp=>by
  subst hm;subst hn;obtain⟨vs,v,e1,e2,e3⟩:=ha (x,.mc s k (z.toNat*e.n)) (by simp);obtain⟨vs',G,e4,_,e5,_⟩:=hp;rw[e1]at e4;injection e4 with e4;subst e4;have hrow:=e5 k xs v hM e2;dsimp only at e3;rcases hrow with⟨h,_,_⟩|⟨g,n',cap,cs,rest,hb,_,hg,h1,_,_,_,hc⟩
  ·have h0:=qv e hu;rw[h]at h0;have h1:(e.c u)=[]:=by rw[←h0];simp
   have h2:e.n=0:=by rw[←e.len u,h1];rfl
   refine⟨.agg #[],?_,[],rfl,(fun u hu=>by cases hu),by rw[h1];trivial⟩;simp only[execOp,e3,Instr.loadAt,Instr.sureAddr,Sem.run_bind,Sem.run_pure,Result.andThen_ok,loadVar,(gI ht w).1,(gI ht w).2,if_true,h2,loadCells,loadCellsFrom]
  ·have hlen:=aL hc;have hlt:=(List.getElem?_eq_some_iff.1 hu).1;have hle:=Nat.mul_le_mul_right e.n (Nat.succ_le_of_lt hlt);rw[bp]at hlen;rw[Nat.succ_mul]at hle;have hq:((cs.drop (z.toNat*e.n)).take e.n).length=e.n:=by simp;omega
   rw[hb]at e3;have hld:=run_loadCells_list (P:=P) w ⟨g,z.toNat*e.n,none⟩ ((cs.drop (z.toNat*e.n)).take e.n) (fun j v hv=>by
    have hj:j<e.n:=by have:=(List.getElem?_eq_some_iff.1 hv).1;omega
    rw[gS,iL hg];rw[List.getElem?_take_of_lt hj,List.getElem?_drop]at hv;rw[List.getElem?_append_left (List.getElem?_eq_some_iff.1 hv).1];exact hv)
   rw[hq]at hld;refine⟨.agg ((cs.drop (z.toNat*e.n)).take e.n).toArray,?_,(cs.drop (z.toNat*e.n)).take e.n,rfl,fun u hu=>h1 u (List.mem_of_mem_drop (List.mem_of_mem_take hu)),?_⟩
   ·simp only[execOp,e3,j3,Instr.loadAt,Instr.sureAddr,Sem.run_bind,Sem.run_pure,Result.andThen_ok,loadVar,(gI ht w).1,(gI ht w).2,if_true,hld]
   ·have:=eP (n:=e.n) (fl (n:=z.toNat*e.n) hc)
    rwa [qv e hu]at this) hr
theorem FJ{te:TypeId}{w:World}{ε:Env}{S:ck}{b:Value}{F:ck}{xs:List α}{u:α}{j:Nat}{vs:List Value}(hp:(aR e te xs).p ε w S b F)(hj:j<xs.length)(hS:∀k,S k->¬F k)(hv1:∀v∈vs,v.oneCell'=true)(hvs:bN ε w S (e.c u) vs)(hn:0<e.n):
  ∃w',(storeCells (⟨j3 b,j*e.n,none⟩:Addr) vs).run P w=.ok () w'/\w'.heap.size=w.heap.size/\w'.os=w.os/\w'.tape=w.tape/\w'.output=w.output/\(∀k,¬F k->w'.heap[k]?=w.heap[k]?)/\(aR e te (xs.set j u)).p ε w' S b F:=by
 have hvl:vs.length=e.n:=by rw[aL hvs,e.len]
 have hle:=Nat.mul_le_mul_right e.n (Nat.succ_le_of_lt hj);rw[Nat.succ_mul]at hle;rcases hp with⟨e0,_,_⟩|⟨g,n',cap,cs,rest,hb,eF,hg,h1,hcap,hmax,hln,hcs⟩
 ·have:=bp e xs;rw[e0]at this;have h0:xs.length*e.n=0:=this.symm;omega
 ·have hlen:=aL hcs;rw[bp]at hlen;have hst:=run_storeCells_at (P:=P) g (j*e.n) te vs 0 (cs++rest).toArray w hg (by simp;omega) hv1;simp only[Nat.add_zero,hvl]at hst;have hsplit:(cs++rest).take (j*e.n)++vs++(cs++rest).drop (j*e.n+e.n)=(cs.take (j*e.n)++vs++cs.drop (j*e.n+e.n))++rest:=by
   rw[List.take_append_of_le_length (by omega),List.drop_append_of_le_length (by omega)];simp[List.append_assoc]
  rw[hsplit]at hst;have hfar:∀k,¬F k->(w.setRow g ((cs.take (j*e.n)++vs++cs.drop (j*e.n+e.n))++rest).toArray).heap[k]?=w.heap[k]?:=fun k hk=>fE _ _ _ _ (fun e'=>hk (by rw[eF,e'];rfl));refine⟨w.setRow g ((cs.take (j*e.n)++vs++cs.drop (j*e.n+e.n))++rest).toArray,(by rw[hb];exact hst),by simp[World.setRow],rfl,rfl,rfl,hfar,.inr ⟨g,n',cap,cs.take (j*e.n)++vs++cs.drop (j*e.n+e.n),rest,hb,eF,setRow_heap w g (cs++rest).toArray _ te _ hg,?_,?_,hmax,?_,?_⟩⟩
  ·intro u hu;simp only[List.mem_append]at hu;rcases hu with(hu|hu)|hu
   ·exact h1 u (List.mem_of_mem_take hu)
   ·exact hv1 u hu
   ·exact h1 u (List.mem_of_mem_drop hu)
  ·rw[←hcap];simp;omega
  ·rw[bp,List.length_set,←hln,bp]
  ·rw[←yw e hj u];exact bF (fun k hk _=>⟨hk,hfar k (hS k hk)⟩) (bR (bR (eP _ hcs) hvs) (fl _ hcs)) (fun _ _=>rfl)
theorem ai.E0{t:TypeId}{x y:Operand}{k m n:Nat}{z:Int}{xs:List α}(u:α)(h:ev T x=some (.mc s k (z.toNat*m)))(hy:ev T y=some (.agg (e.c u)))(hh:af H s=some (.store e tr M))(hM:M[k]?=some xs)(hz:z.toNat<xs.length)(ht:lay P t=some (some n))(hm:m=e.n)(hn:n=e.n)(hn0:Nat.blt 0 e.n=true)
  (hr:ai P ops c os (bg T dst .any) ((s,.store e tr (M.set k (xs.set z.toNat u)))::H) sps T' H'):
  ai P ops c (⟨dst,.store t x y,ty,pos,aft,none⟩::os) T H (ws x (.mc s k (z.toNat*m)) y (.agg (e.c u)) s (.store e tr M) (.store e tr (M.set k (xs.set z.toNat u)))::sps) T' H':=by
 subst hm;subst hn;refine .cons (sp:=ws x (.mc s k (z.toNat*e.n)) y (.agg (e.c u)) s (.store e tr M) (.store e tr (M.set k (xs.set z.toNat u)))) ?_ (aU.2 ⟨(aw h).1,(aw hy).1⟩) ⟨hh,trivial⟩ trivial hr;intro hdst T0 H0 hi cY _ a w ⟨ε,φ,hs⟩ Q K hK;rw[if_pos (a_ rfl _)];obtain⟨hi1,hi2⟩:=aU.1 hi;obtain⟨vs,v,e1,e2,hx⟩:=(hs.ev hi1 (aw h).2).1;obtain⟨⟨us,hus,hu1,hua⟩,_⟩:=hs.ev hi2 (aw hy).2;obtain⟨vs',G,e4,e5,e6,e7,e8⟩:=hs.h s _ cY.1;rw[e1]at e4;injection e4 with e4;subst e4;have hk:k<M.length:=(List.getElem?_eq_some_iff.1 hM).1;have hSF:∀i,Am.al c H0 φ i->¬φ s i:=fun i hi=>hi.2 s (by simp[cY.1]);obtain⟨w',r1,r2,r3,r4,r5,r6,r7⟩:=FJ (P:=P) (u:=u) (e6 k xs v hM e2) hz (fun i hi hg=>hSF i hi ((e8 i).2 ⟨k,hk,hg⟩)) hu1 hua (by simpa using hn0);have hrun:(execOp a.eval ⟨dst,.store t x y,ty,pos,aft,none⟩).run P w=.ok .skip w':=by
  have hsize:(a.eval y).cells.size=e.n:=by rw[hus];simp only[Value.cells];rw[List.size_toArray,aL hua,e.len]
  have hcl:(a.eval y).cells.toList=us:=by rw[hus];simp[Value.cells]
  simp only[execOp,Instr.storeAt,hx,Instr.sureAddr,Sem.run_bind,Sem.run_pure,Result.andThen_ok,storeVar,(gI ht w).2,hsize,ne_eq,not_true_eq_false,if_false,hcl,r1]
 simp only[Oper.wp,hrun,Oper.upon];have hS:=hs.tf (w':=w') (y:=.store e tr (M.set k (xs.set z.toNat u))) cY.1 r2 r3 r4 r5 (fun i hi=>r6 i (fun hg=>hi ((e8 i).2 ⟨k,hk,hg⟩)))
  ⟨vs,G,e1,by rw[e5,List.length_set],(fun k' xs' v' hx' hv'=>by
   by_cases hkk:k=k'
   ·subst hkk;rw[List.getElem?_set_self hk]at hx';injection hx' with hx';subst hx';rw[e2]at hv';injection hv' with hv';subst hv';exact r7
   ·rw[List.getElem?_set_ne hkk]at hx';have hk':=(List.getElem?_eq_some_iff.1 hx').1;exact(aR e tr xs').mono (e6 k' xs' v' hx' hv') (fun _ _=>rfl) (fun i hi _=>⟨hi,r6 i (fun hg=>hSF i hi ((e8 i).2 ⟨k,hk,hg⟩))⟩) (fun i hi=>r6 i (fun hg=>e7 k k' hk hk' hkk i hg hi))),by rw[List.length_set];exact e7,by rw[List.length_set];exact e8⟩ (fun r' hr'=>by cases hr')
 exact hK _ _ ⟨ε,φ,hS.put (d:=.any) (cU hdst) trivial (fun _ h=>by cases h)⟩
end
end Go.Am
namespace Go.Am
open Go.RowKit
def Hp.dY(m:Nat)(ty:TypeId)(l:List D):Hp where
 p:=kP m ty l
 nm:=bD l
 mono:=fun h he hS hF=>oh h he hS hF
def bT(vs:List Value):List D:=vs.map D.lit
theorem dq(vs:List Value):bD (bT vs)=[]:=by
 induction vs with
 |nil=>rfl
 |cons v vs ih=>exact ih
theorem jT{ε:Env}{w:World}{S:ck}:∀{vs cs:List Value},bN ε w S (bT vs) cs↔cs=vs
 |[],[]=>by simp[bT,bN]
 |[],_::_=>by simp[bT,bN]
 |_::_,[]=>by simp[bT,bN]
 |v::vs,u::us=>by
  have:=@jT ε w S vs us;simp only[bT,List.map_cons,bN]at this|-;rw[this];simp[D.lit]
theorem sS{s n k:Nat}(h:k<n):(b_ s n)[k]?=some (D.mr s k):=by simp[b_,h]
theorem lJ{ε:Env}{w:World}{S:ck}{s:Nat}{vs:Array Value}(h:ε s=.agg vs){cs:List Value}(hc:bN ε w S (b_ s vs.size) cs):cs=vs.toList:=by
 have hl:=aL hc;rw[bC]at hl;apply List.ext_getElem
 ·simp[hl]
 ·intro k h1 h2;obtain⟨v,hv,hp⟩:=fP hc (sS (s:=s) (show k<vs.size by omega));obtain⟨_,vs',e1,e2⟩:=hp;rw[h]at e1;injection e1 with e1;subst e1;rw[List.getElem?_eq_getElem h1]at hv;injection hv with hv;rw[hv];have:=Array.getElem?_eq_some_iff.1 e2;obtain⟨h3,h4⟩:=this;simp[←h4]
theorem qh{ε:Env}{w:World}{S:ck}{s:Nat}{vs:Array Value}(h:ε s=.agg vs)(h1:∀v∈vs.toList,v.oneCell'=true):bN ε w S (b_ s vs.size) vs.toList:=by
 have:∀(n:Nat) (us:List Value),(∀(k:Nat) (v:Value),us[k]?=some v->v.oneCell'=true/\vs[k]?=some v)->us.length=n->bN ε w S (b_ s n) us:=by
  intro n
  induction n with
  |zero=>intro us _ hl;have:=List.eq_nil_of_length_eq_zero hl;subst this;exact trivial
  |succ n ih=>
   intro us hk hl;have e:us=us.take n++[us[n]'(by omega)]:=by
    conv=>lhs;rw[←List.take_append_drop n us]
    rw[List.drop_eq_getElem_cons (by omega),List.drop_eq_nil_of_le (by omega)]
   have e2:b_ s (n+1)=b_ s n++[D.mr s n]:=by simp[b_,List.range_succ]
   rw[e,e2];refine bR (ih _ (fun k v hv=>?_) (by simp;omega)) ⟨?_,trivial⟩
   ·have hlt:=(List.getElem?_eq_some_iff.1 hv).1;rw[List.length_take]at hlt;rw[List.getElem?_take_of_lt (by omega)]at hv;exact hk k v hv
   ·have:=hk n _ (List.getElem?_eq_getElem (by omega));exact⟨this.1,vs,h,this.2⟩
 refine this _ _ (fun k v hv=>⟨h1 v (List.mem_of_getElem? hv),by simpa using hv⟩) (by simp)
theorem ui{ε:Env}{w:World}{S:ck}{l m:List D}{cs:List Value}(h:bN ε w S (l++m) cs):∃us vs,cs=us++vs/\bN ε w S l us/\bN ε w S m vs:=by
 refine⟨cs.take l.length,cs.drop l.length,(List.take_append_drop _ _).symm,?_,?_⟩
 ·have:=eP l.length h
  rwa [List.take_left]at this
 ·have:=fl l.length h
  rwa [List.drop_left]at this
section
variable {P:Program} {os:List Oper} {c:Ctx} {T T':List (Nat×D)} {H H':List (Nat×Hp)} {sps:List Spec}
variable {ops:Array Oper} {dst:Option Nat} {ty:TypeId} {pos:String} {aft:Array Edge}
variable {α:Type} {e:ak α} {te tr:TypeId} {r s:Nat} {M X:List (List α)}
theorem tA{ε:Env}{w:World}{S:ck}{b:Value}{F:ck}{vs:Array Value}(hv:ε s=.agg vs)(h:(Hp.cg e te s X).p ε w S b F):kP 1 te (bT vs.toList++X.map (an e)) ε w S b F:=by
 obtain⟨vs',e1,h⟩:=h;rw[hv]at e1;injection e1 with e1;subst e1;rcases h with⟨h0,h1,h2⟩|⟨g,n,cap,cs,rest,h1,h2,h3,h4,h5,h8,h6,h7⟩
 ·rcases List.append_eq_nil_iff.1 h0 with⟨h3,h4⟩;have:vs.size=0:=by have:=congrArg List.length h3;rwa [bC]at this
  refine .inl ⟨?_,h1,h2⟩;have:vs.toList=[]:=List.eq_nil_of_length_eq_zero (by simpa using this);rw[this,h4];rfl
 ·obtain⟨us,xs,rfl,hu,hx⟩:=ui h7;have:=lJ hv hu;subst this;refine .inr ⟨g,n,cap,_,rest,h1,h2,h3,h4,h5,h8,?_,bR (jT.2 rfl) hx⟩;rw[←h6];simp[bT,bC]
theorem yi{ε:Env}{w:World}{S:ck}{b:Value}{F:ck}{vs:Array Value}(hv:ε s=.agg vs)(h:kP 1 te (bT vs.toList++X.map (an e)) ε w S b F):(Hp.cg e te s X).p ε w S b F:=by
 refine⟨vs,hv,?_⟩;rcases h with⟨h0,h1,h2⟩|⟨g,n,cap,cs,rest,h1,h2,h3,h4,h5,h8,h6,h7⟩
 ·rcases List.append_eq_nil_iff.1 h0 with⟨h3,h4⟩;have:vs.size=0:=by have:=congrArg List.length h3;simpa [bT]using this
  refine .inl ⟨?_,h1,h2⟩;rw[this,h4];rfl
 ·obtain⟨us,xs,rfl,hu,hx⟩:=ui h7;have:=jT.1 hu;subst this;refine .inr ⟨g,n,cap,_,rest,h1,h2,h3,h4,h5,h8,?_,bR (qh hv (fun v hv=>h4 v (by simp[hv]))) hx⟩;rw[←h6];simp[bT,bC]
theorem Bj{K:List Nat}{q:Nat}:af (K.map fun k=>(k,Hp.dead)) q=if q∈K then some .dead else none:=by
 induction K with
 |nil=>rfl
 |cons k K ih=>
  simp only[List.map_cons,af]
  cases hb:Nat.beq q k with
  |true=>rw[Nat.eq_of_beq_eq_true hb];simp
  |false=>
   have hne:q≠k:=fun e=>by subst e;simp at hb
   dsimp only;rw[ih];simp[hne]
theorem cd.wk{T0:Nat->Option D}{H0:Nat->Option Hp}{a:Act}{w:World}{ε:Env}{φ:Nat->ck}(hs:cd c T0 H0 a w ε φ)(K:List Nat)(hK:∀q∈K,H0 q≠none){s2:Nat}(hs2:H0 s2=none)(hr:H0 r≠none)(hrK:r∉K)
  (vs:Array Value)(G:Nat->ck)(hsz:vs.size=M.length)
  (hrows:∀k xs v,M[k]?=some xs->vs[k]?=some v->(aR e tr xs).p ε w (Am.al c H0 φ) v (G k))
  (hdj:∀k k',k<M.length->k'<M.length->k≠k'->∀i,G k i->¬G k' i)
  (hG:∀k,k<M.length->∀i,G k i->∃q∈K,φ q i)
  (cZ:kP 1 te (bT vs.toList++X.map (an e)) ε w (Am.al c H0 φ) (ε r) (φ r)):
  Sat c T0 (bf H0 ((r,.cg e te s2 X)::(s2,.store e tr M)::K.map fun k=>(k,Hp.dead))) a w:=by
 have hr2:r≠s2:=fun e=>hr (e▸hs2);have hK2:∀q∈K,q≠s2:=fun q hq e=>hK q hq (e▸hs2);have hL:∀q,af ((r,Hp.cg e te s2 X)::(s2,Hp.store e tr M)::K.map fun k=>(k,Hp.dead)) q=if q=r then some (Hp.cg e te s2 X)else if q=s2 then some (Hp.store e tr M)else if q∈K then some .dead else none:=by
  intro q;simp only[af]
  cases h1:Nat.beq q r with
  |true=>rw[if_pos (Nat.eq_of_beq_eq_true h1)]
  |false=>
   rw[if_neg (fun e=>by subst e;simp at h1)]
   cases h2:Nat.beq q s2 with
   |true=>rw[if_pos (Nat.eq_of_beq_eq_true h2)]
   |false=>rw[if_neg (fun e=>by subst e;simp at h2)];exact Bj
 let φ':Nat->ck:=fun q=>if q=s2 then(fun i=>∃k,k<M.length/\G k i)else if q∈K then noBlocks else φ q
 have f1:φ' s2=fun i=>∃k,k<M.length/\G k i:=by simp[φ']
 have f2:∀q∈K,φ' q=noBlocks:=fun q hq=>by simp[φ',hK2 q hq,hq]
 have f3:∀q,q≠s2->q∉K->φ' q=φ q:=fun q h1 h2=>by simp[φ',h1,h2]
 refine⟨db ε s2 (.agg vs),φ',(hs.wm (fun q hq=>aB _ _ (show q≠s2 from fun e=>hq (e▸hs2))) (fun q hq=>?_) (fun q k hq hk=>?_) (fun q q' hq hq' hne k hk=>?_) (fun q x hq=>?_) (fun q x hq q' hq'=>?_)).1⟩
 ·rw[hL]at hq;refine f3 q (fun e=>?_) (fun h=>?_)
  ·subst e;simp[Ne.symm hr2]at hq
  ·by_cases h1:q=r
   ·subst h1;exact hrK h
   ·simp[h1,hK2 q h,h]at hq
 ·by_cases h2:q=s2
  ·subst h2;rw[f1]at hk;obtain⟨j,hj,hg⟩:=hk;obtain⟨q',h3,h4⟩:=hG j hj k hg;refine⟨q',hK q' h3,?_,h4⟩;rw[hL,if_neg (show q'≠r from fun e=>hrK (e▸h3)),if_neg (hK2 q' h3),if_pos h3];simp
  ·by_cases h3:q∈K
   ·rw[f2 q h3]at hk;exact hk.elim
   ·rw[f3 q h2 h3]at hk;have:q=r:=by
     rw[hL]at hq;by_cases h1:q=r
     ·exact h1
     ·simp[h1,h2,h3]at hq
    subst this;exact⟨q,hr,by rw[hL,if_pos rfl];simp,hk⟩
 ·have cls:∀q,af ((r,Hp.cg e te s2 X)::(s2,Hp.store e tr M)::K.map fun k=>(k,Hp.dead)) q≠none->q=r\/q=s2\/q∈K:=by
   intro q h;rw[hL]at h;by_cases h1:q=r
   ·exact .inl h1
   ·by_cases h2:q=s2
    ·exact .inr (.inl h2)
    ·by_cases h3:q∈K
     ·exact .inr (.inr h3)
     ·simp[h1,h2,h3]at h
  have notG:∀j,j<M.length->∀i,G j i->¬φ r i:=fun j hj i hg hf=>by
   obtain⟨q',h3,h4⟩:=hG j hj i hg;exact hs.dj q' r (hK q' h3) hr (fun e=>hrK (e▸h3)) i h4 hf
  rcases cls q hq with rfl|rfl|h
  ·rw[f3 q hr2 hrK]at hk;rcases cls q' hq' with rfl|rfl|h'
   ·exact absurd rfl hne
   ·rw[f1];rintro⟨j,hj,hg⟩;exact notG j hj k hg hk
   ·rw[f2 q' h'];exact fun h=>h
  ·rw[f1]at hk;obtain⟨j,hj,hg⟩:=hk;rcases cls q' hq' with rfl|rfl|h'
   ·rw[f3 q' hr2 hrK];exact notG j hj k hg
   ·exact absurd rfl hne
   ·rw[f2 q' h'];exact fun h=>h
  ·rw[f2 q h]at hk;exact hk.elim
 ·have hS:∀k,Am.al c H0 φ k->Am.al c (bf H0 ((r,Hp.cg e te s2 X)::(s2,Hp.store e tr M)::K.map fun k=>(k,Hp.dead))) φ' k:=by
   intro k hk;refine⟨hk.1,fun q' hq' hf=>?_⟩;by_cases h2:q'=s2
   ·subst h2;rw[f1]at hf;obtain⟨j,hj,hg⟩:=hf;obtain⟨q2,h3,h4⟩:=hG j hj k hg;exact hk.2 q2 (hK q2 h3) h4
   ·by_cases h3:q'∈K
    ·rw[f2 q' h3]at hf;exact hf
    ·rw[f3 q' h2 h3]at hf;refine hk.2 q' (fun h0=>hq' ?_) hf;have h1:q'≠r:=fun e=>hr (e▸h0);simp only[bf];rw[hL,if_neg h1,if_neg h2,if_neg h3];exact h0
  have hS':∀k,Am.al c H0 φ k->k<w.heap.size->Am.al c (bf H0 ((r,Hp.cg e te s2 X)::(s2,Hp.store e tr M)::K.map fun k=>(k,Hp.dead))) φ' k/\w.heap[k]?=w.heap[k]?:=fun k hk _=>⟨hS k hk,rfl⟩;rw[hL]at hq;by_cases h1:q=r
  ·subst h1;rw[if_pos rfl]at hq;injection hq with hq;subst hq;rw[aB _ _ hr2,f3 q hr2 hrK];refine yi (aq _ _ _) (oh cZ (fun q' hq'=>?_) hS' (fun _ _=>rfl));rw[dB (dq _) (mH e X)]at hq';cases hq'
  ·rw[if_neg h1]at hq;by_cases h2:q=s2
   ·subst h2;rw[if_pos rfl]at hq;injection hq with hq;subst hq;rw[f1,aq];exact⟨vs,G,rfl,hsz,fun k xs v hx hv=>(aR e tr xs).mono (hrows k xs v hx hv) (fun q' hq'=>by cases hq') hS' (fun _ _=>rfl),hdj,fun i=>Iff.rfl⟩
   ·rw[if_neg h2]at hq;by_cases h3:q∈K
    ·rw[if_pos h3]at hq;injection hq with hq;subst hq;rw[f2 q h3];rfl
    ·rw[if_neg h3]at hq;cases hq
 ·rw[hL]at hq;by_cases h1:q=r
  ·rw[if_pos h1]at hq;injection hq with hq;subst hq;have:q'=s2:=by simpa [Hp.cg]using hq'
   subst this
   right
   rw[hL,if_neg (Ne.symm hr2),if_pos rfl];simp
  ·rw[if_neg h1]at hq;by_cases h2:q=s2
   ·rw[if_pos h2]at hq;injection hq with hq;subst hq;cases hq'
   ·rw[if_neg h2]at hq;by_cases h3:q∈K
    ·rw[if_pos h3]at hq;injection hq with hq;subst hq;cases hq'
    ·rw[if_neg h3]at hq;cases hq
theorem ai.JO{t te:TypeId}{r:Nat}{parts:List (Nat×Operand)}{m bt n:Nat}{z:List D}(l:List D)(q:List (Nat×Operand×D×List D))(hm:oj P t=some (te,m,bt,z))(hs:Nat.ble (n*m) 16777216=true)(hn0:Nat.blt 0 n=true)(hq:iQ (B7 m 0 n) (n*m) parts q)(he:∀x∈qs q,ev T x.1=some x.2)
  (hle:over (List.replicate n z).flatten q=l)(hln:l.length=n*m)(hnq:∀r'∈bD l,∃x∈qs q,r'∈x.2.nm)(hf:af H r=none)
  (hr:ai P ops c os ((r,.own r)::T) ((r,Hp.dY m te l)::H) sps T' H'):
  ai P ops c (⟨some r,.buildSlice t n parts.toArray,ty,pos,aft,none⟩::os) T H (rws (qs q) r (Hp.dY m te l)::sps) T' H':=by
 refine .cons (sp:=rws (qs q) r (Hp.dY m te l)) ?_ (eI he) trivial ⟨hf,trivial⟩ hr;intro hd T0 H0 hi _ hnew a w ⟨ε,φ,hs'⟩ Q K hK;rw[if_pos (a_ rfl _)];have hx:∀x∈qs q,fq T0 (eN x.1 x.2):=cJ hi;obtain⟨i,v,hu,hinf,hzv,hsz,_,ez,hv1,hvs,hm0⟩:=gh hm;obtain⟨hpl,hg⟩:=j2 hq;have hn1:0<n:=by simpa using hn0
 have hcs:=eZ hvs hm0 n;have hz0:bN ε w (al c H0 φ) (List.replicate n z).flatten (madeCells v.cells (n*m)).toList:=by rw[hcs,ez];exact fI (jb _ _ _ _) _
 have hzl:(List.replicate n z).flatten.length=n*m:=by
  have h1:v.cells.toList.length=m:=by rw[Array.length_toList,hvs]
  rw[gB,ez,List.length_map,h1]
 obtain⟨cs',hfl,hA,hO⟩:=mu (a:=a) (place:=fun i=>some (i*m,m)) hpl (fun k u x hu' hx=>by
  have:=hg k u x hu' hx;have h2:=sr m 0 n u.1 _ this.2.1;simp only[Prod.mk.injEq,Nat.zero_add]at h2;exact⟨this.1,by rw[h2.1,h2.2],this.2.2.1,by rw[hzl];exact this.2.2.2⟩) hz0 (by
   intro u hu';rw[hcs]at hu';simp only[List.mem_flatten,List.mem_replicate]at hu';obtain⟨l',⟨_,rfl⟩,hu'⟩:=hu';exact hv1 u hu') (fun x hxm=>(hs'.ev (hx (x.2.1,x.2.2.1) (List.mem_map.2 ⟨x,hxm,rfl⟩)) (aw (he (x.2.1,x.2.2.1) (List.mem_map.2 ⟨x,hxm,rfl⟩))).2).1)
 have live:∀r'∈bD l,H0 r'≠none:=fun r' hr'=>by
  obtain⟨x,hxm,hr2⟩:=hnq r' hr';exact(hs'.ev (hx x hxm) (aw (he x hxm)).2).2 r' hr2
 have hlim:¬(n*m>2^24):=by have:=Nat.le_of_ble_eq_true hs;omega
 have hf':Instr.fill (fun i=>some (i*m,m)) (madeCells v.cells (n*m)) (parts.map fun x=>(x.1,a.eval x.2))=some cs':=hfl;have h0:¬(n*m=0):=by
  intro h;rcases Nat.mul_eq_zero.1 h with h|h<;>omega
 have hrun:(execOp a.eval ⟨some r,.buildSlice t n parts.toArray,ty,pos,aft,none⟩).run P w=.ok (.value (.slice (some ⟨w.heap.size,0,none⟩) n n)) (w.alloc (.cells cs' te)):=by
  simp only[execOp,Instr.buildSlice,run_underlying hu,Sem.run_bind,Result.andThen_ok,sizeOf,typeInfo,run_program,hinf,Sem.run_pure,hsz];simp[hlim,h0,zeroValue,typeInfo,hinf,hzv,newRow];rw[show(Array.map (fun x=>v.cells[x%v.cells.size]!) (Array.range (n*m)))=madeCells v.cells (n*m)from rfl,hf'];simp
 simp only[Oper.wp,hrun,Oper.upon];rw[hle]at hA;have hlen:=aL hA;have hmx:n<=maxLen:=by
  have h1:=Nat.le_of_ble_eq_true hs;have h2:n*1<=n*m:=Nat.mul_le_mul_left _ hm0;unfold maxLen;omega
 have hA':bN (db ε r (.slice (some ⟨w.heap.size,0,none⟩) n n)) (w.alloc (.cells cs' te)) (Am.al c (bf H0 [(r,Hp.dY m te l)]) (db φ r (only w.heap.size))) (l) cs'.toList:=by
  refine bF (fun k hk hlt=>⟨⟨hk.1,fun r' hr'=>?_⟩,Below.heap_alloc _ _ _ hlt⟩) hA (fun r' hr'=>aB _ _ (fun e'=>live r' hr' (e'▸hnew.1)));rw[bu]at hr';by_cases e':r'=r
  ·subst e';rw[aq];intro hf';simp only[only]at hf';omega
  ·rw[aB _ _ e']at hr'|-;exact hk.2 r' hr'
 have hN:=hs'.lB (x:=Hp.dY m te l) (b:=.slice (some ⟨w.heap.size,0,none⟩) n n) (F:=only w.heap.size) (w':=w.alloc (.cells cs' te)) (r:=r) hnew.1 ((Below.refl _ _).alloc (Nat.le_refl _) _)
  (fun k hk=>by simp only[only]at hk;subst hk;simp)
  (.inr ⟨w.heap.size,n,n,cs'.toList,[],rfl,rfl,by rw[ia,List.append_nil],hO,by rw[List.append_nil,hlen,hln],hmx,hln,hA'⟩) live
 exact hK _ _ ⟨_,_,hN.put (dst:=some r) (d:=.own r) (cU hd) ⟨(aq _ _ _).symm,rfl⟩ (by simp[D.own,bu,aq])⟩
end
end Go.Am
namespace Go.Am
open Go.RowKit
theorem qS{H:Nat->Option Hp}{r:Nat}{y:Hp}{L:List (Nat×Hp)}(h:af L r≠none):bf (bf H [(r,y)]) L=bf H L:=by
 funext q
 simp only[bf]
 cases hq:af L q with
 |some _=>rfl
 |none=>
  simp only[af]
  cases hb:Nat.beq q r with
  |true=>rw[Nat.eq_of_beq_eq_true hb]at hq;exact absurd hq h
  |false=>rfl
theorem mS{α:Type}(e:ak α):∀X:List (List α),flat (ak.slice e) X=X.map (an e)
 |[]=>rfl
 |x::X=>by
  have ih:=mS e X;show(x::X).flatMap (fun l=>[an e l])=_;rw[List.flatMap_cons,List.map_cons];show [an e x]++flat (ak.slice e) X=_;rw[ih];rfl
theorem mL(vs:List Value):(bT vs).length=vs.length:=by simp[bT]
section
variable {P:Program} {os:List Oper} {c:Ctx} {T T':List (Nat×D)} {H H':List (Nat×Hp)} {sps:List Spec}
variable {ops:Array Oper} {dst:Option Nat} {ty:TypeId} {pos:String} {aft:Array Edge}
variable {α:Type} {e:ak α} {te tr:TypeId} {r s:Nat} {M X:List (List α)}
theorem Ok.H7{α:Type}{x:Code}{Q:Exit->Act->World->Prop}(e:ak α)(t r s:Nat)(te tr:TypeId)(ht:aM T t=some .nil)(hf:af H r=none)(hf2:af H s=none)(hne:Nat.beq r s=false)
  (h:Ok P c ((t,.own r)::T) ((r,.cg e te s [])::(s,.store e tr [])::H) x Q):Ok P c T H x Q:=by
 intro a w ⟨ε,φ,hs⟩;have hne':r≠s:=fun e=>by subst e;simp at hne
 have hN:=hs.lB (x:=.store e tr []) (b:=.agg #[]) (F:=noBlocks) (r:=s) hf2 (Below.refl _ _) (fun k hk=>hk.elim)
  ⟨#[],fun _=>noBlocks,rfl,rfl,(fun k xs v hx=>by simp at hx),(fun k k' hk=>by simp at hk),fun i=>⟨fun h=>h.elim,fun⟨k,hk,_⟩=>by simp at hk⟩⟩ (fun r' hr'=>by cases hr')
 have hr0:bf (af H) [(s,Hp.store e tr [])] r=none:=by rw[bu,aB _ _ hne'];exact hf
 have hN2:=hN.lB (x:=.cg e te s []) (b:=.slice none 0 0) (F:=noBlocks) (r:=r) hr0 (Below.refl _ _) (fun k hk=>hk.elim)
  ⟨#[],by rw[aB _ _ (Ne.symm hne'),aq],.inl ⟨rfl,rfl,rfl⟩⟩ (fun r' hr'=>by
   have:r'=s:=by simpa [Hp.cg]using hr'
   subst this;rw[bu,aq];simp)
 have hv:a.tmps.getD t undef=.slice none 0 0:=hs.t t _ ht;refine h a w ⟨_,_,yL (Sat_ext' hN2 (fun r'=>?_)) ⟨by rw[hv,aq],by rw[hv];rfl⟩ (fun r' hr'=>?_)⟩
 ·rw[bq,bq];rfl
 ·have:r'=r:=by simpa [D.own]using hr'
  subst this;simp[af]
where
 Sat_ext' {c:Ctx} {T:Nat->Option D} {H H':Nat->Option Hp} {a:Act} {w:World} {ε:Env} {φ:Nat->ck} (h:cd c T H a w ε φ) (hH:∀r,H r=H' r):cd c T H' a w ε φ:=by
  have:H=H':=funext hH;subst this;exact h
theorem Ok.JL{α:Type}{x:Code}{Q:Exit->Act->World->Prop}{e:ak α}{te:TypeId}{X:List (List α)}(r s:Nat)(tr:TypeId)(hh:af H r=some (aR (ak.slice e) te X))(hf:af H s=none)
  (h:Ok P c T ((r,.cg e te s X)::(s,.store e tr [])::H) x Q):Ok P c T H x Q:=by
 intro a w ⟨ε,φ,hs⟩;have hne:r≠s:=fun e=>by subst e;rw[hh]at hf;cases hf
 have hN:=hs.lB (x:=.store e tr []) (b:=.agg #[]) (F:=noBlocks) (r:=s) hf (Below.refl _ _) (fun k hk=>hk.elim)
  ⟨#[],fun _=>noBlocks,rfl,rfl,(fun k xs v hx=>by simp at hx),(fun k k' hk=>by simp at hk),fun i=>⟨fun h=>h.elim,fun⟨k,hk,_⟩=>by simp at hk⟩⟩ (fun r' hr'=>by cases hr')
 have hr0:bf (af H) [(s,Hp.store e tr [])] r=some (aR (ak.slice e) te X):=by rw[bu,aB _ _ hne];exact hh
 have hrow:=hN.h r _ hr0;have hfl:flat (ak.slice e) X=X.map (an e):=mS e X;have hT:=hN.tell (y:=.cg e te s X) hr0 ⟨#[],aq _ _ _,by
  have h2:kP 1 te (flat (ak.slice e) X) _ _ _ _ _:=hrow;rw[hfl]at h2;exact h2⟩ (fun r' hr'=>by
   have:r'=s:=by simpa [Hp.cg]using hr'
   subst this;rw[bu,aq];simp)
 refine h a w (Sat.ext (T:=aM T) (H:=bf (bf (af H) [(s,.store e tr [])]) [(r,.cg e te s X)]) ⟨_,_,hT⟩ (fun _=>rfl) (fun r'=>?_));rw[bq,bq];rfl
theorem oz{e:ak α}{te:TypeId}{xs:List α}{ε:Env}{w:World}{S S':ck}{b:Value}{F:ck}(h:(aR e te xs).p ε w S b F)(hm:0<e.n)(hS:∀k,S k->S' k)(hF:∀k,F k->S' k):(an e xs).p ε w S' b:=by
 rcases h with⟨e0,eb,_⟩|⟨g,n',cap,cs,rest,eb,eF',hg,h1',hcap,_,hln,hcs⟩
 ·have h0:=bp e xs;rw[e0]at h0;have:xs.length=0:=by rcases Nat.mul_eq_zero.1 h0.symm with h|h<;>omega
  exact⟨none,0,by rw[eb,this],by omega,bp e xs,.inl this⟩
 ·have hn':n'=xs.length:=Nat.eq_of_mul_eq_mul_right hm (hln.symm.trans (bp e xs));subst hn';refine⟨some ⟨g,0,none⟩,cap,eb,?_,bp e xs,.inr ⟨g,0,rfl,hF g (by rw[eF'];rfl),(cs++rest).toArray,te,(0,0),cs,hg,fun j u hj=>?_,h1',?_⟩⟩
  ·have hle:xs.length*e.n<=cap*e.n:=by rw[←hcap,List.length_append,aL hcs,bp];omega
   exact Nat.le_of_mul_le_mul_right hle hm
  ·rw[Nat.zero_add];simp only[List.getElem?_toArray];rw[List.getElem?_append_left (List.getElem?_eq_some_iff.1 hj).1];exact hj
  ·exact bF (fun k hk _=>⟨hS k hk,rfl⟩) hcs (by rw[dN];intro r' hr';cases hr')
theorem Ok.CB{x:Code}{Q:Exit->Act->World->Prop}(t:Nat)(ht:aM T t=some (.own r))(hh:af H r=some (.cg e te s []))(hk:af H s=some (.store e tr M))(hm:Nat.blt 0 e.n=true)(hne:Nat.beq r s=false)
  (h:Ok P c ((t,an (ak.slice e) M)::T) ((r,.dead)::(s,.dead)::H) x Q):Ok P c T H x Q:=by
 intro a w ⟨ε,φ,hs⟩;have hm0:0<e.n:=by simpa using hm
 have hne':r≠s:=fun e=>by subst e;simp at hne
 have hv:a.tmps.getD t undef=ε r:=(hs.t t _ ht).1;have cZ:=hs.h r _ hh;have hsto:=hs.h s _ hk;have hrow:=lk cZ hsto
 let φ':Nat->ck:=db (db φ r noBlocks) s noBlocks
 have f1:φ' r=noBlocks:=by show db (db φ r noBlocks) s noBlocks r=_;rw[aB _ _ hne',aq]
 have f2:φ' s=noBlocks:=aq _ _ _;have f3:∀q,q≠r->q≠s->φ' q=φ q:=fun q h1 h2=>by show db (db φ r noBlocks) s noBlocks q=_;rw[aB _ _ h2,aB _ _ h1]
 have hL:∀q,af [(r,Hp.dead),(s,Hp.dead)] q=if q=r then some .dead else if q=s then some .dead else none:=by
  intro q;simp only[af]
  cases h1:Nat.beq q r with
  |true=>rw[if_pos (Nat.eq_of_beq_eq_true h1)]
  |false=>
   rw[if_neg (fun e=>by subst e;simp at h1)]
   cases h2:Nat.beq q s with
   |true=>rw[if_pos (Nat.eq_of_beq_eq_true h2)]
   |false=>rw[if_neg (fun e=>by subst e;simp at h2)]
 have cls:∀q,af [(r,Hp.dead),(s,Hp.dead)] q≠none->φ' q=noBlocks:=by
  intro q h;rw[hL]at h;by_cases h1:q=r
  ·rw[h1,f1]
  ·by_cases h2:q=s
   ·rw[h2,f2]
   ·simp[h1,h2]at h
 have hR:=hs.wm (L:=[(r,.dead),(s,.dead)]) (ε':=ε) (φ':=φ') (fun _ _=>rfl) (fun q hq=>by
   rw[hL]at hq;by_cases h1:q=r
   ·simp[h1]at hq
   ·by_cases h2:q=s
    ·simp[h1,h2]at hq
    ·exact f3 q h1 h2) (fun q k hq hk=>by rw[cls q hq]at hk;exact hk.elim) (fun q q' hq hq' _ k hk=>by rw[cls q hq]at hk;exact hk.elim)
   (fun q y hq=>by
    have:φ' q=noBlocks:=cls q (by rw[hq];simp);rw[hL]at hq;by_cases h1:q=r
    ·rw[if_pos h1]at hq;injection hq with hq;subst hq;exact this
    ·rw[if_neg h1]at hq;by_cases h2:q=s
     ·rw[if_pos h2]at hq;injection hq with hq;subst hq;exact this
     ·rw[if_neg h2]at hq;cases hq)
   (fun q y hq q' hq'=>by
    rw[hL]at hq;by_cases h1:q=r
    ·rw[if_pos h1]at hq;injection hq with hq;subst hq;cases hq'
    ·rw[if_neg h1]at hq;by_cases h2:q=s
     ·rw[if_pos h2]at hq;injection hq with hq;subst hq;cases hq'
     ·rw[if_neg h2]at hq;cases hq)
 have hSr:∀q,(q=r\/q=s)->∀k,φ q k->Am.al c (bf (af H) [(r,.dead),(s,.dead)]) φ' k:=by
  intro q hq k hk;have hq0:af H q≠none:=by rcases hq with rfl|rfl<;>simp[hh,hk]
  have hlo:=hs.lo q hq0 k hk;refine⟨hlo.1.elim (fun h=>.inr (.inl h)) (fun h=>.inr (.inr h)),fun q' hq' hf=>?_⟩;by_cases h1:q'=r
  ·rw[h1,f1]at hf;exact hf
  ·by_cases h2:q'=s
   ·rw[h2,f2]at hf;exact hf
   ·rw[f3 q' h1 h2]at hf;have h0:af H q'≠none:=by
     intro h0;apply hq';simp only[bf];rw[hL,if_neg h1,if_neg h2];exact h0
    exact hs.dj q q' hq0 h0 (by rcases hq with rfl|rfl<;>exact Ne.symm (by assumption)) k hk hf
 refine h a w ⟨ε,φ',xB (by
  have:=hR.1;rw[bq]at this;exact this) ?_ rfl⟩
 have hreg:∀k,Am.al c (af H) φ k->Am.al c (af ([(r,Hp.dead),(s,Hp.dead)]++H)) φ' k:=by rw[←bq];exact hR.2
 rw[bq]at hSr;obtain⟨vs,G,e1,e2,e3,e4,e5⟩:=hsto;rw[List.map_nil,List.append_nil]at hrow;have hfl:flat (ak.slice e) M=M.map (an e):=mS e M;have hrow2:kP 1 te (M.map (an e)) ε w (Am.al c (af ([(r,Hp.dead),(s,Hp.dead)]++H)) φ') (ε r) (φ r):=by
  rcases hrow with⟨h0,h1,h2⟩|⟨g,n,cap,cs,rest,h1,h2,h3,h4,h5,h8,h6,h7⟩
  ·have:M.length=0:=by have:=congrArg List.length h0;rwa [bC]at this
   have:M=[]:=List.eq_nil_of_length_eq_zero this;exact .inl ⟨by rw[this];rfl,h1,h2⟩
  ·refine .inr ⟨g,n,cap,cs,rest,h1,h2,h3,h4,h5,h8,by rw[←h6];simp[bC],?_⟩;have hcl:=aL h7;rw[bC]at hcl;have key:∀(N:List (List α)) (us:List Value),us.length=N.length->(∀(k:Nat) (xs:List α) (v:Value),N[k]?=some xs->us[k]?=some v->(an e xs).p ε w (Am.al c (af ([(r,Hp.dead),(s,Hp.dead)]++H)) φ') v)->bN ε w (Am.al c (af ([(r,Hp.dead),(s,Hp.dead)]++H)) φ') (N.map (an e)) us:=by
    intro N
    induction N with
    |nil=>intro us hl _;have:=List.eq_nil_of_length_eq_zero hl;subst this;exact trivial
    |cons x N ih=>
     intro us hl hk'
     cases us with
     |nil=>simp at hl
     |cons u us=>
      exact⟨hk' 0 x u rfl rfl,ih us (by simpa using hl) (fun k xs v hx hv=>hk' (k+1) xs v (by simpa using hx) (by simpa using hv))⟩
   refine key M cs hcl (fun k xs v hx hv=>?_);have hkl:k<M.length:=(List.getElem?_eq_some_iff.1 hx).1;have hv2:vs[k]?=some v:=by
    have:=lJ (s:=s) (S:=Am.al c (af H) φ) (w:=w) e1 (by rw[e2];exact h7);rw[this]at hv;simpa using hv
   exact oz (e3 k xs v hx hv2) hm0 hreg (fun i hi=>hSr s (.inr rfl) i ((e5 i).2 ⟨k,hkl,hi⟩))
 have:=oz (e:=ak.slice e) (te:=te) (xs:=M) (F:=φ r) (S:=Am.al c (af ([(r,Hp.dead),(s,Hp.dead)]++H)) φ') (by show kP 1 te (flat (ak.slice e) M) _ _ _ _ _;rw[hfl];exact hrow2) (show 0<1 by decide) (fun _ h=>h) (fun i hi=>hSr r (.inl rfl) i hi);rw[hv];exact this
end
end Go.Am
namespace Go.Am
open Go.RowKit
section
variable {P:Program} {os:List Oper} {c:Ctx} {T T':List (Nat×D)} {H H':List (Nat×Hp)} {sps:List Spec}
variable {ops:Array Oper} {dst:Option Nat} {ty:TypeId} {pos:String} {aft:Array Edge}
variable {α:Type} {e:ak α} {te tr:TypeId} {r s:Nat} {M X:List (List α)}
theorem cd.Cn{T0:Nat->Option D}{H0:Nat->Option Hp}{a:Act}{w:World}{ε:Env}{φ:Nat->ck}(hs:cd c T0 H0 a w ε φ){x:Hp}{l:List D}{z:Nat}{d:D}{v:Value}(hr:H0 r=some x)(hx:kP 1 te l ε w (Am.al c H0 φ) (ε r) (φ r))(hz:z<l.length)(hv:v.oneCell'=true)(hd:d.p ε w (Am.al c H0 φ) v)(hnm:∀q∈bD (l.set z d),H0 q≠none):
  ∃w',(storeCells (⟨j3 (ε r),z,none⟩:Addr) [v]).run P w=.ok () w'/\cd c T0 (bf H0 [(r,.dY 1 te (l.set z d))]) a w' ε φ:=by
 rcases hx with⟨e0,_,_⟩|⟨g,n',cap,cs,rest,hb,eF,hg,h1,hcap,hmax,hln,hcs⟩
 ·subst e0;simp at hz
 ·have hlen:=aL hcs;have hst:=run_storeCells_at (P:=P) g z te [v] 0 (cs++rest).toArray w hg (by simp;omega) (by simpa using hv);simp only[Nat.add_zero,List.length_singleton]at hst;have hsplit:(cs++rest).take z++[v]++(cs++rest).drop (z+1)=cs.set z v++rest:=by
   rw[List.take_append_of_le_length (by omega),List.drop_append_of_le_length (by omega),List.set_eq_take_append_cons_drop,if_pos (by omega)];simp[List.append_assoc]
  rw[hsplit]at hst;have hfar:∀k,¬φ r k->(w.setRow g (cs.set z v++rest).toArray).heap[k]?=w.heap[k]?:=fun k hk=>fE _ _ _ _ (fun e'=>hk (by rw[eF,e'];rfl));refine⟨w.setRow g (cs.set z v++rest).toArray,(by rw[hb];exact hst),hs.tf hr (by simp[World.setRow]) rfl rfl rfl hfar (.inr ⟨g,n',cap,cs.set z v,rest,hb,eF,setRow_heap w g (cs++rest).toArray _ te _ hg,?_,?_,hmax,?_,?_⟩) hnm⟩
  ·intro u hu;rcases List.mem_or_eq_of_mem_set hu with h|rfl
   ·exact h1 u h
   ·exact hv
  ·rw[←hcap];simp
  ·rw[List.length_set];exact hln
  ·exact bF (fun k hk _=>⟨hk,hfar k (hk.2 r (by simp[hr]))⟩) (uE hd z hcs) (fun _ _=>rfl)
theorem DR{l:List D}{x d:D}{Y:List D}{n:Nat}(h:l.length=n):(l++x::Y).set n d=(l++[d])++Y:=by
 subst h;rw[List.set_append_right _ _ (Nat.le_refl _),Nat.sub_self,List.set_cons_zero,List.append_assoc];rfl
theorem rE(vs:Array Value)(v:Value):bT (vs.push v).toList=bT vs.toList++[D.lit v]:=by simp[bT]
theorem sW(vs:Array Value)(v:Value)(k:Nat)(h:k<vs.size):bT (vs.set k v h).toList=(bT vs.toList).set k (D.lit v):=by simp[bT,List.map_set]
theorem vA{ε:Env}{w:World}{S:ck}{F1:ck}{xs:List α}{vs:Array Value}{G:Nat->ck}{v:Value}(h1:vs.size=M.length)(h2:∀k xs v,M[k]?=some xs->vs[k]?=some v->(aR e tr xs).p ε w S v (G k))(h3:∀k k',k<M.length->k'<M.length->k≠k'->∀i,G k i->¬G k' i)(hx:(aR e tr xs).p ε w S v F1)(hd:∀k,k<M.length->∀i,G k i->¬F1 i):
  ((vs.push v).size=(M++[xs]).length)/\(∀k ys u,(M++[xs])[k]?=some ys->(vs.push v)[k]?=some u->(aR e tr ys).p ε w S u (db G M.length F1 k))/\(∀k k',k<(M++[xs]).length->k'<(M++[xs]).length->k≠k'->∀i,db G M.length F1 k i->¬db G M.length F1 k' i)/\(∀k,k<(M++[xs]).length->∀i,db G M.length F1 k i->(k<M.length/\G k i)\/F1 i):=by
 have gn:db G M.length F1 M.length=F1:=aq _ _ _;have gk:∀k,k<M.length->db G M.length F1 k=G k:=fun k hk=>aB _ _ (by omega);refine⟨by simp[h1],fun k ys u hy hu=>?_,fun k k' hk hk' hne i hi=>?_,fun k hk i hi=>?_⟩
 ·by_cases hk:k<M.length
  ·rw[List.getElem?_append_left hk]at hy;rw[Array.getElem?_push_lt (by omega)]at hu;rw[gk k hk];exact h2 k ys u hy (by rw[←hu];simp[h1,hk])
  ·have hlt:=(List.getElem?_eq_some_iff.1 hy).1;simp only[List.length_append,List.length_singleton]at hlt;have:k=M.length:=by omega
   subst this;rw[gn];simp at hy;subst hy;rw[←h1]at hu;simp at hu;subst hu;exact hx
 ·simp only[List.length_append,List.length_singleton]at hk hk';by_cases a1:k<M.length
  ·rw[gk k a1]at hi;by_cases a2:k'<M.length
   ·rw[gk k' a2];exact h3 k k' a1 a2 hne i hi
   ·have:k'=M.length:=by omega
    subst this;rw[gn];exact hd k a1 i hi
  ·have:k=M.length:=by omega
   subst this;rw[gn]at hi;have a2:k'<M.length:=by omega
   rw[gk k' a2];exact fun h=>hd k' a2 i h hi
 ·simp only[List.length_append,List.length_singleton]at hk;by_cases a1:k<M.length
  ·rw[gk k a1]at hi;exact .inl ⟨a1,hi⟩
  ·have:k=M.length:=by omega
   subst this;rw[gn]at hi;exact .inr hi
def CI(x:Operand)(d:D)(y:Operand)(d':D)(Hi Ho:List (Nat×Hp))(nw:List Nat):Spec:={ins:=eN x d++eN y d',cY:=Hi,out:=.any,cZ:=Ho,news:=nw}
theorem ai.IB{t:TypeId}{x y:Operand}{r1 s2 m:Nat}{z:Int}{x0 xs:List α}(hz:z.toNat=M.length)(h:ev T x=some (.ref r (z.toNat*m)))(hy:ev T y=some (.own r1))(hh:af H r=some (.cg e te s (x0::X)))(hk:af H s=some (.store e tr M))(h1:af H r1=some (aR e tr xs))(hf:af H s2=none)
  (hne:r≠s/\r≠r1/\s≠r1)(hm:m=1)(ht:lay P t=some none)
  (hr:ai P ops c os (bg T dst .any) ((r,.cg e te s2 X)::(s2,.store e tr (M++[xs]))::(s,.dead)::(r1,.dead)::H) sps T' H'):
  ai P ops c (⟨dst,.store t x y,ty,pos,aft,none⟩::os) T H (CI x (.ref r (z.toNat*m)) y (.own r1) [(r,.cg e te s (x0::X)),(s,.store e tr M),(r1,aR e tr xs)] [(r,.cg e te s2 X),(s2,.store e tr (M++[xs])),(s,.dead),(r1,.dead)] [s2]::sps) T' H':=by
 subst hm;refine .cons (sp:=CI x (.ref r (z.toNat*1)) y (.own r1) [(r,.cg e te s (x0::X)),(s,.store e tr M),(r1,aR e tr xs)] [(r,.cg e te s2 X),(s2,.store e tr (M++[xs])),(s,.dead),(r1,.dead)] [s2]) ?_ (aU.2 ⟨(aw h).1,(aw hy).1⟩) ⟨hh,hk,h1,trivial⟩ ⟨hf,trivial⟩ hr;intro hdst T0 H0 hi cY hnew a w ⟨ε,φ,hs⟩ Q K hK;rw[if_pos (a_ rfl _)];obtain⟨hi1,hi2⟩:=aU.1 hi;have hx:a.eval x=.pointer (some ⟨j3 (ε r),z.toNat*1,none⟩):=(hs.ev hi1 (aw h).2).1;obtain⟨hye,hyo⟩:=(hs.ev hi2 (aw hy).2).1;obtain⟨hr0,hs0,hr10,_⟩:=cY;obtain⟨vs,G,e1,e2,_⟩:=hs.h s _ hs0;have hrow:=tA e1 (hs.h r _ hr0);have hl1:(bT vs.toList).length=M.length:=by rw[mL];simpa using e2
 have hset:(bT vs.toList++(x0::X).map (an e)).set M.length (D.lit (ε r1))=bT (vs.push (ε r1)).toList++X.map (an e):=by
  rw[List.map_cons,DR hl1,rE]
 obtain⟨w',hst,hS⟩:=hs.Cn (P:=P) (z:=M.length) (d:=D.lit (ε r1)) (v:=ε r1) hr0 hrow (by simp[hl1]) (hye▸hyo) rfl (fun q hq=>by
  rw[hset,dB (dq _) (mH e X)]at hq;cases hq)
 have hrun:(execOp a.eval ⟨dst,.store t x y,ty,pos,aft,none⟩).run P w=.ok .skip w':=by
  have hcl:(a.eval y).cells=#[ε r1]:=by
   have:(ε r1).oneCell'=true:=hye▸hyo;rw[hye];cases hq:ε r1<;>simp_all [Value.cells,Value.oneCell']
  rw[hz,Nat.mul_one]at hx;simp only[execOp,Instr.storeAt,hx,Instr.sureAddr,Sem.run_bind,Sem.run_pure,Result.andThen_ok,storeVar,(iT ht w).2,hcl];simp[hst]
 simp only[Oper.wp,hrun,Oper.upon];rw[hset]at hS;have u1:bf H0 [(r,.dY 1 te (bT (vs.push (ε r1)).toList++X.map (an e)))] s=some (.store e tr M):=by rw[bu,aB _ _ (Ne.symm hne.1)];exact hs0
 have u2:bf H0 [(r,.dY 1 te (bT (vs.push (ε r1)).toList++X.map (an e)))] r1=some (aR e tr xs):=by rw[bu,aB _ _ (Ne.symm hne.2.1)];exact hr10
 have u3:bf H0 [(r,.dY 1 te (bT (vs.push (ε r1)).toList++X.map (an e)))] r=some (.dY 1 te (bT (vs.push (ε r1)).toList++X.map (an e))):=by rw[bu,aq]
 have u4:bf H0 [(r,.dY 1 te (bT (vs.push (ε r1)).toList++X.map (an e)))] s2=none:=by
  rw[bu,aB _ _ (fun e=>by rw[←e,hnew.1]at hr0;cases hr0)];exact hnew.1
 obtain⟨vs',G',f1,f2,f3,f4,f5⟩:=hS.h s _ u1;rw[e1]at f1;injection f1 with f1;subst f1;obtain⟨g1,g2,g3,g4⟩:=vA f2 f3 f4 (hS.h r1 _ u2) (fun k hk i hi hi'=>hS.dj s r1 (by rw[u1];simp) (by rw[u2];simp) hne.2.2 i ((f5 i).2 ⟨k,hk,hi⟩) hi');have hG:=hS.wk (r:=r) (te:=te) (X:=X) [s,r1] (fun q hq=>by
   simp only[List.mem_cons,List.not_mem_nil,or_false]at hq;rcases hq with rfl|rfl
   ·rw[u1];simp
   ·rw[u2];simp) u4 (by rw[u3];simp) (by simp[hne.1,hne.2.1]) (vs.push (ε r1)) _ g1 g2 g3 (fun k hk i hi=>(g4 k hk i hi).elim (fun h=>⟨s,by simp,(f5 i).2 ⟨k,h.1,h.2⟩⟩) (fun h=>⟨r1,by simp,h⟩)) (hS.h r _ u3)
 rw[qS (by simp[af])]at hG;obtain⟨ε2,φ2,hG⟩:=hG;exact hK _ _ ⟨ε2,φ2,hG.put (d:=.any) (cU hdst) trivial (fun _ h=>by cases h)⟩
end
end Go.Am
namespace Go.Am
open Go.RowKit
section
variable {P:Program} {os:List Oper} {c:Ctx} {T T':List (Nat×D)} {H H':List (Nat×Hp)} {sps:List Spec}
variable {ops:Array Oper} {dst:Option Nat} {ty:TypeId} {pos:String} {aft:Array Edge}
variable {α:Type} {e:ak α} {te tr:TypeId} {r s:Nat} {M X:List (List α)}
theorem ai.Jb{t:TypeId}{x y:Operand}{rl r1 r2 s2 bt:Nat}{z:List D}{dx:D}{xs:List α}(hx:ev T x=some dx)(hle:Le dx (.own r))(hy:ev T y=some (.own rl))(hh:af H r=some (.cg e te s []))(hk:af H s=some (.store e tr M))(hl:af H rl=some (.dY 1 te [.own r1]))(h1:af H r1=some (aR e tr xs))
  (hm:oj P t=some (te,1,bt,z))(hb:(M.length+1)*bt<=140737488355328)(hmax:M.length+1<=9223372036854775807)(hf:af H r2=none)(hf2:af H s2=none)(hne:r≠s/\r≠r1/\s≠r1/\r≠rl/\s≠rl/\r1≠rl/\r2≠s2)
  (hr:ai P ops c os ((r2,.own r2)::T) ((r2,.cg e te s2 [])::(s2,.store e tr (M++[xs]))::(s,.dead)::(r1,.dead)::(rl,.dead)::(r,.dead)::H) sps T' H'):
  ai P ops c (⟨some r2,.call {callee:=.builtin .append,args:=#[x,y],argTypes:=#[t,t]},ty,pos,aft,none⟩::os) T H
   ({ins:=eN x dx++eN y (.own rl),cY:=[(r,.cg e te s []),(s,.store e tr M),(rl,.dY 1 te [.own r1]),(r1,aR e tr xs)],out:=.own r2,cZ:=[(r2,.cg e te s2 []),(s2,.store e tr (M++[xs])),(s,.dead),(r1,.dead),(rl,.dead),(r,.dead)],news:=[r2,s2]}::sps) T' H':=by
 refine .cons (sp:={ins:=eN x dx++eN y (.own rl),cY:=[(r,.cg e te s []),(s,.store e tr M),(rl,.dY 1 te [.own r1]),(r1,aR e tr xs)],out:=.own r2,cZ:=[(r2,.cg e te s2 []),(s2,.store e tr (M++[xs])),(s,.dead),(r1,.dead),(rl,.dead),(r,.dead)],news:=[r2,s2]}) ?_ (aU.2 ⟨(aw hx).1,(aw hy).1⟩) ⟨hh,hk,hl,h1,trivial⟩ ⟨hf,hf2,trivial⟩ hr;intro hdst T0 H0 hi cY hnew a w ⟨ε,φ,hs⟩ Q K hK;rw[if_pos (a_ rfl _)];obtain⟨hi1,hi2⟩:=aU.1 hi;have hxe:a.eval x=ε r:=(hle.1 _ _ _ _ (hs.ev hi1 (aw hx).2).1).1;have hye:a.eval y=ε rl:=(hs.ev hi2 (aw hy).2).1.1;obtain⟨hr0,hs0,hl0,hr10,_⟩:=cY;obtain⟨hn1,hn2,_⟩:=hnew;have live:∀q y,H0 q=some y->q≠r2/\q≠s2:=fun q y hq=>⟨fun(e':q=r2)=>(by rw[e',hn1]at hq;cases hq),fun(e':q=s2)=>(by rw[e',hn2]at hq;cases hq)⟩;obtain⟨vs,G,e1,e2,_⟩:=hs.h s _ hs0;have hrow:=tA e1 (hs.h r _ hr0);rw[List.map_nil,List.append_nil]at hrow;have hT:=hs.tell (y:=.row 1 te (bT vs.toList) (dq _)) hr0 hrow (fun q hq=>by cases hq);have q1:bf H0 [(r,Hp.row 1 te (bT vs.toList) (dq _))] r=some (.row 1 te (bT vs.toList) (dq _)):=by rw[bu,aq]
 have qn:∀q,q≠r->bf H0 [(r,Hp.row 1 te (bT vs.toList) (dq _))] q=H0 q:=fun q hq=>by rw[bu,aB _ _ hq]
 -- the literal
 rcases hs.h rl _ hl0 with⟨h0,_,_⟩|⟨g,n',cap,cs,rest,hb',eF,hg,hc1,hcap,hmaxc,hln,hcs⟩
 ·cases h0
 have hn':n'=1:=by simpa using hln.symm
 subst hn';have hcs1:cs=[ε r1]:=by
  match cs,hcs with
  |[v],h=>rw[h.1.1]
 subst hcs1;have hv1:(ε r1).oneCell'=true:=hc1 _ (by simp);obtain⟨v',w',ε',φ',hrun,hS,ev',ho,hεε⟩:=hT.H5 (P:=P) (ty:=ty) hm (r:=r2) (n1:=M.length) (n2:=1) (l2:=[D.lit (ε r1)]) (l:=bT (vs.push (ε r1)).toList) (hl:=dq _) q1 (by rw[qn _ (Ne.symm (live r _ hr0).1)];exact hn1) (by rw[mL];simpa using e2) rfl rfl (rE vs (ε r1)).symm
  (A:=some ⟨g,0,none⟩) (cap2:=cap) (vs:=[ε r1]) (.inr ⟨g,0,rfl,fun j u hj=>by
   rw[Nat.zero_add,iL hg];rw[List.getElem?_append_left (List.getElem?_eq_some_iff.1 hj).1];exact hj⟩) (by simpa using hv1) ⟨rfl,trivial⟩ hb hmax
 have hrun':(Builtin.append_ #[t,t] ty #[a.eval x,a.eval y]).run P w=.ok v' w':=by rw[hxe,hye,hb'];exact hrun
 simp only[Oper.wp,m6 a w w' hrun',Oper.upon];have n1:=live r _ hr0;have n2:=live s _ hs0;have n3:=live r1 _ hr10;have n4:=live rl _ hl0;have hUU:bf (bf H0 [(r,Hp.row 1 te (bT vs.toList) (dq _))]) [(r,.dead),(r2,.row 1 te (bT (vs.push (ε r1)).toList) (dq _))]=bf H0 [(r,.dead),(r2,.row 1 te (bT (vs.push (ε r1)).toList) (dq _))]:=qS (by simp[af]);have hcast:cd c T0 (bf H0 [(r,.dead),(r2,.row 1 te (bT (vs.push (ε r1)).toList) (dq _))]) a w' ε' φ':=by rw[←hUU];exact hS
 clear hS;replace hcast:=hcast.put (dst:=some r2) (d:=.own r2) (cU hdst) ⟨ev'.symm,ho⟩ (fun q hq=>by
  have:q=r2:=by simpa [D.own]using hq
  subst this;rw[gl,aB _ _ (Ne.symm (live r _ hr0).1),aq];simp)
 have U:∀q,q≠r->q≠r2->bf H0 [(r,.dead),(r2,.row 1 te (bT (vs.push (ε r1)).toList) (dq _))] q=H0 q:=fun q h1 h2=>by rw[gl,aB _ _ h1,aB _ _ h2]
 have u1:=(U s (Ne.symm hne.1) n2.1).trans hs0;have u2:=(U r1 (Ne.symm hne.2.1) n3.1).trans hr10;have u5:=(U rl (Ne.symm hne.2.2.2.1) n4.1).trans hl0;have u3:bf H0 [(r,.dead),(r2,.row 1 te (bT (vs.push (ε r1)).toList) (dq _))] r2=some (.row 1 te (bT (vs.push (ε r1)).toList) (dq _)):=by rw[gl,aB _ _ (Ne.symm n1.1),aq]
 have u4:=(U s2 (Ne.symm n1.2) (Ne.symm hne.2.2.2.2.2.2)).trans hn2;obtain⟨vs',G',f1,f2,f3,f4,f5⟩:=hcast.h s _ u1;rw[hεε s n2.1,e1]at f1;injection f1 with f1;subst f1;have hx1:=hcast.h r1 _ u2;rw[hεε r1 n3.1]at hx1;obtain⟨g1,g2,g3,g4⟩:=vA f2 f3 f4 hx1 (fun k hk i hi hi'=>hcast.dj s r1 (by rw[u1];simp) (by rw[u2];simp) hne.2.2.1 i ((f5 i).2 ⟨k,hk,hi⟩) hi');have hG:=hcast.wk (r:=r2) (te:=te) (X:=[]) (e:=e) [s,r1,rl] (fun q hq=>by
   simp only[List.mem_cons,List.not_mem_nil,or_false]at hq;rcases hq with rfl|rfl|rfl
   ·rw[u1];simp
   ·rw[u2];simp
   ·rw[u5];simp) u4 (by rw[u3];simp) (by simp[Ne.symm n2.1,Ne.symm n3.1,Ne.symm n4.1]) (vs.push (ε r1)) _ g1 g2 g3 (fun k hk i hi=>(g4 k hk i hi).elim (fun h=>⟨s,by simp,(f5 i).2 ⟨k,h.1,h.2⟩⟩) (fun h=>⟨r1,by simp,h⟩)) (by
    rw[List.map_nil,List.append_nil];exact hcast.h r2 _ u3)
 have hfin:bf (bf H0 [(r,.dead),(r2,.row 1 te (bT (vs.push (ε r1)).toList) (dq _))]) ((r2,Hp.cg e te s2 [])::(s2,Hp.store e tr (M++[xs]))::[s,r1,rl].map fun k=>(k,Hp.dead))=bf H0 [(r2,.cg e te s2 []),(s2,.store e tr (M++[xs])),(s,.dead),(r1,.dead),(rl,.dead),(r,.dead)]:=by
  funext q
  simp only[bf,af,List.map_cons,List.map_nil];cases Nat.beq q r2<;>cases Nat.beq q s2<;>cases Nat.beq q s<;>cases Nat.beq q r1<;>cases Nat.beq q rl<;>cases Nat.beq q r<;>rfl
 rw[hfin]at hG;exact hK _ _ hG
end
end Go.Am
namespace Go.Am
open Go.RowKit
section
variable {P:Program} {os:List Oper} {c:Ctx} {T T':List (Nat×D)} {H H':List (Nat×Hp)} {sps:List Spec}
variable {ops:Array Oper} {dst:Option Nat} {ty:TypeId} {pos:String} {aft:Array Edge}
variable {α:Type} {e:ak α} {te tr:TypeId} {r s:Nat} {M X:List (List α)}
theorem tW{v:Value}(h:v.oneCell'=true):v.cells=#[v]:=by cases v<;>simp_all [Value.cells,Value.oneCell']
theorem CR{js:List Nat}{q:Nat}(h:q∈bD (js.map (D.mr s))):q=s:=by
 obtain⟨d,hd,hr⟩:=bG.1 h;obtain⟨k,_,rfl⟩:=List.mem_map.1 hd;simpa [D.mr]using hr
theorem Ae{t:TypeId}{x y:Operand}{k m:Nat}{z:Int}{js:List Nat}{hp:Hp}{F:List (List α)}(hrow:∀ε w S A A',hp.p ε w S (ε r) A->(Hp.store e tr F).p ε w S (ε s) A'->kP 1 te (js.map (D.mr s)) ε w S (ε r) A)(hz:z.toNat<js.length)(h:ev T x=some (.ref r (z.toNat*m)))(hy:ev T y=some (.mr s k))(hh:af H r=some hp)(hk:af H s=some (.store e tr F))(hm:m=1)(ht:lay P t=some none)
  (hr:ai P ops c os (bg T dst .any) ((r,.dY 1 te ((js.set z.toNat k).map (D.mr s)))::H) sps T' H'):
  ai P ops c (⟨dst,.store t x y,ty,pos,aft,none⟩::os) T H (CI x (.ref r (z.toNat*m)) y (.mr s k) [(r,hp),(s,.store e tr F)] [(r,.dY 1 te ((js.set z.toNat k).map (D.mr s)))] []::sps) T' H':=by
 subst hm;refine .cons (sp:=CI x (.ref r (z.toNat*1)) y (.mr s k) [(r,hp),(s,.store e tr F)] [(r,.dY 1 te ((js.set z.toNat k).map (D.mr s)))] []) ?_ (aU.2 ⟨(aw h).1,(aw hy).1⟩) ⟨hh,hk,trivial⟩ trivial hr;intro hdst T0 H0 hi cY _ a w ⟨ε,φ,hs⟩ Q K hK;rw[if_pos (a_ rfl _)];obtain⟨hi1,hi2⟩:=aU.1 hi;have hx:a.eval x=.pointer (some ⟨j3 (ε r),z.toNat*1,none⟩):=(hs.ev hi1 (aw h).2).1;have hyv:=(hs.ev hi2 (aw hy).2).1;obtain⟨hr0,hs0,_⟩:=cY;have hro:=hrow ε w _ _ _ (hs.h r _ hr0) (hs.h s _ hs0);have hset:(js.map (D.mr s)).set z.toNat (D.mr s k)=(js.set z.toNat k).map (D.mr s):=by rw[List.map_set]
 obtain⟨w',hst,hS⟩:=hs.Cn (P:=P) (z:=z.toNat) (d:=D.mr s k) (v:=a.eval y) hr0 hro (by simpa using hz) hyv.1 hyv (fun q hq=>by
  rw[hset]at hq;rw[CR hq,hs0];simp)
 have hrun:(execOp a.eval ⟨dst,.store t x y,ty,pos,aft,none⟩).run P w=.ok .skip w':=by
  have hcl:(a.eval y).cells=#[a.eval y]:=tW hyv.1;rw[Nat.mul_one]at hx;simp only[execOp,Instr.storeAt,hx,Instr.sureAddr,Sem.run_bind,Sem.run_pure,Result.andThen_ok,storeVar,(iT ht w).2,hcl];simp[hst]
 simp only[Oper.wp,hrun,Oper.upon];rw[hset]at hS;exact hK _ _ ⟨ε,φ,hS.put (d:=.any) (cU hdst) trivial (fun _ h=>by cases h)⟩
theorem ai.Jn{t:TypeId}{x y:Operand}{k m:Nat}{z:Int}(hz:z.toNat<M.length)(h:ev T x=some (.ref r (z.toNat*m)))(hy:ev T y=some (.mr s k))(hh:af H r=some (.cg e te s []))(hk:af H s=some (.store e tr M))(hm:m=1)(ht:lay P t=some none)
  (hr:ai P ops c os (bg T dst .any) ((r,.dY 1 te (((List.range M.length).set z.toNat k).map (D.mr s)))::H) sps T' H'):
  ai P ops c (⟨dst,.store t x y,ty,pos,aft,none⟩::os) T H (CI x (.ref r (z.toNat*m)) y (.mr s k) [(r,.cg e te s []),(s,.store e tr M)] [(r,.dY 1 te (((List.range M.length).set z.toNat k).map (D.mr s)))] []::sps) T' H':=
 Ae (fun ε w S A A' h1 h2=>by
  have:=lk h1 h2
  rwa [List.map_nil,List.append_nil]at this) (by simpa using hz) h hy hh hk hm ht hr
theorem ai.I8{t:TypeId}{x y:Operand}{k m:Nat}{z:Int}{js:List Nat}(hz:z.toNat<js.length)(h:ev T x=some (.ref r (z.toNat*m)))(hy:ev T y=some (.mr s k))(hh:af H r=some (.dY 1 te (js.map (D.mr s))))(hk:af H s=some (.store e tr M))(hm:m=1)(ht:lay P t=some none)
  (hr:ai P ops c os (bg T dst .any) ((r,.dY 1 te ((js.set z.toNat k).map (D.mr s)))::H) sps T' H'):
  ai P ops c (⟨dst,.store t x y,ty,pos,aft,none⟩::os) T H (CI x (.ref r (z.toNat*m)) y (.mr s k) [(r,.dY 1 te (js.map (D.mr s))),(s,.store e tr M)] [(r,.dY 1 te ((js.set z.toNat k).map (D.mr s)))] []::sps) T' H':=
 Ae (fun _ _ _ _ _ h1 _=>h1) hz h hy hh hk hm ht hr
theorem Cj{ε:Env}{w:World}{S:ck}{vs:Array Value}(h:ε s=.agg vs):∀{js:List Nat} {cs:List Value},bN ε w S (js.map (D.mr s)) cs->cs.length=js.length/\∀(i j:Nat) (v:Value),js[i]?=some j->cs[i]?=some v->vs[j]?=some v:=by
 intro js cs hc;refine⟨by rw[aL hc,List.length_map],fun i j v hj hv=>?_⟩;obtain⟨u,hu,_,vs',e1,e2⟩:=fP hc (show(js.map (D.mr s))[i]?=some (D.mr s j)by rw[List.getElem?_map,hj];rfl);rw[h]at e1;injection e1 with e1;subst e1;rw[hv]at hu;injection hu with hu;subst hu;exact e2
theorem Ok.FZ{x:Code}{Q:Exit->Act->World->Prop}{js:List Nat}{M2:List (List α)}(s2:Nat)(hh:af H r=some (.dY 1 te (js.map (D.mr s))))(hk:af H s=some (.store e tr M))(hf:af H s2=none)(hne:Nat.beq r s=false)(hnd:js.Nodup)(hl:M2.length=js.length)(hM:∀(i j:Nat),js[i]?=some j->M2[i]?=M[j]?/\j<M.length)
  (h:Ok P c T ((r,.cg e te s2 [])::(s2,.store e tr M2)::(s,.dead)::H) x Q):Ok P c T H x Q:=by
 intro a w ⟨ε,φ,hs⟩;have hne':r≠s:=fun e=>by subst e;simp at hne
 obtain⟨vs,G,e1,e2,e3,e4,e5⟩:=hs.h s _ hk;have hrow:kP 1 te (js.map (D.mr s)) ε w (Am.al c (af H) φ) (ε r) (φ r):=hs.h r _ hh;have hG:∃cs:List Value,cs.length=js.length/\(∀(i j:Nat) (v:Value),js[i]?=some j->cs[i]?=some v->vs[j]?=some v)/\kP 1 te (bT cs) ε w (Am.al c (af H) φ) (ε r) (φ r):=by
  rcases hrow with⟨h0,h1,h2⟩|⟨g,n,cap,cs,rest,h1,h2,h3,h4,h5,h8,h6,h7⟩
  ·have:js=[]:=by simpa using h0
   subst this;exact⟨[],rfl,fun i j v hj=>by simp at hj,.inl ⟨rfl,h1,h2⟩⟩
  ·obtain⟨f1,f2⟩:=Cj e1 h7;exact⟨cs,f1,f2,.inr ⟨g,n,cap,cs,rest,h1,h2,h3,h4,h5,h8,by rw[mL,f1,←h6,List.length_map],jT.2 rfl⟩⟩
 obtain⟨cs,f1,f2,f3⟩:=hG;have inj:∀i i' j,js[i]?=some j->js[i']?=some j->i=i':=fun i i' j h1 h2=>by
  have hi:=(List.getElem?_eq_some_iff.1 h1).1;exact(List.getElem?_inj hi hnd).1 (h1.trans h2.symm)
 have hS:=hs.wk (r:=r) (te:=te) (X:=[]) (e:=e) (tr:=tr) (M:=M2) (s2:=s2) [s] (fun q hq=>by
   simp only[List.mem_cons,List.not_mem_nil,or_false]at hq;subst hq;rw[hk];simp) hf (by rw[hh];simp) (by simpa using hne') cs.toArray (fun i=>G (js.getD i 0)) (by rw[hl,←f1];simp)
   (fun k xs v hx hv=>by
    have hkl:k<js.length:=by rw[←hl];exact(List.getElem?_eq_some_iff.1 hx).1
    have hj:js[k]?=some js[k]:=List.getElem?_eq_getElem hkl;have hv2:cs[k]?=some v:=by simpa using hv
    have:=f2 k _ v hj hv2;have hd:js.getD k 0=js[k]:=by simp[List.getD,hj]
    rw[hd];exact e3 _ xs v (by rw[←(hM k _ hj).1];exact hx) this)
   (fun k k' hk1 hk2 hne2 i hi hi'=>by
    rw[hl]at hk1 hk2;have hj:js[k]?=some js[k]:=List.getElem?_eq_getElem hk1;have hj':js[k']?=some js[k']:=List.getElem?_eq_getElem hk2;have hd:js.getD k 0=js[k]:=by simp[List.getD,hj]
    have hd':js.getD k' 0=js[k']:=by simp[List.getD,hj']
    rw[hd]at hi;rw[hd']at hi';exact e4 _ _ (hM k _ hj).2 (hM k' _ hj').2 (fun e=>hne2 (inj k k' _ hj (by rw[hj',e]))) i hi hi')
   (fun k hk1 i hi=>by
    rw[hl]at hk1;have hj:js[k]?=some js[k]:=List.getElem?_eq_getElem hk1;have hd:js.getD k 0=js[k]:=by simp[List.getD,hj]
    rw[hd]at hi;exact⟨s,by simp,(e5 i).2 ⟨_,(hM k _ hj).2,hi⟩⟩)
   (by rw[List.map_nil,List.append_nil];exact f3)
 refine h a w (Sat.ext hS (fun _=>rfl) (fun q=>?_));rw[bq];rfl
theorem Ok.FU{x:Code}{Q:Exit->Act->World->Prop}{i k:Int}{vi vk:List α}(s2:Nat)(hh:af H r=some (.dY 1 te ((((List.range M.length).set i.toNat k.toNat).set k.toNat i.toNat).map (D.mr s))))(hk:af H s=some (.store e tr M))(hf:af H s2=none)(hne:Nat.beq r s=false)(hi:M[i.toNat]?=some vi)(hkk:M[k.toNat]?=some vk)
  (h:Ok P c T ((r,.cg e te s2 [])::(s2,.store e tr ((M.set i.toNat vk).set k.toNat vi))::(s,.dead)::H) x Q):Ok P c T H x Q:=by
 have h1:=(List.getElem?_eq_some_iff.1 hi).1;have h2:=(List.getElem?_eq_some_iff.1 hkk).1;generalize i.toNat=i at*;generalize k.toNat=k at*;have hjs:∀n j:Nat,(((List.range M.length).set i k).set k i)[n]?=some j↔n<M.length/\j=(if n=k then i else if n=i then k else n):=by
  intro n j;by_cases hn:n<M.length
  ·by_cases e1:n=k
   ·subst e1;rw[List.getElem?_set_self (by simpa using hn)];simp[hn,eq_comm]
   ·rw[List.getElem?_set_ne (Ne.symm e1)];by_cases e2:n=i
    ·subst e2;rw[List.getElem?_set_self (by simpa using hn)];simp[hn,e1,eq_comm]
    ·rw[List.getElem?_set_ne (Ne.symm e2)];simp[hn,e1,e2,eq_comm]
  ·rw[List.getElem?_eq_none (by simp;omega)];simp[hn]
 refine .FZ s2 hh hk hf hne ?_ (by simp) (fun n j hj=>?_) h
 ·rw[List.nodup_iff_pairwise_ne,List.pairwise_iff_getElem];intro a b ha hb hab e;have ha':=(hjs a _).1 (List.getElem?_eq_getElem ha);have hb':=(hjs b _).1 (List.getElem?_eq_getElem hb);rw[ha'.2,hb'.2]at e;by_cases a1:a=k<;>by_cases a2:a=i<;>by_cases a3:b=k<;>by_cases a4:b=i<;>simp_all<;>omega
 ·obtain⟨h3,rfl⟩:=(hjs n j).1 hj;by_cases e1:n=k
  ·subst e1;rw[List.getElem?_set_self (by simpa using h2),if_pos rfl,hi];exact⟨rfl,h1⟩
  ·rw[List.getElem?_set_ne (Ne.symm e1),if_neg e1];by_cases e2:n=i
   ·subst e2;rw[List.getElem?_set_self h1,if_pos rfl,hkk];exact⟨rfl,h2⟩
   ·rw[List.getElem?_set_ne (Ne.symm e2),if_neg e2];exact⟨rfl,h3⟩
end
end Go.Am
namespace Go.Am
open Go.RowKit
theorem wX.cg{α:Type}{ρ:Nat->Nat}{e:ak α}{te:TypeId}{s:Nat}{X:List (List α)}:wX ρ (.cg e te (ρ s) X) (.cg e te s X):=by
 refine⟨fun ε w S b F h=>?_,fun r hr=>?_⟩
 ·obtain⟨vs,e1,_⟩:=id h;have:=tA e1 h;exact yi (ε:=fun r=>ε (ρ r)) e1 (oh this (by rw[dB (dq _) (mH e X)];intro r hr;cases hr) (fun _ hk _=>⟨hk,rfl⟩) (fun _ _=>rfl))
 ·have:r=s:=by simpa [Hp.cg]using hr
  subst this;simp[Hp.cg]
section
variable {P:Program} {os:List Oper} {c:Ctx} {T T':List (Nat×D)} {H H':List (Nat×Hp)} {sps:List Spec}
variable {ops:Array Oper} {dst:Option Nat} {ty:TypeId} {pos:String} {aft:Array Edge}
variable {α:Type} {e:ak α} {te tr:TypeId} {r s:Nat} {M X:List (List α)}
theorem BE{ε:Env}{w:World}{S S':ck}{F F':ck}(cZ:(Hp.cg e te s []).p ε w S (ε r) F)(hsto:(Hp.store e tr M).p ε w S (ε s) F')(hm0:0<e.n)(hS:∀k,S k->S' k)(hF:∀k,F k->S' k)(hF':∀k,F' k->S' k):(an (ak.slice e) M).p ε w S' (ε r):=by
 have hrow:=lk cZ hsto;obtain⟨vs,G,e1,e2,e3,e4,e5⟩:=hsto;rw[List.map_nil,List.append_nil]at hrow;have hrow2:kP 1 te (M.map (an e)) ε w S' (ε r) F:=by
  rcases hrow with⟨h0,h1,h2⟩|⟨g,n,cap,cs,rest,h1,h2,h3,h4,h5,h8,h6,h7⟩
  ·have:M.length=0:=by have:=congrArg List.length h0;rwa [bC]at this
   have:M=[]:=List.eq_nil_of_length_eq_zero this;exact .inl ⟨by rw[this];rfl,h1,h2⟩
  ·refine .inr ⟨g,n,cap,cs,rest,h1,h2,h3,h4,h5,h8,by rw[←h6];simp[bC],?_⟩;have hcl:=aL h7;rw[bC]at hcl;have key:∀(N:List (List α)) (us:List Value),us.length=N.length->(∀(k:Nat) (xs:List α) (v:Value),N[k]?=some xs->us[k]?=some v->(an e xs).p ε w S' v)->bN ε w S' (N.map (an e)) us:=by
    intro N
    induction N with
    |nil=>intro us hl _;have:=List.eq_nil_of_length_eq_zero hl;subst this;exact trivial
    |cons x N ih=>
     intro us hl hk'
     cases us with
     |nil=>simp at hl
     |cons u us=>
      exact⟨hk' 0 x u rfl rfl,ih us (by simpa using hl) (fun k xs v hx hv=>hk' (k+1) xs v (by simpa using hx) (by simpa using hv))⟩
   refine key M cs hcl (fun k xs v hx hv=>?_);have hkl:k<M.length:=(List.getElem?_eq_some_iff.1 hx).1;have hv2:vs[k]?=some v:=by
    have:=lJ (s:=s) (S:=S) (w:=w) e1 (by rw[e2];exact h7);rw[this]at hv;simpa using hv
   exact oz (e3 k xs v hx hv2) hm0 hS (fun i hi=>hF' i ((e5 i).2 ⟨k,hkl,hi⟩))
 exact oz (e:=ak.slice e) (te:=te) (xs:=M) (F:=F) (S:=S') (by show kP 1 te (flat (ak.slice e) M) _ _ _ _ _;rw[mS];exact hrow2) (show 0<1 by decide) (fun _ h=>h) hF
def Gu(R:List (Nat×Hp))(d d':D):Prop:=∀(ε:Env) (w:World) (S S':ck) (φ:Nat->ck),(∀q h,af R q=some h->h.p ε w S (ε q) (φ q))->(∀k,S k->S' k)->(∀q,af R q≠none->∀k,φ q k->S' k)->∀v,d.p ε w S v->d'.p ε w S' v
def vK(R:List (Nat×Hp)):List D->List D->Prop
 |[],[]=>True
 |d::l,d'::l'=>Gu R d d'/\vK R l l'
 |_,_=>False
theorem vK.all{R:List (Nat×Hp)}{ε:Env}{w:World}{S S':ck}{φ:Nat->ck}(h1:∀q h,af R q=some h->h.p ε w S (ε q) (φ q))(h2:∀k,S k->S' k)(h3:∀q,af R q≠none->∀k,φ q k->S' k):∀{l l':List D} {vs:List Value},vK R l l'->bN ε w S l vs->bN ε w S' l' vs
 |[],[],[],_,_=>trivial
 |[],[],_::_,_,h=>h.elim
 |d::l,d'::l',[],_,h=>h.elim
 |d::l,d'::l',v::vs,hs,h=>⟨hs.1 ε w S S' φ h1 h2 h3 v h.1,vK.all h1 h2 h3 hs.2 h.2⟩
 |[],_::_,_,hs,_=>hs.elim
 |_::_,[],_,hs,_=>hs.elim
theorem Gu.cg{R:List (Nat×Hp)}{d:D}(hd:Le d (.own r))(hr:af R r=some (.cg e te s []))(hs:af R s=some (.store e tr M))(hm:Nat.blt 0 e.n=true):Gu R d (an (ak.slice e) M):=fun ε w S S' φ h1 h2 h3 v hv=>by
 have:=(hd.1 _ _ _ _ hv).1;subst this;exact BE (h1 r _ hr) (h1 s _ hs) (by simpa using hm) h2 (h3 r (by rw[hr];simp)) (h3 s (by rw[hs];simp))
def Plain(d:D):Prop:=∀(ε ε':Env) (w w':World) (S S':ck) (v:Value),d.p ε w S v->d.p ε' w' S' v
theorem Plain.int{k:IntKind}{n:Int}:Plain (.int k n):=fun _ _ _ _ _ _ _ h=>h
theorem Plain.bool{b:Bool}:Plain (.bool b):=fun _ _ _ _ _ _ _ h=>h
def tX:List D->Prop
 |[]=>True
 |d::l=>Plain d/\tX l
theorem tX.all:∀{l:List D} {vs:List Value} {ε ε':Env} {w w':World} {S S':ck},tX l->bN ε w S l vs->bN ε' w' S' l vs
 |[],[],_,_,_,_,_,_,_,_=>trivial
 |_::_,_::_,_,_,_,_,_,_,hp,h=>⟨hp.1 _ _ _ _ _ _ _ h.1,tX.all hp.2 h.2⟩
 |[],_::_,_,_,_,_,_,_,_,h=>h.elim
 |_::_,[],_,_,_,_,_,_,_,h=>h.elim
theorem Plain.gV{l:List D}(h:tX l):Plain (.gV l):=fun _ _ _ _ _ _ _ ⟨cs,e,ha⟩=>⟨cs,e,h.all ha⟩
theorem ai.Hu{f:FuncId}{xs:List Operand}{ats:Array TypeId}{ds ds0:List D}{d:D}(R:List (Nat×Hp))(hc:aW P f [] ds [] d)(he:zg T xs ds0)(cY:hasAll H R)(hsee:vK R ds0 ds)(hpl:Plain d)(hnm:d.nm=[])
  (hr:ai P ops c os (bg T dst d) H sps T' H'):
  ai P ops c (⟨dst,.call {callee:=.value (.func f),args:=xs.toArray,argTypes:=ats},ty,pos,aft,none⟩::os) T H ({ins:=(xs.zip ds0).flatMap fun x=>eN x.1 x.2,cY:=R,out:=d,cZ:=[],news:=[]}::sps) T' H':=by
 refine .cons (sp:={ins:=(xs.zip ds0).flatMap fun x=>eN x.1 x.2,cY:=R,out:=d,cZ:=[],news:=[]}) ?_ (eI (gM he)) (q_ cY) trivial hr;intro hdst T0 H0 hi hin0 _ a w ⟨ε,φ,hs⟩ Q K hK;rw[if_pos (a_ rfl _)];have hx:∀x∈xs.zip ds0,fq T0 (eN x.1 x.2):=cJ hi;have hget0:=oo hin0;have hall0:bN ε w (Am.al c H0 φ) ds0 (xs.map a.eval):=jd he (fun x h=>(hs.ev (hx x h) (aw (gM he x h)).2).1);have hall:=vK.all (S':=fun k=>Am.al c H0 φ k\/∃q,af R q≠none/\φ q k) (fun q h hq=>hs.h q h (hget0 q h hq)) (fun k hk=>.inl hk) (fun q hq k hk=>.inr ⟨q,hq,hk⟩) hsee hall0;simp only[Oper.wp,oc hc.ok a w,Oper.upon];refine(hc.calls (fun k=>Am.al c H0 φ k\/∃q,af R q≠none/\φ q k) w ε φ (xs.map a.eval) (fun r hr=>absurd rfl hr) (fun r r' hr=>absurd rfl hr) (fun r h hr=>by cases hr) hall).mono ?_;rintro e w' ⟨v,ε',φ',rfl,_,hv,_,_,_,hbel⟩;have hb:Below w.heap.size w w':=⟨hbel.os,hbel.tape,hbel.output,hbel.size,fun k hk=>hbel.block k hk (fun⟨r,hr,_⟩=>hr rfl)⟩;have hS:=hs.grow hb;exact hK _ _ ⟨ε,φ,hS.put (d:=d) (cU hdst) (hpl _ _ _ _ _ _ _ hv) (by rw[hnm];intro r hr;cases hr)⟩
end
end Go.Am
namespace Go.Am
open Go.RowKit
theorem wx.qU{ρ:Nat->Nat}{f:FuncId}{l l' m m':List D}(h1:uv ρ l l')(h2:uv ρ m m'):wx ρ (.qU f l m) (.qU f l' m'):=
 ⟨fun _ _ _ _ ⟨vs,us,e,a1,a2⟩=>⟨vs,us,e,h1.all a1,h2.all a2⟩,fun r hr=>by
  rcases List.mem_append.1 hr with h|h
  ·exact List.mem_append.2 (.inl (h1.bD r h))
  ·exact List.mem_append.2 (.inr (h2.bD r h))⟩
section
variable {P:Program} {os:List Oper} {c:Ctx} {T T':List (Nat×D)} {H H':List (Nat×Hp)} {sps:List Spec}
variable {ops:Array Oper} {dst:Option Nat} {ty:TypeId} {pos:String} {aft:Array Edge}
variable {α:Type} {e:ak α} {te tr:TypeId} {r s:Nat} {M X:List (List α)}
theorem Ok.l4{x:Code}{Q:Exit->Act->World->Prop}(t:Nat)(ht:aM T t=some (.own r))(hh:af H r=some (.cg e te s []))(hk:af H s=some (.store e tr M))
  (h:Ok P c ((t,.sl r M.length)::T) H x Q):Ok P c T H x Q:=.HB t ht hh hk h
theorem ai.Ja{t te:TypeId}{r r1:Nat}{x:Operand}{bt:Nat}{z:D}(hx:ev T x=some (.own r1))(hm:oj P t=some (te,1,bt,[z]))(hf:af H r=none)
  (hr:ai P ops c os ((r,.own r)::T) ((r,.dY 1 te [.own r1])::H) sps T' H'):
  ai P ops c (⟨some r,.buildSlice t 1 #[(0,x)],ty,pos,aft,none⟩::os) T H (rws (qs [(0,x,.own r1,[.own r1])]) r (.dY 1 te [.own r1])::sps) T' H':=
 .JO (parts:=[(0,x)]) [.own r1] [(0,x,.own r1,[.own r1])] hm rfl rfl ⟨rfl,rfl,.one rfl,rfl,trivial⟩ (by intro y hy;simp[qs]at hy;subst hy;exact hx) rfl rfl (fun r' hr'=>⟨(x,.own r1),by simp[qs],by simpa [bD]using hr'⟩) hf hr
theorem ai.G4{α:Type}(e:ak α){t te:TypeId}{r m bt:Nat}{z:List D}(hm:oj P t=some (te,m,bt,z))(hmn:m=e.n)(hf:af H r=none)(hr:ai P ops c os ((r,.own r)::T) ((r,aR e te [])::H) sps T' H'):
  ai P ops c (⟨some r,.buildSlice t 0 #[],ty,pos,aft,none⟩::os) T H ({ins:=[],cY:=[],out:=.own r,cZ:=[(r,aR e te [])],news:=[r]}::sps) T' H':=by
 subst hmn;have h0:=ai.It (P:=P) (ops:=ops) (c:=c) (os:=[]) (T:=T) (H:=H) (ty:=ty) (pos:=pos) (aft:=aft) hm hf .nil
 cases h0 with
 |cons h1 h2 h3 h4 _=>exact .cons h1 h2 h3 h4 hr
theorem Bi{H0:Nat->Option Hp}{Hi:List (Nat×Hp)}(h:∀r x,af Hi r=some x->H0 r=some x):bf H0 Hi=H0:=by
 funext r
 simp only[bf]
 cases hq:af Hi r with
 |none=>rfl
 |some x=>exact(h r x hq).symm
theorem qp.ta{o:Oper}{xs:List (Operand×D)}{Hi:List (Nat×Hp)}{d:D}(h:qp P ops c o (HI xs Hi Hi d))(hn:fK Hi Hi=[]):qp P ops c o {ins:=xs.flatMap fun x=>eN x.1 x.2,cY:=Hi,out:=d,cZ:=[],news:=[]}:=by
 intro hd T0 H0 hi cY _ a w hs Q K hK;refine h hd T0 H0 hi cY (show nj H0 (fK Hi Hi)by rw[hn];exact trivial) a w hs Q K (fun a' w' hs'=>hK a' w' ?_);have:bf H0 Hi=H0:=Bi (oo cY);show Sat c (fY T0 o.dst d) (bf H0 []) a' w';have hs2:Sat c (fY T0 o.dst d) (bf H0 Hi) a' w':=hs';rw[this]at hs2;rw[xT];exact hs2
theorem ai.B9{f:FuncId}{xs:List Operand}{ats:Array TypeId}{Hi:List (Nat×Hp)}{ds:List D}{d:D}(hc:aW P f Hi ds Hi d)(he:zg T xs ds)(cY:hasAll H Hi)(hn:fK Hi Hi=[])
  (hr:ai P ops c os (bg T dst d) H sps T' H'):
  ai P ops c (⟨dst,.call {callee:=.value (.func f),args:=xs.toArray,argTypes:=ats},ty,pos,aft,none⟩::os) T H ({ins:=(xs.zip ds).flatMap fun x=>eN x.1 x.2,cY:=Hi,out:=d,cZ:=[],news:=[]}::sps) T' H':=by
 have h0:=ai.ah (P:=P) (ops:=ops) (c:=c) (os:=[]) (T:=T) (H:=H) (dst:=dst) (ty:=ty) (pos:=pos) (aft:=aft) (ats:=ats) hc he cY (by rw[hn];exact trivial) .nil
 cases h0 with
 |cons h1 h2 h3 h4 _=>exact .cons (h1.ta hn) h2 h3 trivial hr
theorem ai.GA{f:FuncId}{x:Operand}{xs:List Operand}{ats:Array TypeId}{Hi:List (Nat×Hp)}{l m ds:List D}{d:D}(hx:ev T x=some (.qU f l m))(hc:aW P f Hi (l++ds++m) Hi d)(he:zg T xs ds)(cY:hasAll H Hi)(hn:fK Hi Hi=[])
  (hr:ai P ops c os (bg T dst d) H sps T' H'):
  ai P ops c (⟨dst,.call {callee:=.value x,args:=xs.toArray,argTypes:=ats},ty,pos,aft,none⟩::os) T H ({ins:=((x,D.qU f l m)::xs.zip ds).flatMap fun x=>eN x.1 x.2,cY:=Hi,out:=d,cZ:=[],news:=[]}::sps) T' H':=by
 have h0:=ai.F4 (P:=P) (ops:=ops) (c:=c) (os:=[]) (T:=T) (H:=H) (dst:=dst) (ty:=ty) (pos:=pos) (aft:=aft) (ats:=ats) hx hc he cY (by rw[hn];exact trivial) .nil
 cases h0 with
 |cons h1 h2 h3 h4 _=>exact .cons (h1.ta hn) h2 h3 trivial hr
end
end Go.Am
namespace Go.Am
open Go.RowKit
set_option maxRecDepth 100000
noncomputable section
def mX(a1:List (List Rat))(v4:Int)(v5:Int):Option (St (Int×Int) (Ex Int (Int×Bool))):=(if(decide (v5<(a1.length:Int)))=true then((if(v5==0)=true then(ix a1 v5).bind fun v14=>some ((v14.length:Int))else some (v4))).bind fun v16=>(ix a1 v5).bind fun v17=>(if((v17.length:Int) !=v16)=true then some (St.done (Ex.ret (0,false)))else some (St.next (v16,(IntKind.i64.wrap (v5+1)))))else some (St.done (Ex.cp v4)))
def ri(a1:List (List Rat)):Option (Int×Bool):=((Loop (fun(s:Int×Int)=>mX a1 s.1 s.2) (0,0)).bind fun o6=>(match o6 with|Ex.cp v20=>some (Ex.cp v20)|Ex.ret (r21,r22)=>some (Ex.ret (r21,r22)))).bind fun o2=>(match o2 with|Ex.cp v23=>some (v23,true)|Ex.ret (r24,r25)=>some (r24,r25))
def iX(a1:List (List Rat))(a2:List Rat)(v5:Int)(v6:List Rat):Option (St (Int×(List Rat)) (List Rat)):=(if(decide (v5<(a1.length:Int)))=true then(ix a1 v5).bind fun v12=>(mM v12 a2).bind fun v14=>bO ((v6.length+([v14]).length)*64<=140737488355328/\v6.length+([v14]).length<=9223372036854775807) (some (St.next ((IntKind.i64.wrap (v5+1)),(v6++[v14]))))else some (St.done v6))
def vw(a1:List (List Rat))(a2:List Rat):Option (List Rat):=((Loop (fun(s:Int×(List Rat))=>iX a1 a2 s.1 s.2) (0,[])).bind fun v17=>some (v17)).bind fun v18=>some v18
end
end Go.Am
namespace Go.Am
open Go.RowKit
set_option maxRecDepth 100000
noncomputable section
def kg(a1:List Rat)(a2:Int):Option Bool:=some ((a1.length:Int) !=a2)
theorem wc{a1:List Rat}{a2:Int}{r3:Bool}(h:kg a1 a2=some r3):aW PP 234 [(1,Hp.box 3 ([D.int .i64 a2]))] [an ak.rat a1,D.ref 1 0] [(1,Hp.box 3 ([D.int .i64 a2]))] (D.bool r3):=by
 unfold kg at h;refine .of Go.Proofs.Tryz.func234 rfl (by kernel_rfl) rfl rfl rfl rfl rfl rfl (fun A w0 L b=>?_);show Ok PP _ [(0,an ak.rat a1),(1,D.ref 1 0),(1000001,D.pinned 1 (b 1))] [(1,Hp.box 3 ([D.int .i64 a2]))] _ _;refine .al (.ao rfl<|.nil) rfl ?_;refine .al (.mv rfl<|.fU rfl cr<|.bA (D.int .i64 a2) rfl rfl dw rfl<|.cm rfl rfl rfl<|.ao rfl<|.nil) rfl ?_;cases h;refine .aN (fun _ _ hb=>hb) rfl (.t1 (.tmp rfl)) (.refl _) (.of rfl) (.of rfl)
def dZ(a1:List (List Rat))(a2:Int)(v5:Int):Option (St Int (Ex Unit Int)):=(if(decide (v5<(a1.length:Int)))=true then(ix a1 v5).bind fun v11=>(kg v11 a2).bind fun v13=>(if v13=true then some (St.done (Ex.ret v5))else some (St.next (IntKind.i64.wrap (v5+1))))else some (St.done (Ex.cp ())))
def gJ(a1:List (List Rat))(a2:Int):Option Int:=((Loop (fun(s:Int)=>dZ a1 a2 s) 0).bind fun o6=>(match o6 with|Ex.cp ()=>some (Ex.cp ())|Ex.ret r16=>some (Ex.ret r16))).bind fun o3=>(match o3 with|Ex.cp ()=>some (-1)|Ex.ret r17=>some r17)
theorem rk{a1:List (List Rat)}{a2:Int}{r18:Int}(h:gJ a1 a2=some r18):aW PP 253 [(610,Hp.box 3 ([D.int .i64 a2]))] [an (ak.slice ak.rat) a1,D.qU 234 [] [D.ref 610 0]] [(610,Hp.box 3 ([D.int .i64 a2]))] (D.int .i64 r18):=by
 unfold gJ at h;refine .of Go.Proofs.Tryz.func253 rfl (by kernel_rfl) rfl rfl rfl rfl rfl rfl (fun A w0 L b=>?_);show Ok PP _ [(0,an (ak.slice ak.rat) a1),(1,D.qU 234 [] [D.ref 610 0]),(1000610,D.pinned 610 (b 610))] [(610,Hp.box 3 ([D.int .i64 a2]))] _ _;refine .al (.ao rfl<|.nil) rfl ?_;obtain⟨o3,hp4,h⟩:=bind_some h;refine .cz (fun i=>o3=Ex.cp i) (fun(i:Unit)=>[(1000610,D.pinned 610 (b 610))]) (fun(i:Unit)=>[(610,Hp.box 3 ([D.int .i64 a2]))]) ?_ ?_
 ·have ho1:=h;have h:=hp4;refine .al (.mv rfl<|.fU rfl bn<|.mv rfl<|.nil) rfl ?_;obtain⟨o6,hl7,h⟩:=bind_some h;have ho2:=h;refine .block (.cc (fun(s:Int)=>[(0,an (ak.slice ak.rat) a1),(1,D.qU 234 [] [D.ref 610 0]),(7,D.int .i64 (a1.length:Int)),(8,D.int .i64 s),(1000610,D.pinned 610 (b 610))]) (fun(s:Int)=>[(610,Hp.box 3 ([D.int .i64 a2]))]) hl7 (.of rfl) (.of rfl) rfl rfl ?_);rintro v5 st8 hb9;have h:dZ a1 a2 v5=some st8:=hb9;unfold dZ at h
  try dsimp only
  refine .al (.cm rfl rfl rfl<|.nil) rfl ?_;refine .sq ?_;by_cases c10:(decide (v5<(a1.length:Int)))=true
  ·replace h:=ab c10 h;refine .cq rfl c10 ?_;refine .skip (Ok.on ?_);refine .sq ?_;refine .block ?_;refine .al (.mv rfl<|.ao rfl<|.nil) rfl ?_;obtain⟨v11,e12,h⟩:=bind_some h;obtain⟨v13,e14,h⟩:=bind_some h;refine .al (.mv rfl<|.mv rfl<|.mv rfl<|.kX rfl rfl aC (ag e12).1 (ag e12).2<|.iJ rfl aH<|.GA (Hi:=[(610,Hp.box 3 ([D.int .i64 a2]))]) (d:=D.bool v13) (ds:=[an ak.rat v11]) rfl (.B5 (wc e14) (fun r=>match r with|1=>610|r=>r) (fun r=>match r with|610=>1|r=>r) rfl (.r rfl rfl trivial) rfl ⟨.refl rfl,.ref (r:=1),trivial⟩ (.r rfl rfl trivial) rfl (.refl rfl) rfl rfl rfl rfl rfl) ⟨rfl,trivial⟩ ⟨rfl,trivial⟩ rfl<|.nil) rfl ?_;by_cases c15:v13=true
   ·replace h:=ab c15 h;refine .cq rfl c15 ?_;refine .al (.mv rfl<|.ao rfl<|.nil) rfl ?_;refine .aN (Hi:=[(610,Hp.box 3 ([D.int .i64 a2]))]) (Ho:=[(610,Hp.box 3 ([D.int .i64 a2]))]) (b:=b) (fn:=Go.Proofs.Tryz.f253) (d:=D.int .i64 v5) (fun _ _ hb=>by exact⟨_,(sj h),fun e=>by subst e;have h:=ho2;cases h;have h:=ho1;cases h;exact hb⟩) rfl (.t1 (.tmp rfl)) (.refl _) (.of rfl) (.of rfl)
   ·replace h:=ae c15 h;refine .cA rfl c15 ?_;refine .skip (Ok.on ?_);refine .region (.ar rfl rfl rfl<|.mv rfl<|.nil) rfl (fun _ _ hs=>⟨(IntKind.i64.wrap (v5+1)),(sj h),hs.sub (.of rfl) (.of rfl) rfl rfl⟩)
  ·replace h:=ae c10 h;refine .cA rfl c10 ?_;refine .exit (fun a w hs=>⟨_,(sj h),fun e=>by subst e;have h:=ho2;exact aZ (⟨(),(sj h),hs.sub (.of rfl) (.of rfl) rfl rfl⟩)⟩)
 ·rintro⟨⟩ rfl
  try dsimp only
  refine .al (.ao rfl<|.nil) rfl ?_;cases h;refine .aN (fun _ _ hb=>hb) rfl (.t1 (.tmp rfl)) (.refl _) (.of rfl) (.of rfl)
def fc(a1:List (List Rat))(a2:Int):Option Bool:=(gJ a1 a2).bind fun v3=>some (decide (v3>=0))
theorem oQ{a1:List (List Rat)}{a2:Int}{r5:Bool}(h:fc a1 a2=some r5):aW PP 233 [(610,Hp.box 3 ([D.int .i64 a2]))] [an (ak.slice ak.rat) a1,D.qU 234 [] [D.ref 610 0]] [(610,Hp.box 3 ([D.int .i64 a2]))] (D.bool r5):=by
 unfold fc at h;refine .of Go.Proofs.Tryz.func233 rfl (by kernel_rfl) rfl rfl rfl rfl rfl rfl (fun A w0 L b=>?_);show Ok PP _ [(0,an (ak.slice ak.rat) a1),(1,D.qU 234 [] [D.ref 610 0]),(1000610,D.pinned 610 (b 610))] [(610,Hp.box 3 ([D.int .i64 a2]))] _ _;refine .al (.ao rfl<|.nil) rfl ?_;obtain⟨v3,e4,h⟩:=bind_some h;refine .al (.mv rfl<|.mv rfl<|.B9 (Hi:=[(610,Hp.box 3 ([D.int .i64 a2]))]) (d:=D.int .i64 v3) (ds:=[an (ak.slice ak.rat) a1,D.qU 234 [] [D.ref 610 0]]) (.B5 (rk e4) (fun r=>match r with|r=>r) (fun r=>match r with|r=>r) rfl (.r rfl rfl trivial) rfl ⟨.refl rfl,.qU trivial ⟨.ref (r:=610),trivial⟩,trivial⟩ (.r rfl rfl trivial) rfl (.refl rfl) rfl rfl rfl rfl rfl) ⟨rfl,rfl,trivial⟩ ⟨rfl,trivial⟩ rfl<|.cm rfl rfl rfl<|.ao rfl<|.nil) rfl ?_;cases h;refine .aN (fun _ _ hb=>hb) rfl (.t1 (.tmp rfl)) (.refl _) (.of rfl) (.of rfl)
def dA(a1:List (List Rat)):Option (Int×Int×Bool):=(if((a1.length:Int)==0)=true then some (0,0,true)else(ix a1 0).bind fun v3=>(fc a1 (v3.length:Int)).bind fun v5=>some ((a1.length:Int),(v3.length:Int),(!v5)))
theorem fy{a1:List (List Rat)}{r7:Int}{r8:Int}{r9:Bool}(h:dA a1=some (r7,r8,r9)):aW PP 194 [] [an (ak.slice ak.rat) a1] [] (D.gV [D.int .i64 r7,D.int .i64 r8,D.bool r9]):=by
 unfold dA at h;refine .of Go.Proofs.Tryz.func194 rfl (by kernel_rfl) rfl rfl rfl rfl rfl rfl (fun A w0 L b=>?_);show Ok PP _ [(0,an (ak.slice ak.rat) a1)] [] _ _;refine .al (.ao rfl<|.ao rfl<|.ao rfl<|.nil) rfl ?_;refine .sq ?_;refine .al (.mv rfl<|.fU rfl bn<|.cm rfl rfl rfl<|.nil) rfl ?_;by_cases c2:((a1.length:Int)==0)=true
 ·replace h:=ab c2 h;refine .cq rfl c2 ?_;refine .al (.ao rfl<|.ao rfl<|.ao rfl<|.nil) rfl ?_;cases h;refine .aN (fun _ _ hb=>hb) rfl (.cons (.tmp rfl) (.cons (.tmp rfl) (.t1 (.tmp rfl)))) (.refl _) trivial trivial
 ·replace h:=ae c2 h;refine .cA rfl c2 ?_;refine .skip (Ok.on ?_);obtain⟨v3,e4,h⟩:=bind_some h;refine .al (.mv rfl<|.kX rfl rfl aC (ag e4).1 (ag e4).2<|.iJ rfl aH<|.fU rfl cr<|.fW ([D.int .i64 0]) F0 ⟨.refl _,trivial⟩ rfl<|.zi ([D.int .i64 (v3.length:Int)]) rfl rfl rfl dw rfl rfl rfl<|.nil) rfl ?_;obtain⟨v5,e6,h⟩:=bind_some h;refine .dh cn (.mv rfl<|.fU rfl bn<|.bA (D.int .i64 (v3.length:Int)) rfl rfl dw rfl<|.mv rfl<|.IU (fs:=[]) (cs:=[.tmp 5]) (l:=[]) (m:=[D.ref 5 0]) trivial ⟨rfl,trivial⟩<|.B9 (Hi:=[(5,Hp.box 3 ([D.int .i64 (v3.length:Int)]))]) (d:=D.bool v5) (ds:=[an (ak.slice ak.rat) a1,D.qU 234 [] [D.ref 5 0]]) (.B5 (oQ e6) (fun r=>match r with|610=>5|r=>r) (fun r=>match r with|5=>610|r=>r) rfl (.r rfl rfl trivial) rfl ⟨.refl rfl,.qU trivial ⟨.ref (r:=610),trivial⟩,trivial⟩ (.r rfl rfl trivial) rfl (.refl rfl) rfl rfl rfl rfl rfl) ⟨rfl,rfl,trivial⟩ ⟨rfl,trivial⟩ rfl<|.not rfl<|.ao rfl<|.ao rfl<|.ao rfl<|.nil) rfl (by kernel_rfl) ?_;cases h;refine .aN (fun _ _ hb=>hb) rfl (.cons (.tmp rfl) (.cons (.tmp rfl) (.t1 (.tmp rfl)))) (.refl _) trivial trivial
def dV(a1:List (List Rat))(v8:Int)(v17:Int)(v18:List Rat):Option (St (Int×(List Rat)) (List Rat)):=(if(decide (v17<(a1.length:Int)))=true then(ix a1 v17).bind fun v24=>(ix v24 v8).bind fun v26=>bO ((v18.length+([v26]).length)*56<=140737488355328/\v18.length+([v26]).length<=9223372036854775807) (some (St.next ((IntKind.i64.wrap (v17+1)),(v18++[v26]))))else some (St.done v18))
def dX(a1:List (List Rat))(v3:Int)(v8:Int)(v9:List (List Rat)):Option (St (Int×(List (List Rat))) (List (List Rat))):=(if(decide (v8<v3))=true then((Loop (fun(s:Int×(List Rat))=>dV a1 v8 s.1 s.2) (0,[])).bind fun v29=>some (v29)).bind fun v30=>bO ((v9.length+([v30]).length)*24<=140737488355328/\v9.length+([v30]).length<=9223372036854775807) (some (St.next ((IntKind.i64.wrap (v8+1)),(v9++[v30]))))else some (St.done v9))
def jf(a1:List (List Rat)):Option (List (List Rat)):=(dA a1).bind fun(v2,v3,v4)=>((Loop (fun(s:Int×(List (List Rat)))=>dX a1 v3 s.1 s.2) (0,[])).bind fun v32=>some (v32)).bind fun v33=>some v33
theorem wj{a1:List (List Rat)}{r34:List (List Rat)}(h:jf a1=some r34):aW PP 195 [] [an (ak.slice ak.rat) a1] [] (an (ak.slice ak.rat) r34):=by
 unfold jf at h;refine .of Go.Proofs.Tryz.func195 rfl (by kernel_rfl) rfl rfl rfl rfl rfl rfl (fun A w0 L b=>?_);show Ok PP _ [(0,an (ak.slice ak.rat) a1)] [] _ _;refine .al (.ao rfl<|.nil) rfl ?_;obtain⟨⟨v2,v3,v4⟩,e5,h⟩:=bind_some h;refine .al (.mv rfl<|.ah (fy e5) ⟨rfl,trivial⟩ trivial trivial<|.mv rfl<|.ext rfl rfl<|.ext rfl rfl<|.ext rfl rfl<|.ao rfl<|.ao rfl<|.ao rfl<|.nil) rfl ?_;refine .al (.ao rfl<|.nil) rfl ?_;obtain⟨v33,hp7,h⟩:=bind_some h;refine .cz (fun i=>v33=i) (fun(i:(List (List Rat)))=>[(6,D.own 2000006)]) (fun(i:(List (List Rat)))=>[(2000006,aR (ak.slice ak.rat) 68 i)]) ?_ ?_
 ·have ho1:=h;have h:=hp7;refine .al (.mv rfl<|.mv rfl<|.nil) rfl ?_;refine .gT (ak.slice ak.rat) 6 2000006 68 rfl rfl ?_;obtain⟨o10,hl11,h⟩:=bind_some h;have ho2:=h;refine .block (.cc (fun(s:Int×(List (List Rat)))=>[(0,an (ak.slice ak.rat) a1),(6,D.own 2000006),(17,D.int .i64 v3),(18,D.int .i64 s.1)]) (fun(s:Int×(List (List Rat)))=>[(2000006,aR (ak.slice ak.rat) 68 s.2)]) hl11 (.of rfl) (.of rfl) rfl rfl ?_);rintro⟨v8,v9⟩ st12 hb13;have h:dX a1 v3 v8 v9=some st12:=hb13;unfold dX at h
  try dsimp only
  refine .al (.cm rfl rfl rfl<|.nil) rfl ?_;refine .sq ?_;by_cases c14:(decide (v8<v3))=true
  ·replace h:=ab c14 h;refine .cq rfl c14 ?_;refine .skip (Ok.on ?_);refine .sq ?_;refine .block ?_;refine .al (.mv rfl<|.ao rfl<|.nil) rfl ?_;refine .al (.ao rfl<|.nil) rfl ?_;obtain⟨v30,hp16,h⟩:=bind_some h;refine .cz (fun i=>v30=i) (fun(i:(List Rat))=>[(0,an (ak.slice ak.rat) a1),(6,D.own 2000006),(8,D.own 2000008),(17,D.int .i64 v3),(18,D.int .i64 v8)]) (fun(i:(List Rat))=>[(2000006,aR (ak.slice ak.rat) 68 v9),(2000008,aR ak.rat 28 i)]) ?_ ?_
   ·have ho3:=h;have h:=hp16;refine .al (.mv rfl<|.fU rfl bn<|.mv rfl<|.nil) rfl ?_;refine .gT ak.rat 8 2000008 28 rfl rfl ?_;obtain⟨o19,hl20,h⟩:=bind_some h;have ho4:=h;refine .block (.cc (fun(s:Int×(List Rat))=>[(0,an (ak.slice ak.rat) a1),(6,D.own 2000006),(7,D.int .i64 v8),(8,D.own 2000008),(17,D.int .i64 v3),(18,D.int .i64 v8),(21,an (ak.slice ak.rat) a1),(22,D.int .i64 (a1.length:Int)),(23,D.int .i64 s.1)]) (fun(s:Int×(List Rat))=>[(2000006,aR (ak.slice ak.rat) 68 v9),(2000008,aR ak.rat 28 s.2)]) hl20 (.of rfl) (.of rfl) rfl rfl ?_);rintro⟨v17,v18⟩ st21 hb22;have h:dV a1 v8 v17 v18=some st21:=hb22;unfold dV at h
    try dsimp only
    refine .al (.cm rfl rfl rfl<|.nil) rfl ?_;refine .sq ?_;by_cases c23:(decide (v17<(a1.length:Int)))=true
    ·replace h:=ab c23 h;refine .cq rfl c23 ?_;refine .skip (Ok.on ?_);refine .sq ?_;refine .block ?_;obtain⟨v24,e25,h⟩:=bind_some h;refine .al (.kX rfl rfl aC (ag e25).1 (ag e25).2<|.iJ rfl aH<|.ao rfl<|.nil) rfl ?_;refine .sl 8 rfl rfl rfl ?_;obtain⟨v26,e27,h⟩:=bind_some h;obtain⟨k28,h⟩:=ax h;refine .region (.mv rfl<|.mv rfl<|.mv rfl<|.kX rfl rfl aT (ag e27).1 (ag e27).2<|.zU (l:=qC (v26)) rfl aa rfl<|.yO (e:=ak.rat) [v26] [(0,_,qD v26,qC (v26))] bM rfl rfl rfl ⟨rfl,rfl,.agg _,rfl,trivial⟩ ⟨rfl,trivial⟩ rfl rfl<|.xi (ys:=[v26]) rfl .sl rfl (.refl _) rfl bM rfl k28.1 k28.2 rfl<|.ao rfl<|.nil) rfl (Ok.on ?_);refine .region (.ar rfl rfl rfl<|.mv rfl<|.nil) rfl (fun _ _ hs=>⟨((IntKind.i64.wrap (v17+1)),(v18++[v26])),(sj h),hs.l7 (fun r=>match r with|2000008=>33|r=>r) (.r rfl rfl<|.p rfl (.own (r:=2000006))<|.r rfl rfl<|.p rfl (.own (r:=2000008))<|.r rfl rfl<|.r rfl rfl<|.r rfl rfl<|.r rfl rfl<|.r rfl rfl<|trivial) (.r rfl rfl<|.r rfl rfl<|trivial) rfl rfl rfl⟩)
    ·replace h:=ae c23 h;refine .cA rfl c23 ?_;refine .exit (fun a w hs=>⟨_,(sj h),fun e=>by subst e;have h:=ho4;exact aZ (⟨v18,(sj h),hs.sub (.of rfl) (.of rfl) rfl rfl⟩)⟩)
   ·rintro _ rfl
    try dsimp only
    refine .sl 6 rfl rfl rfl ?_;refine .sl 8 rfl rfl rfl ?_;refine .uF 8 (.own 2000008) rfl .sl ?_;refine .j9 8 rfl rfl rfl ?_;obtain⟨k31,h⟩:=ax h;refine .region (.mv rfl<|.mv rfl<|.yO (e:=(ak.slice ak.rat)) [v30] [(0,_,an ak.rat v30,[an ak.rat v30])] bX rfl rfl rfl ⟨rfl,rfl,.one rfl,rfl,trivial⟩ ⟨rfl,trivial⟩ rfl rfl<|.xi (ys:=[v30]) rfl .sl rfl (.refl _) rfl bX rfl k31.1 k31.2 rfl<|.ao rfl<|.nil) rfl (Ok.on ?_);refine .region (.ar rfl rfl rfl<|.mv rfl<|.nil) rfl (fun _ _ hs=>⟨((IntKind.i64.wrap (v8+1)),(v9++[v30])),(sj h),hs.l7 (fun r=>match r with|2000006=>38|r=>r) (.r rfl rfl<|.p rfl (.own (r:=2000006))<|.r rfl rfl<|.r rfl rfl<|trivial) (.r rfl rfl trivial) rfl rfl rfl⟩)
  ·replace h:=ae c14 h;refine .cA rfl c14 ?_;refine .exit (fun a w hs=>⟨_,(sj h),fun e=>by subst e;have h:=ho2;exact aZ (⟨v9,(sj h),hs.sub (.of rfl) (.of rfl) rfl rfl⟩)⟩)
 ·rintro _ rfl
  try dsimp only
  refine .sl 6 rfl rfl rfl ?_;refine .al (.mv rfl<|.ao rfl<|.nil) rfl ?_;refine .uF 2 (.own 2000006) rfl .sl ?_;refine .j9 2 rfl rfl rfl ?_;cases h;refine .aN (fun _ _ hb=>hb) rfl (.t1 (.tmp rfl)) (.refl _) trivial trivial
def kQ(v14:List (List Rat))(v25:List Rat)(v29:Int)(v30:List Rat):Option (St (Int×(List Rat)) (List Rat)):=(if(decide (v29<(v14.length:Int)))=true then(ix v14 v29).bind fun v36=>(uo v25 v36).bind fun v38=>bO ((v30.length+([v38]).length)*56<=140737488355328/\v30.length+([v38]).length<=9223372036854775807) (some (St.next ((IntKind.i64.wrap (v29+1)),(v30++[v38]))))else some (St.done v30))
def kz(a1:List (List Rat))(v14:List (List Rat))(v18:Int)(v19:List (List Rat)):Option (St (Int×(List (List Rat))) (List (List Rat))):=(if(decide (v18<(a1.length:Int)))=true then(ix a1 v18).bind fun v25=>((Loop (fun(s:Int×(List Rat))=>kQ v14 v25 s.1 s.2) (0,([]:List Rat))).bind fun v41=>some (v41)).bind fun v42=>bO ((v19.length+([v42]).length)*24<=140737488355328/\v19.length+([v42]).length<=9223372036854775807) (some (St.next ((IntKind.i64.wrap (v18+1)),(v19++[v42]))))else some (St.done v19))
def mw(a1:List (List Rat))(a2:List (List Rat)):Option ((List (List Rat))×Int):=(dA a1).bind fun(v3,v4,v5)=>(dA a2).bind fun(v7,v8,v9)=>(if(!v5)=true then some ([],2)else(if(!v9)=true then some ([],2)else(if(v4 !=v7)=true then some ([],2)else(jf a2).bind fun v14=>((Loop (fun(s:Int×(List (List Rat)))=>kz a1 v14 s.1 s.2) (0,[])).bind fun v44=>some (v44)).bind fun v45=>some (v45,0))))
theorem FT{a1:List (List Rat)}{a2:List (List Rat)}{r46:List (List Rat)}{r47:Int}(h:mw a1 a2=some (r46,r47)):aW PP 107 [] [an (ak.slice ak.rat) a1,an (ak.slice ak.rat) a2] [] (D.gV [an (ak.slice ak.rat) r46,D.int .i64 r47]):=by
 unfold mw at h;refine .of Go.Proofs.Tryz.func107 rfl (by kernel_rfl) rfl rfl rfl rfl rfl rfl (fun A w0 L b=>?_);show Ok PP _ [(0,an (ak.slice ak.rat) a1),(1,an (ak.slice ak.rat) a2)] [] _ _;refine .al (.ao rfl<|.ao rfl<|.nil) rfl ?_;obtain⟨⟨v3,v4,v5⟩,e6,h⟩:=bind_some h;refine .al (.mv rfl<|.ah (fy e6) ⟨rfl,trivial⟩ trivial trivial<|.mv rfl<|.ext rfl rfl<|.ext rfl rfl<|.ext rfl rfl<|.ao rfl<|.ao rfl<|.ao rfl<|.nil) rfl ?_;obtain⟨⟨v7,v8,v9⟩,e10,h⟩:=bind_some h;refine .al (.mv rfl<|.ah (fy e10) ⟨rfl,trivial⟩ trivial trivial<|.mv rfl<|.ext rfl rfl<|.ext rfl rfl<|.ext rfl rfl<|.ao rfl<|.ao rfl<|.ao rfl<|.nil) rfl ?_;refine .sq ?_;by_cases c11:(!v5)=true
 ·replace h:=ab c11 h;refine .al (.mv rfl<|.not rfl<|.mv rfl<|.gk c11<|.gk c11<|.bm rfl c11 rfl<|.mv rfl<|.gk rfl<|.gk rfl<|.gk rfl<|.bm rfl rfl rfl<|.nil) rfl ?_;refine .cq rfl rfl ?_;refine .al (.ao rfl<|.ao rfl<|.nil) rfl ?_;cases h;refine .aN (fun _ _ hb=>hb) rfl (.cons (.tmp rfl) (.t1 (.tmp rfl))) (.gV ⟨.gT _,.refl _,trivial⟩) trivial trivial
 ·replace h:=ae c11 h;by_cases c12:(!v9)=true
  ·replace h:=ab c12 h;refine .al (.mv rfl<|.not rfl<|.mv rfl<|.gz c11<|.mv rfl<|.gz c11<|.not rfl<|.bh rfl c11 rfl<|.mv rfl<|.gk c12<|.gk c12<|.gk c12<|.bm rfl c12 rfl<|.nil) rfl ?_;refine .cq rfl rfl ?_;refine .al (.ao rfl<|.ao rfl<|.nil) rfl ?_;cases h;refine .aN (fun _ _ hb=>hb) rfl (.cons (.tmp rfl) (.t1 (.tmp rfl))) (.gV ⟨.gT _,.refl _,trivial⟩) trivial trivial
  ·replace h:=ae c12 h;refine .al (.mv rfl<|.not rfl<|.mv rfl<|.gz c11<|.mv rfl<|.gz c11<|.not rfl<|.bh rfl c11 rfl<|.mv rfl<|.gz c12<|.mv rfl<|.gz c12<|.mv rfl<|.gz c12<|.cm rfl rfl rfl<|.bh rfl c12 rfl<|.nil) rfl ?_;by_cases c13:(v4 !=v7)=true
   ·replace h:=ab c13 h;refine .cq rfl c13 ?_;refine .al (.ao rfl<|.ao rfl<|.nil) rfl ?_;cases h;refine .aN (fun _ _ hb=>hb) rfl (.cons (.tmp rfl) (.t1 (.tmp rfl))) (.gV ⟨.gT _,.refl _,trivial⟩) trivial trivial
   ·replace h:=ae c13 h;refine .cA rfl c13 ?_;refine .skip (Ok.on ?_);obtain⟨v14,e15,h⟩:=bind_some h;refine .al (.mv rfl<|.ah (wj e15) ⟨rfl,trivial⟩ trivial trivial<|.ao rfl<|.nil) rfl ?_;refine .al (.ao rfl<|.nil) rfl ?_;obtain⟨v45,hp17,h⟩:=bind_some h;refine .cz (fun i=>v45=i) (fun(i:(List (List Rat)))=>[(13,D.own 2000013)]) (fun(i:(List (List Rat)))=>[(2000013,aR (ak.slice ak.rat) 68 i)]) ?_ ?_
    ·have ho1:=h;have h:=hp17;refine .al (.mv rfl<|.fU rfl bn<|.mv rfl<|.nil) rfl ?_;refine .gT (ak.slice ak.rat) 13 2000013 68 rfl rfl ?_;obtain⟨o20,hl21,h⟩:=bind_some h;have ho2:=h;refine .block (.cc (fun(s:Int×(List (List Rat)))=>[(12,an (ak.slice ak.rat) v14),(13,D.own 2000013),(44,an (ak.slice ak.rat) a1),(45,D.int .i64 (a1.length:Int)),(46,D.int .i64 s.1)]) (fun(s:Int×(List (List Rat)))=>[(2000013,aR (ak.slice ak.rat) 68 s.2)]) hl21 (.of rfl) (.of rfl) rfl rfl ?_);rintro⟨v18,v19⟩ st22 hb23;have h:kz a1 v14 v18 v19=some st22:=hb23;unfold kz at h
     try dsimp only
     refine .al (.cm rfl rfl rfl<|.nil) rfl ?_;refine .sq ?_;by_cases c24:(decide (v18<(a1.length:Int)))=true
     ·replace h:=ab c24 h;refine .cq rfl c24 ?_;refine .skip (Ok.on ?_);refine .sq ?_;refine .block ?_;obtain⟨v25,e26,h⟩:=bind_some h;refine .al (.kX rfl rfl aC (ag e26).1 (ag e26).2<|.iJ rfl aH<|.ao rfl<|.nil) rfl ?_;refine .al (.G4 ak.rat bM rfl rfl<|.ao rfl<|.nil) rfl ?_;obtain⟨v42,hp28,h⟩:=bind_some h;refine .cz (fun i=>v42=i) (fun(i:(List Rat))=>[(12,an (ak.slice ak.rat) v14),(13,D.own 2000013),(16,D.own 50),(44,an (ak.slice ak.rat) a1),(45,D.int .i64 (a1.length:Int)),(46,D.int .i64 v18)]) (fun(i:(List Rat))=>[(2000013,aR (ak.slice ak.rat) 68 v19),(50,aR ak.rat 28 i)]) ?_ ?_
      ·have ho3:=h;have h:=hp28;refine .al (.mv rfl<|.fU rfl bn<|.mv rfl<|.nil) rfl ?_;obtain⟨o31,hl32,h⟩:=bind_some h;have ho4:=h;refine .block (.cc (fun(s:Int×(List Rat))=>[(12,an (ak.slice ak.rat) v14),(13,D.own 2000013),(15,an ak.rat v25),(16,D.own 50),(44,an (ak.slice ak.rat) a1),(45,D.int .i64 (a1.length:Int)),(46,D.int .i64 v18),(51,an (ak.slice ak.rat) v14),(52,D.int .i64 (v14.length:Int)),(53,D.int .i64 s.1)]) (fun(s:Int×(List Rat))=>[(2000013,aR (ak.slice ak.rat) 68 v19),(50,aR ak.rat 28 s.2)]) hl32 (.of rfl) (.of rfl) rfl rfl ?_);rintro⟨v29,v30⟩ st33 hb34;have h:kQ v14 v25 v29 v30=some st33:=hb34;unfold kQ at h
       try dsimp only
       refine .al (.cm rfl rfl rfl<|.nil) rfl ?_;refine .sq ?_;by_cases c35:(decide (v29<(v14.length:Int)))=true
       ·replace h:=ab c35 h;refine .cq rfl c35 ?_;refine .skip (Ok.on ?_);refine .sq ?_;refine .block ?_;obtain⟨v36,e37,h⟩:=bind_some h;refine .al (.kX rfl rfl aC (ag e37).1 (ag e37).2<|.iJ rfl aH<|.ao rfl<|.nil) rfl ?_;refine .sl 16 rfl rfl rfl ?_;obtain⟨v38,e39,h⟩:=bind_some h;obtain⟨k40,h⟩:=ax h;refine .region (.mv rfl<|.mv rfl<|.mv rfl<|.ah (FL e39) ⟨rfl,rfl,trivial⟩ trivial trivial<|.yO (e:=ak.rat) [v38] [(0,_,qD v38,qC (v38))] bM rfl rfl rfl ⟨rfl,rfl,.agg _,rfl,trivial⟩ ⟨rfl,trivial⟩ rfl rfl<|.xi (ys:=[v38]) rfl .sl rfl (.refl _) rfl bM rfl k40.1 k40.2 rfl<|.ao rfl<|.nil) rfl (Ok.on ?_);refine .region (.ar rfl rfl rfl<|.mv rfl<|.nil) rfl (fun _ _ hs=>⟨((IntKind.i64.wrap (v29+1)),(v30++[v38])),(sj h),hs.l7 (fun r=>match r with|50=>62|r=>r) (.r rfl rfl<|.p rfl (.own (r:=2000013))<|.r rfl rfl<|.p rfl (.own (r:=50))<|.r rfl rfl<|.r rfl rfl<|.r rfl rfl<|.r rfl rfl<|.r rfl rfl<|.r rfl rfl<|trivial) (.r rfl rfl<|.r rfl rfl<|trivial) rfl rfl rfl⟩)
       ·replace h:=ae c35 h;refine .cA rfl c35 ?_;refine .exit (fun a w hs=>⟨_,(sj h),fun e=>by subst e;have h:=ho4;exact aZ (⟨v30,(sj h),hs.sub (.of rfl) (.of rfl) rfl rfl⟩)⟩)
      ·rintro _ rfl
       try dsimp only
       refine .sl 13 rfl rfl rfl ?_;refine .sl 16 rfl rfl rfl ?_;refine .uF 16 (.own 50) rfl .sl ?_;refine .j9 16 rfl rfl rfl ?_;obtain⟨k43,h⟩:=ax h;refine .region (.mv rfl<|.mv rfl<|.yO (e:=(ak.slice ak.rat)) [v42] [(0,_,an ak.rat v42,[an ak.rat v42])] bX rfl rfl rfl ⟨rfl,rfl,.one rfl,rfl,trivial⟩ ⟨rfl,trivial⟩ rfl rfl<|.xi (ys:=[v42]) rfl .sl rfl (.refl _) rfl bX rfl k43.1 k43.2 rfl<|.ao rfl<|.nil) rfl (Ok.on ?_);refine .region (.ar rfl rfl rfl<|.mv rfl<|.nil) rfl (fun _ _ hs=>⟨((IntKind.i64.wrap (v18+1)),(v19++[v42])),(sj h),hs.l7 (fun r=>match r with|2000013=>67|r=>r) (.r rfl rfl<|.p rfl (.own (r:=2000013))<|.r rfl rfl<|.r rfl rfl<|.r rfl rfl<|trivial) (.r rfl rfl trivial) rfl rfl rfl⟩)
     ·replace h:=ae c24 h;refine .cA rfl c24 ?_;refine .exit (fun a w hs=>⟨_,(sj h),fun e=>by subst e;have h:=ho2;exact aZ (⟨v19,(sj h),hs.sub (.of rfl) (.of rfl) rfl rfl⟩)⟩)
    ·rintro _ rfl
     try dsimp only
     refine .sl 13 rfl rfl rfl ?_;refine .al (.mv rfl<|.ao rfl<|.ao rfl<|.nil) rfl ?_;refine .uF 4 (.own 2000013) rfl .sl ?_;refine .j9 4 rfl rfl rfl ?_;cases h;refine .aN (fun _ _ hb=>hb) rfl (.cons (.tmp rfl) (.t1 (.tmp rfl))) (.refl _) trivial trivial
def iv(a1:List (List Rat))(a2:List Rat)(v11:Int)(v12:List Rat):Option (St (Int×(List Rat)) (List Rat)):=(if(decide (v11<(a1.length:Int)))=true then(ix a1 v11).bind fun v18=>(uo v18 a2).bind fun v20=>bO ((v12.length+([v20]).length)*56<=140737488355328/\v12.length+([v20]).length<=9223372036854775807) (some (St.next ((IntKind.i64.wrap (v11+1)),(v12++[v20]))))else some (St.done v12))
def iK(a1:List (List Rat))(a2:List Rat):Option ((List Rat)×Int):=(dA a1).bind fun(v3,v4,v5)=>(if(!v5)=true then some ([],2)else(if(v4 !=(a2.length:Int))=true then some ([],2)else((Loop (fun(s:Int×(List Rat))=>iv a1 a2 s.1 s.2) (0,[])).bind fun v23=>some (v23)).bind fun v24=>some (v24,0)))
theorem AE{a1:List (List Rat)}{a2:List Rat}{r25:List Rat}{r26:Int}(h:iK a1 a2=some (r25,r26)):aW PP 108 [] [an (ak.slice ak.rat) a1,an ak.rat a2] [] (D.gV [an ak.rat r25,D.int .i64 r26]):=by
 unfold iK at h;refine .of Go.Proofs.Tryz.func108 rfl (by kernel_rfl) rfl rfl rfl rfl rfl rfl (fun A w0 L b=>?_);show Ok PP _ [(0,an (ak.slice ak.rat) a1),(1,an ak.rat a2)] [] _ _;refine .al (.ao rfl<|.ao rfl<|.nil) rfl ?_;refine .sq ?_;obtain⟨⟨v3,v4,v5⟩,e6,h⟩:=bind_some h;refine .al (.mv rfl<|.ah (fy e6) ⟨rfl,trivial⟩ trivial trivial<|.mv rfl<|.ext rfl rfl<|.ext rfl rfl<|.ext rfl rfl<|.ao rfl<|.ao rfl<|.ao rfl<|.nil) rfl ?_;by_cases c7:(!v5)=true
 ·replace h:=ab c7 h;refine .al (.mv rfl<|.not rfl<|.mv rfl<|.gk c7<|.gk c7<|.gk c7<|.gk c7<|.bm rfl c7 rfl<|.nil) rfl ?_;refine .cq rfl rfl ?_;refine .al (.ao rfl<|.ao rfl<|.nil) rfl ?_;cases h;refine .aN (fun _ _ hb=>hb) rfl (.cons (.tmp rfl) (.t1 (.tmp rfl))) (.gV ⟨.gT _,.refl _,trivial⟩) trivial trivial
 ·replace h:=ae c7 h;refine .al (.mv rfl<|.not rfl<|.mv rfl<|.gz c7<|.mv rfl<|.gz c7<|.mv rfl<|.gz c7<|.fU rfl cr<|.gz c7<|.cm rfl rfl rfl<|.bh rfl c7 rfl<|.nil) rfl ?_;by_cases c8:(v4 !=(a2.length:Int))=true
  ·replace h:=ab c8 h;refine .cq rfl c8 ?_;refine .al (.ao rfl<|.ao rfl<|.nil) rfl ?_;cases h;refine .aN (fun _ _ hb=>hb) rfl (.cons (.tmp rfl) (.t1 (.tmp rfl))) (.gV ⟨.gT _,.refl _,trivial⟩) trivial trivial
  ·replace h:=ae c8 h;refine .cA rfl c8 ?_;refine .skip (Ok.on ?_);refine .al (.ao rfl<|.nil) rfl ?_;obtain⟨v24,hp10,h⟩:=bind_some h;refine .cz (fun i=>v24=i) (fun(i:(List Rat))=>[(9,D.own 2000009)]) (fun(i:(List Rat))=>[(2000009,aR ak.rat 28 i)]) ?_ ?_
   ·have ho1:=h;have h:=hp10;refine .al (.mv rfl<|.fU rfl bn<|.mv rfl<|.nil) rfl ?_;refine .gT ak.rat 9 2000009 28 rfl rfl ?_;obtain⟨o13,hl14,h⟩:=bind_some h;have ho2:=h;refine .block (.cc (fun(s:Int×(List Rat))=>[(1,an ak.rat a2),(9,D.own 2000009),(26,an (ak.slice ak.rat) a1),(27,D.int .i64 (a1.length:Int)),(28,D.int .i64 s.1)]) (fun(s:Int×(List Rat))=>[(2000009,aR ak.rat 28 s.2)]) hl14 (.of rfl) (.of rfl) rfl rfl ?_);rintro⟨v11,v12⟩ st15 hb16;have h:iv a1 a2 v11 v12=some st15:=hb16;unfold iv at h
    try dsimp only
    refine .al (.cm rfl rfl rfl<|.nil) rfl ?_;refine .sq ?_;by_cases c17:(decide (v11<(a1.length:Int)))=true
    ·replace h:=ab c17 h;refine .cq rfl c17 ?_;refine .skip (Ok.on ?_);refine .sq ?_;refine .block ?_;obtain⟨v18,e19,h⟩:=bind_some h;refine .al (.kX rfl rfl aC (ag e19).1 (ag e19).2<|.iJ rfl aH<|.ao rfl<|.nil) rfl ?_;refine .sl 9 rfl rfl rfl ?_;obtain⟨v20,e21,h⟩:=bind_some h;obtain⟨k22,h⟩:=ax h;refine .region (.mv rfl<|.mv rfl<|.mv rfl<|.ah (FL e21) ⟨rfl,rfl,trivial⟩ trivial trivial<|.yO (e:=ak.rat) [v20] [(0,_,qD v20,qC (v20))] bM rfl rfl rfl ⟨rfl,rfl,.agg _,rfl,trivial⟩ ⟨rfl,trivial⟩ rfl rfl<|.xi (ys:=[v20]) rfl .sl rfl (.refl _) rfl bM rfl k22.1 k22.2 rfl<|.ao rfl<|.nil) rfl (Ok.on ?_);refine .region (.ar rfl rfl rfl<|.mv rfl<|.nil) rfl (fun _ _ hs=>⟨((IntKind.i64.wrap (v11+1)),(v12++[v20])),(sj h),hs.l7 (fun r=>match r with|2000009=>37|r=>r) (.r rfl rfl<|.p rfl (.own (r:=2000009))<|.r rfl rfl<|.r rfl rfl<|.r rfl rfl<|trivial) (.r rfl rfl trivial) rfl rfl rfl⟩)
    ·replace h:=ae c17 h;refine .cA rfl c17 ?_;refine .exit (fun a w hs=>⟨_,(sj h),fun e=>by subst e;have h:=ho2;exact aZ (⟨v12,(sj h),hs.sub (.of rfl) (.of rfl) rfl rfl⟩)⟩)
   ·rintro _ rfl
    try dsimp only
    refine .sl 9 rfl rfl rfl ?_;refine .al (.mv rfl<|.ao rfl<|.ao rfl<|.nil) rfl ?_;refine .uF 4 (.own 2000009) rfl .sl ?_;refine .j9 4 rfl rfl rfl ?_;cases h;refine .aN (fun _ _ hb=>hb) rfl (.cons (.tmp rfl) (.t1 (.tmp rfl))) (.refl _) trivial trivial
end
end Go.Am
namespace Go.Am
open Go.RowKit
set_option maxRecDepth 100000
noncomputable section
def jc(a1:List (List (Int×Int×Int)))(a2:Int)(v5:Int):Option (St Int (Ex Unit Bool)):=(if(decide (v5<(a1.length:Int)))=true then(if(decide (v5<=a2))=true then(ix a1 v5).bind fun v12=>(if(decide ((v12.length:Int)>a2))=true then some (St.done (Ex.ret false))else some (St.next (IntKind.i64.wrap (v5+1))))else some (St.done (Ex.cp ())))else some (St.done (Ex.cp ())))
def km(a1:List (List (Int×Int×Int)))(a2:Int):Option Bool:=((Loop (fun(s:Int)=>jc a1 a2 s) 0).bind fun o6=>(match o6 with|Ex.cp ()=>some (Ex.cp ())|Ex.ret r15=>some (Ex.ret r15))).bind fun o3=>(match o3 with|Ex.cp ()=>some (decide ((a1.length:Int)<=a2))|Ex.ret r16=>some r16)
theorem mC{a1:List (List (Int×Int×Int))}{a2:Int}{r17:Bool}(h:km a1 a2=some r17):aW PP 104 [] [an (ak.slice (ak.prod (ak.int .i64) (ak.prod (ak.int .i64) (ak.int .u8)))) a1,D.int .i64 a2] [] (D.bool r17):=by
 unfold km at h;refine .of Go.Proofs.Tryz.func104 rfl (by kernel_rfl) rfl rfl rfl rfl rfl rfl (fun A w0 L b=>?_);show Ok PP _ [(0,an (ak.slice (ak.prod (ak.int .i64) (ak.prod (ak.int .i64) (ak.int .u8)))) a1),(1,D.int .i64 a2)] [] _ _;refine .al (.ao rfl<|.nil) rfl ?_;obtain⟨o3,hp4,h⟩:=bind_some h;refine .cz (fun i=>o3=Ex.cp i) (fun(i:Unit)=>[(0,an (ak.slice (ak.prod (ak.int .i64) (ak.prod (ak.int .i64) (ak.int .u8)))) a1),(1,D.int .i64 a2)]) (fun(i:Unit)=>[]) ?_ ?_
 ·have ho1:=h;have h:=hp4;refine .al (.ao rfl<|.nil) rfl ?_;obtain⟨o6,hl7,h⟩:=bind_some h;have ho2:=h;refine .block (.cc (fun(s:Int)=>[(0,an (ak.slice (ak.prod (ak.int .i64) (ak.prod (ak.int .i64) (ak.int .u8)))) a1),(1,D.int .i64 a2),(5,D.int .i64 s)]) (fun(s:Int)=>[]) hl7 (.of rfl) trivial rfl rfl ?_);rintro v5 st8 hb9;have h:jc a1 a2 v5=some st8:=hb9;unfold jc at h
  try dsimp only
  refine .sq ?_;by_cases c10:(decide (v5<(a1.length:Int)))=true
  ·replace h:=ab c10 h;refine .al (.mv rfl<|.mv rfl<|.fU rfl fg<|.cm rfl rfl rfl<|.mv rfl<|.gy c10<|.mv rfl<|.gy c10<|.mv rfl<|.gy c10<|.cm rfl rfl rfl<|.bm rfl c10 rfl<|.nil) rfl ?_;by_cases c11:(decide (v5<=a2))=true
   ·replace h:=ab c11 h;refine .cq rfl c11 ?_;refine .skip (Ok.on ?_);refine .sq ?_;refine .block ?_;obtain⟨v12,e13,h⟩:=bind_some h;refine .al (.mv rfl<|.mv rfl<|.kX rfl rfl j7 (ag e13).1 (ag e13).2<|.iJ rfl kD<|.fU rfl ik<|.mv rfl<|.cm rfl rfl rfl<|.nil) rfl ?_;by_cases c14:(decide ((v12.length:Int)>a2))=true
    ·replace h:=ab c14 h;refine .cq rfl c14 ?_;refine .al (.ao rfl<|.nil) rfl ?_;refine .aN (Hi:=[]) (Ho:=[]) (b:=b) (fn:=Go.Proofs.Tryz.f104) (d:=D.bool false) (fun _ _ hb=>by exact⟨_,(sj h),fun e=>by subst e;have h:=ho2;cases h;have h:=ho1;cases h;exact hb⟩) rfl (.t1 (.tmp rfl)) (.refl _) trivial trivial
    ·replace h:=ae c14 h;refine .cA rfl c14 ?_;refine .skip (Ok.on ?_);refine .region (.mv rfl<|.ar rfl rfl rfl<|.ao rfl<|.nil) rfl (fun _ _ hs=>⟨(IntKind.i64.wrap (v5+1)),(sj h),hs.sub (.of rfl) trivial rfl rfl⟩)
   ·replace h:=ae c11 h;refine .cA rfl c11 ?_;refine .exit (fun a w hs=>⟨_,(sj h),fun e=>by subst e;have h:=ho2;exact aZ (⟨(),(sj h),hs.sub (.of rfl) trivial rfl rfl⟩)⟩)
  ·replace h:=ae c10 h;refine .al (.mv rfl<|.mv rfl<|.fU rfl fg<|.cm rfl rfl rfl<|.mv rfl<|.gm c10<|.gm c10<|.gm c10<|.bh rfl c10 rfl<|.nil) rfl ?_;refine .cA rfl (by decide) ?_;refine .exit (fun a w hs=>⟨_,(sj h),fun e=>by subst e;have h:=ho2;exact aZ (⟨(),(sj h),hs.sub (.of rfl) trivial rfl rfl⟩)⟩)
 ·rintro⟨⟩ rfl
  try dsimp only
  refine .al (.mv rfl<|.fU rfl fg<|.mv rfl<|.cm rfl rfl rfl<|.ao rfl<|.nil) rfl ?_;cases h;refine .aN (fun _ _ hb=>hb) rfl (.t1 (.tmp rfl)) (.refl _) trivial trivial
def ie(a1:List (List (Int×Int×Int)))(v4:Int)(v5:List (List Rat))(v6:List (List Rat)):Option (St (Int×(List (List Rat))×(List (List Rat))) ((List (List Rat))×(List (List Rat)))):=(if(decide (v4<(a1.length:Int)))=true then(ix a1 v4).bind fun v12=>(mg v12).bind fun(v14,v15)=>bO ((v5.length+([v14]).length)*24<=140737488355328/\v5.length+([v14]).length<=9223372036854775807) (bO ((v6.length+([v15]).length)*24<=140737488355328/\v6.length+([v15]).length<=9223372036854775807) (some (St.next ((IntKind.i64.wrap (v4+1)),(v5++[v14]),(v6++[v15])))))else some (St.done (v5,v6)))
def mI(a1:List (List (Int×Int×Int))):Option ((List (List Rat))×(List (List Rat))):=((Loop (fun(s:Int×(List (List Rat))×(List (List Rat)))=>ie a1 s.1 s.2.1 s.2.2) (0,[],[])).bind fun(v19,v20)=>some ((v19,v20))).bind fun(v21,v22)=>some (v21,v22)
theorem z_{a1:List (List (Int×Int×Int))}{r23:List (List Rat)}{r24:List (List Rat)}(h:mI a1=some (r23,r24)):aW PP 105 [] [an (ak.slice (ak.prod (ak.int .i64) (ak.prod (ak.int .i64) (ak.int .u8)))) a1] [] (D.gV [an (ak.slice ak.rat) r23,an (ak.slice ak.rq) r24]):=by
 unfold mI at h;refine .of Go.Proofs.Tryz.func105 rfl (by kernel_rfl) rfl rfl rfl rfl rfl rfl (fun A w0 L b=>?_);show Ok PP _ [(0,an (ak.slice (ak.prod (ak.int .i64) (ak.prod (ak.int .i64) (ak.int .u8)))) a1)] [] _ _;refine .al (.ao rfl<|.ao rfl<|.nil) rfl ?_;refine .al (.ao rfl<|.nil) rfl ?_;refine .al (.ao rfl<|.nil) rfl ?_;obtain⟨o2,hp3,h⟩:=bind_some h;refine .cz (fun i=>o2=i) (fun(i:(List (List Rat))×(List (List Rat)))=>[(4,D.own 2000004),(5,D.own 2000005)]) (fun(i:(List (List Rat))×(List (List Rat)))=>[(2000004,aR (ak.slice ak.rat) 68 i.1),(2000005,aR (ak.slice ak.rq) 69 i.2)]) ?_ ?_
 ·have ho1:=h;have h:=hp3;refine .al (.ao rfl<|.nil) rfl ?_;refine .gT (ak.slice ak.rat) 4 2000004 68 rfl rfl ?_;refine .gT (ak.slice ak.rq) 5 2000005 69 rfl rfl ?_;obtain⟨o7,hl8,h⟩:=bind_some h;have ho2:=h;refine .block (.cc (fun(s:Int×(List (List Rat))×(List (List Rat)))=>[(0,an (ak.slice (ak.prod (ak.int .i64) (ak.prod (ak.int .i64) (ak.int .u8)))) a1),(4,D.own 2000004),(5,D.own 2000005),(6,D.int .i64 s.1)]) (fun(s:Int×(List (List Rat))×(List (List Rat)))=>[(2000004,aR (ak.slice ak.rat) 68 s.2.1),(2000005,aR (ak.slice ak.rq) 69 s.2.2)]) hl8 (.of rfl) (.of rfl) rfl rfl ?_);rintro⟨v4,v5,v6⟩ st9 hb10;have h:ie a1 v4 v5 v6=some st9:=hb10;unfold ie at h
  try dsimp only
  refine .sq ?_;refine .al (.mv rfl<|.mv rfl<|.fU rfl fg<|.cm rfl rfl rfl<|.nil) rfl ?_;by_cases c11:(decide (v4<(a1.length:Int)))=true
  ·replace h:=ab c11 h;refine .cq rfl c11 ?_;refine .skip (Ok.on ?_);refine .sq ?_;refine .block ?_;obtain⟨v12,e13,h⟩:=bind_some h;obtain⟨⟨v14,v15⟩,e16,h⟩:=bind_some h;refine .al (.mv rfl<|.mv rfl<|.kX rfl rfl j7 (ag e13).1 (ag e13).2<|.iJ rfl kD<|.ah (yB e16) ⟨rfl,trivial⟩ trivial trivial<|.mv rfl<|.ext rfl rfl<|.ext rfl rfl<|.ao rfl<|.ao rfl<|.nil) rfl ?_;refine .sl 4 rfl rfl rfl ?_;obtain⟨k17,h⟩:=ax h;refine .al (.mv rfl<|.mv rfl<|.yO (e:=(ak.slice ak.rat)) [v14] [(0,_,an ak.rat v14,[an ak.rat v14])] bX rfl rfl rfl ⟨rfl,rfl,.one rfl,rfl,trivial⟩ ⟨rfl,trivial⟩ rfl rfl<|.xi (ys:=[v14]) rfl .sl rfl (.refl _) rfl bX rfl k17.1 k17.2 rfl<|.ao rfl<|.nil) rfl ?_;refine .sl 5 rfl rfl rfl ?_;obtain⟨k18,h⟩:=ax h;refine .region (.mv rfl<|.mv rfl<|.yO (e:=(ak.slice ak.rq)) [v15] [(0,_,an ak.rq v15,[an ak.rq v15])] lz rfl rfl rfl ⟨rfl,rfl,.one rfl,rfl,trivial⟩ ⟨rfl,trivial⟩ rfl rfl<|.xi (ys:=[v15]) rfl .sl rfl (.refl _) rfl lz rfl k18.1 k18.2 rfl<|.ao rfl<|.nil) rfl (Ok.on ?_);refine .region (.mv rfl<|.ar rfl rfl rfl<|.ao rfl<|.nil) rfl (fun _ _ hs=>⟨((IntKind.i64.wrap (v4+1)),(v5++[v14]),(v6++[v15])),(sj h),hs.l7 (fun r=>match r with|2000004=>26|2000005=>30|r=>r) (.r rfl rfl<|.p rfl (.own (r:=2000004))<|.p rfl (.own (r:=2000005))<|.r rfl rfl<|trivial) (.r rfl rfl<|.r rfl rfl<|trivial) rfl rfl rfl⟩)
  ·replace h:=ae c11 h;refine .cA rfl c11 ?_;refine .exit (fun a w hs=>⟨_,(sj h),fun e=>by subst e;have h:=ho2;exact aZ (⟨(v5,v6),(sj h),hs.sub (.of rfl) (.of rfl) rfl rfl⟩)⟩)
 ·rintro⟨v21,v22⟩ rfl
  try dsimp only
  refine .sl 4 rfl rfl rfl ?_;refine .sl 5 rfl rfl rfl ?_;refine .al (.mv rfl<|.mv rfl<|.ao rfl<|.ao rfl<|.nil) rfl ?_;refine .uF 2 (.own 2000004) rfl .sl ?_;refine .j9 2 rfl rfl rfl ?_;refine .uF 3 (.own 2000005) rfl .sl ?_;refine .j9 3 rfl rfl rfl ?_;cases h;refine .aN (fun _ _ hb=>hb) rfl (.cons (.tmp rfl) (.t1 (.tmp rfl))) (.refl _) trivial trivial
end
end Go.Am
namespace Go.Am
theorem dG{σ ρ:Type}{body:Int×σ->Option (St (Int×σ) ρ)}(n:Nat)(F:Nat->σ)(r:ρ)(hb:∀i,i<n->body ((i:Int),F i)=some (.next (((i+1:Nat):Int),F (i+1))))(he:body ((n:Int),F n)=some (.done r)):Loop body ((0:Int),F 0)=some r:=by
 obtain⟨r',hr,rfl⟩:=bZ (body:=body) ((0:Int),F 0) (fun s=>∃i:Nat,i<=n/\s=((i:Int),F i)) (fun s=>(n-s.1).toNat) (fun r'=>r'=r) ⟨0,Nat.zero_le _,rfl⟩ (by
  rintro s ⟨i,hi,rfl⟩;by_cases hlt:i<n
  ·left
   exact⟨_,hb i hlt,⟨i+1,hlt,rfl⟩,by simp only;omega⟩
  ·right
   have:i=n:=by omega
   subst this;exact⟨_,he,rfl⟩)
 exact hr
theorem qF{ρ:Type}{body:Int->Option (St Int ρ)}(n:Nat)(r:ρ)(hb:∀i:Nat,i<n->body (i:Int)=some (.next ((i+1:Nat):Int)))(he:body (n:Int)=some (.done r)):Loop body (0:Int)=some r:=by
 obtain⟨r',hr,rfl⟩:=bZ (body:=body) (0:Int) (fun s=>∃i:Nat,i<=n/\s=(i:Int)) (fun s=>(n-s).toNat) (fun r'=>r'=r) ⟨0,Nat.zero_le _,rfl⟩ (by
  rintro s ⟨i,hi,rfl⟩;by_cases hlt:i<n
  ·left
   exact⟨_,hb i hlt,⟨i+1,hlt,rfl⟩,by omega⟩
  ·right
   have:i=n:=by omega
   subst this;exact⟨_,he,rfl⟩)
 exact hr
def ay(n m:Nat)(f:Nat->Nat->Rat):List (List Rat):=(List.range n).map fun k=>(List.range m).map (f k)
theorem aI{n m:Nat}{f:Nat->Nat->Rat}:(ay n m f).length=n:=by simp[ay]
theorem cj{n m:Nat}{f:Nat->Nat->Rat}{k:Nat}(h:k<n):ix (ay n m f) (k:Int)=some ((List.range m).map (f k)):=by
 rw[dT (by rw[aI];exact h)];simp[ay]
theorem eO{m:Nat}{g:Nat->Rat}{j:Nat}(h:j<m):ix ((List.range m).map g) (j:Int)=some (g j):=by
 rw[dT (by simpa using h)];simp
theorem dk{n m:Nat}{f g:Nat->Nat->Rat}(h:∀k j,k<n->j<m->f k j=g k j):ay n m f=ay n m g:=by
 unfold ay;apply List.map_congr_left;intro k hk;apply List.map_congr_left;intro j hj;exact h k j (by simpa using hk) (by simpa using hj)
theorem yv{n m:Nat}{f:Nat->Nat->Rat}{k j:Nat}{v:Rat}:(ay n m f).set ((k:Int).toNat) (((List.range m).map (f k)).set ((j:Int).toNat) v)=ay n m (fun k' j'=>if k'=k/\j'=j then v else f k' j'):=by
 rw[Int.toNat_natCast,Int.toNat_natCast];apply List.ext_getElem
 ·simp[ay]
 ·intro a h1 h2;rw[List.length_set,aI]at h1;by_cases ha:a=k
  ·subst ha;rw[List.getElem_set_self];simp only[ay,List.getElem_map,List.getElem_range];apply List.ext_getElem
   ·simp
   ·intro b h3 h4;by_cases hb:b=j
    ·subst hb;rw[List.getElem_set_self];simp
    ·rw[List.getElem_set_ne (Ne.symm hb)];simp[hb]
  ·rw[List.getElem_set_ne (Ne.symm ha)];simp only[ay,List.getElem_map,List.getElem_range];apply List.map_congr_left;intro b _;simp[ha]
def aJ(M:List (List Rat)):Nat:=(M.getD 0 []).length
def right(M:List (List Rat)):Bool:=M.all fun r=>r.length==aJ M
def fZ(M:List (List Rat))(i j:Nat):Rat:=(M.getD i []).getD j 0
def bd(M:List (List Rat))(b:Nat):Prop:=∀r∈M,∀x∈r,sz x<=b
theorem iy{M:List (List Rat)}(h:right M=true){i:Nat}(hi:i<M.length):(M[i]).length=aJ M:=by
 unfold right at h;rw[List.all_eq_true]at h;simpa using h M[i] (List.getElem_mem hi)
theorem z8{M:List (List Rat)}{i j:Nat}(hi:i<M.length)(hj:j<(M[i]).length):fZ M i j=(M[i])[j]:=by
 unfold fZ;rw[dM hi,dM hj]
theorem nC{M:List (List Rat)}{b:Nat}(h:bd M b)(hb:1<=b)(i j:Nat):sz (fZ M i j)<=b:=by
 unfold fZ;by_cases hi:i<M.length
 ·rw[dM hi];by_cases hj:j<(M[i]).length
  ·rw[dM hj];exact h _ (List.getElem_mem hi) _ (List.getElem_mem hj)
  ·rw[jG (by omega)];exact Nat.le_trans (by decide) hb
 ·have e:M.getD i []=[]:=jG (by omega);rw[e];exact Nat.le_trans (show sz (([]:List Rat).getD j 0)<=1 by rw[jG (by simp)];decide) hb
theorem xw{M:List (List Rat)}(h:0<M.length):aJ M=(M[0]).length:=by unfold aJ;rw[dM h]
theorem vE{M:List (List Rat)}{i:Nat}(hi:i<M.length)(h:(M[i]).length≠aJ M):right M=false:=by
 cases hq:right M with
 |false=>rfl
 |true=>exact absurd (iy hq hi) h
theorem ur{M:List (List Rat)}(h:∀i (hi:i<M.length),(M[i]).length=aJ M):right M=true:=by
 unfold right;rw[List.all_eq_true];intro r hr;obtain⟨i,hi,rfl⟩:=List.getElem_of_mem hr;simpa using h i hi
theorem CC(M:List (List Rat))(hM:M.length<=30):ri M=some (if right M then((aJ M:Int),true)else(0,false)):=by
 obtain⟨r,hr,hp⟩:=bZ (body:=fun(s:Int×Int)=>mX M s.1 s.2) (0,0) (fun s=>∃i:Nat,i<=M.length/\s=((if i=0 then 0 else(aJ M:Int)),(i:Int))/\∀k (hk:k<M.length),k<i->(M[k]).length=aJ M) (fun s=>(M.length-s.2).toNat)
  (fun r=>(right M=false/\r=Ex.ret (0,false))\/(right M=true/\r=Ex.cp (aJ M:Int))) ⟨0,Nat.zero_le _,rfl,fun k _ hk=>by omega⟩ (by
  rintro s ⟨i,hi,rfl,hall⟩;simp only;unfold mX;by_cases hlt:i<M.length
  ·rw[if_pos (decide_eq_true (by omega)),dT hlt];have hc:=xw (M:=M) (by omega);have e:(if((i:Int)==0)=true then(some M[i]).bind fun v14=>some ((v14.length:Int))else some (if i=0 then 0 else(aJ M:Int)))=some (aJ M:Int):=by
    by_cases h0:i=0
    ·subst h0;simp[hc]
    ·rw[if_neg (by simpa using h0),if_neg h0]
   rw[e];simp only[Option.bind_some];by_cases hq:(M[i]).length=aJ M
   ·left
    rw[hq,if_neg (by simp)];refine⟨_,rfl,⟨i+1,hlt,?_,fun k hk hki=>?_⟩,by simp only;rw[ct hlt (by omega)];omega⟩
    ·rw[ct hlt (by omega)];simp
    ·by_cases e:k=i
     ·subst e;exact hq
     ·exact hall k hk (by omega)
   ·right
    rw[if_pos (by simp;omega)];exact⟨_,rfl,.inl ⟨vE hlt hq,rfl⟩⟩
  ·right
   rw[if_neg (by simp;omega)];have hil:i=M.length:=by omega
   refine⟨_,rfl,.inr ⟨ur (fun k hk=>hall k hk (by omega)),?_⟩⟩;by_cases h0:i=0
   ·rw[if_pos h0];have:aJ M=0:=by unfold aJ;rw[jG (by omega)];rfl
    rw[this];rfl
   ·rw[if_neg h0])
 unfold ri;rw[hr];rcases hp with⟨h1,rfl⟩|⟨h1,rfl⟩<;>rw[h1]<;>rfl
theorem dO(M:List (List Rat))(hM:M.length<=30):dA M=some ((M.length:Int),(aJ M:Int),right M):=by
 unfold dA;by_cases h0:M=[]
 ·subst h0;rfl
 have hl:0<M.length:=List.length_pos_iff.2 h0;rw[if_neg (by simpa using h0)];have e0:ix M 0=some M[0]:=dT (n:=0) hl;rw[e0];simp only[Option.bind_some];obtain⟨r,hr,hp⟩:=bZ (body:=fun(s:Int)=>dZ M ((M[0]).length:Int) s) 0 (fun s=>∃i:Nat,i<=M.length/\s=(i:Int)/\∀k (hk:k<M.length),k<i->(M[k]).length=aJ M) (fun s=>(M.length-s).toNat)
  (fun r=>(right M=false/\∃j:Int,0<=j/\r=Ex.ret j)\/(right M=true/\r=Ex.cp ())) ⟨0,Nat.zero_le _,rfl,fun k _ hk=>by omega⟩ (by
  rintro s ⟨i,hi,rfl,hall⟩;unfold dZ kg;by_cases hlt:i<M.length
  ·rw[if_pos (decide_eq_true (by omega)),dT hlt,←xw hl];simp only[Option.bind_some];by_cases hq:(M[i]).length=aJ M
   ·left
    rw[hq,if_neg (by simp)];refine⟨_,rfl,⟨i+1,hlt,ct hlt (by omega),fun k hk hki=>?_⟩,by rw[ct hlt (by omega)];omega⟩;by_cases e:k=i
    ·subst e;exact hq
    ·exact hall k hk (by omega)
   ·right
    rw[if_pos (by simp;omega)];exact⟨_,rfl,.inl ⟨vE hlt hq,_,by omega,rfl⟩⟩
  ·right
   rw[if_neg (by simp;omega)];exact⟨_,rfl,.inr ⟨ur (fun k hk=>hall k hk (by omega)),rfl⟩⟩)
 unfold fc gJ;rw[hr,←xw hl];rcases hp with⟨h1,j,hj,rfl⟩|⟨h1,rfl⟩
 ·rw[h1];have:decide (j>=0)=true:=decide_eq_true hj;simp only[Option.bind_some,this]
  rfl
 ·rw[h1];rfl
def iq(g h:Nat->Rat):Nat->Rat
 |0=>0
 |j+1=>iq g h j+g j*h j
theorem sZ{g h g' h':Nat->Rat}:∀{n:Nat},(∀j,j<n->g j=g' j/\h j=h' j)->iq g h n=iq g' h' n
 |0,_=>rfl
 |n+1,k=>by
  have h1:=k n (by omega);unfold iq;rw[sZ (fun j hj=>k j (by omega)),h1.1,h1.2]
theorem sG{g h:Nat->Rat}{b:Nat}(hg:∀j,sz (g j)<=b)(hh:∀j,sz (h j)<=b):∀n,sz (iq g h n)<=1+n*(2*b+2)
 |0=>by
  have:sz (0:Rat)<=1:=by decide
  show sz (0:Rat)<=_;omega
 |n+1=>by
  have h1:=sG hg hh n;have h2:=nD (iq g h n) (g n*h n);have h3:=gQ (g n) (h n);have h4:=hg n;have h5:=hh n;unfold iq;rw[Nat.succ_mul];omega
theorem CA{a c:List Rat}{b:Nat}(hl:a.length<=30)(hc:a.length<=c.length)(ha:∀j,sz (a.getD j 0)<=b)(hh:∀j,sz (c.getD j 0)<=b)(hb:b<=100000000):uo a c=some (iq (fun j=>a.getD j 0) (fun j=>c.getD j 0) a.length)/\mM a c=some (iq (fun j=>a.getD j 0) (fun j=>c.getD j 0) a.length):=by
 have key:∀i:Nat,i<a.length->iV a c (i:Int) (iq (fun j=>a.getD j 0) (fun j=>c.getD j 0) i)=some (.next (((i+1:Nat):Int),iq (fun j=>a.getD j 0) (fun j=>c.getD j 0) (i+1))):=by
  intro i hi;unfold iV;rw[if_pos (decide_eq_true (by omega)),Ik a 0 i hi,Ik c 0 i (by omega),ct hi (by omega)]
  haveI:Bd (a.getD i 0) 100000000:=⟨Nat.le_trans (ha i) hb⟩
  haveI:Bd (c.getD i 0) 100000000:=⟨Nat.le_trans (hh i) hb⟩
  haveI:Bd (iq (fun j=>a.getD j 0) (fun j=>c.getD j 0) i) 10000000000:=⟨by
   have:=sG (g:=fun j=>a.getD j 0) (h:=fun j=>c.getD j 0) ha hh i;have h2:i*(2*b+2)<=30*(2*100000000+2):=Nat.mul_le_mul (by omega) (by omega);omega⟩
  simp only[Option.bind_some,GG,GO,Nat.reduceAdd,Nat.reduceLeDiff]
  rfl
 have he:iV a c (a.length:Int) (iq (fun j=>a.getD j 0) (fun j=>c.getD j 0) a.length)=some (.done (iq (fun j=>a.getD j 0) (fun j=>c.getD j 0) a.length)):=by
  unfold iV;rw[if_neg (by simp)]
 have hL:=dG (body:=fun(s:Int×Rat)=>iV a c s.1 s.2) a.length (iq (fun j=>a.getD j 0) (fun j=>c.getD j 0)) _ key he
 constructor
 ·unfold uo;have:Loop (fun(s:Int×Rat)=>iV a c s.1 s.2) (0,0)=some (iq (fun j=>a.getD j 0) (fun j=>c.getD j 0) a.length):=hL;rw[this];rfl
 ·unfold mM;have:Loop (fun(s:Int×Rat)=>oT a c s.1 s.2) (0,0)=some (iq (fun j=>a.getD j 0) (fun j=>c.getD j 0) a.length):=hL;rw[this];rfl
end Go.Am
namespace Go.Am
theorem kl{k m:Nat}{f:Nat->Nat->Rat}:ay (k+1) m f=ay k m f++[(List.range m).map (f k)]:=by
 unfold ay;rw[List.range_succ,List.map_append];rfl
theorem ml{m:Nat}{g:Nat->Rat}:(List.range (m+1)).map g=(List.range m).map g++[g m]:=by
 rw[List.range_succ,List.map_append];rfl
theorem wY{r:List Rat}:r=(List.range r.length).map fun j=>r.getD j 0:=by
 apply List.ext_getElem
 ·simp
 ·intro j h1 h2;simp[List.getD,h1]
theorem Aa{M:List (List Rat)}(h:right M=true):M=ay M.length (aJ M) (fZ M):=by
 apply List.ext_getElem
 ·rw[aI]
 ·intro i h1 h2;simp only[ay,List.getElem_map,List.getElem_range];rw[←iy h h1]
  conv=>lhs;rw[wY (r:=M[i])]
  apply List.map_congr_left;intro j _;unfold fZ;rw[dM h1]
theorem wo{M:List (List Rat)}{i:Nat}(hi:i<M.length):ix M (i:Int)=some M[i]:=dT hi
theorem FI{M:List (List Rat)}(h:right M=true){i j:Nat}(hi:i<M.length)(hj:j<aJ M):ix M[i] (j:Int)=some (fZ M i j):=by
 have hl:j<(M[i]).length:=by rw[iy h hi];exact hj
 rw[dT hl,z8 hi hl]
variable {M:List (List Rat)}
theorem A2(h:right M=true)(hl:M.length<=30)(hc:aJ M<=30):jf M=some (ay (aJ M) M.length fun k i=>fZ M i k):=by
 unfold jf;rw[dO M hl];simp only[Option.bind_some];have hL:=dG (body:=fun(s:Int×(List (List Rat)))=>dX M (aJ M:Int) s.1 s.2) (aJ M) (fun k=>ay k M.length fun k i=>fZ M i k) (ay (aJ M) M.length fun k i=>fZ M i k) (fun k hk=>by
   unfold dX;rw[if_pos (decide_eq_true (by omega))];have hI:=dG (body:=fun(s:Int×(List Rat))=>dV M (k:Int) s.1 s.2) M.length (fun i=>(List.range i).map fun i=>fZ M i k) ((List.range M.length).map fun i=>fZ M i k) (fun i hi=>by
     unfold dV;rw[if_pos (decide_eq_true (by omega)),wo hi];simp only[Option.bind_some];rw[FI h hi hk];simp only[Option.bind_some];rw[aG (by simp only[List.length_map,List.length_range,List.length_singleton];omega),ct hi (by omega),ml]) (by
     unfold dV;rw[if_neg (by simp)])
   have:Loop (fun(s:Int×(List Rat))=>dV M (k:Int) s.1 s.2) (0,[])=some ((List.range M.length).map fun i=>fZ M i k):=hI;rw[this];simp only[Option.bind_some];rw[aG (by simp only[aI,List.length_singleton];omega),ct hk (by omega),kl]) (by
   unfold dX;rw[if_neg (by simp)])
 have:Loop (fun(s:Int×(List (List Rat)))=>dX M (aJ M:Int) s.1 s.2) (0,[])=some (ay (aJ M) M.length fun k i=>fZ M i k):=hL;rw[this];rfl
end Go.Am
namespace Go.Am
open Go.RowKit
set_option maxRecDepth 100000
noncomputable section
end
end Go.Am
namespace Go.Am
variable {M N:List (List Rat)}
theorem AA{b:Nat}(h:bd M b)(hb:1<=b){i:Nat}(hi:i<M.length)(j:Nat):sz (M[i].getD j 0)<=b:=by
 have:=nC h hb i j;unfold fZ at this
 rwa [dM hi]at this
theorem EO{n m b:Nat}{f:Nat->Nat->Rat}(h:∀k j,sz (f k j)<=b):bd (ay n m f) b:=by
 intro r hr x hx;unfold ay at hr;obtain⟨k,_,rfl⟩:=List.mem_map.1 hr;obtain⟨j,_,rfl⟩:=List.mem_map.1 hx;exact h k j
theorem ym{v:List Rat}{b:Nat}(h:right M=true)(hl:M.length<=30)(hc:aJ M=v.length)(hv:v.length<=30)(hb:bd M b)(hvb:∀j,sz (v.getD j 0)<=b)(hb1:1<=b)(hb2:b<=100000000):
  iK M v=some ((List.range M.length).map (fun i=>iq (fun j=>fZ M i j) (fun j=>v.getD j 0) (aJ M)),0)/\vw M v=some ((List.range M.length).map (fun i=>iq (fun j=>fZ M i j) (fun j=>v.getD j 0) (aJ M))):=by
 have hd:∀(i:Nat) (hi:i<M.length),uo M[i] v=some (iq (fun j=>fZ M i j) (fun j=>v.getD j 0) (aJ M))/\mM M[i] v=some (iq (fun j=>fZ M i j) (fun j=>v.getD j 0) (aJ M)):=by
  intro i hi;have hr:=iy h hi;have:=CA (a:=M[i]) (c:=v) (b:=b) (by omega) (by omega) (AA hb hb1 hi) hvb hb2;rw[hr]at this;have e:(fun j=>M[i].getD j 0)=fun j=>fZ M i j:=by funext j;unfold fZ;rw[dM hi]
  rw[e]at this;exact this
 constructor
 ·unfold iK;rw[dO M hl,h];simp only[Option.bind_some,Bool.not_true,Bool.false_eq_true,if_false];rw[if_neg (by simp[hc])];have hL:=dG (body:=fun(s:Int×(List Rat))=>iv M v s.1 s.2) M.length (fun i=>(List.range i).map (fun i=>iq (fun j=>fZ M i j) (fun j=>v.getD j 0) (aJ M))) ((List.range M.length).map (fun i=>iq (fun j=>fZ M i j) (fun j=>v.getD j 0) (aJ M))) (fun i hi=>by
    unfold iv;rw[if_pos (decide_eq_true (by omega)),wo hi];simp only[Option.bind_some];rw[(hd i hi).1];simp only[Option.bind_some];rw[aG (by simp only[List.length_map,List.length_range,List.length_singleton];omega),ct hi (by omega),ml]) (by
    unfold iv;rw[if_neg (by simp)])
  have:Loop (fun(s:Int×(List Rat))=>iv M v s.1 s.2) (0,[])=_:=hL;rw[this];rfl
 ·unfold vw;have hL:=dG (body:=fun(s:Int×(List Rat))=>iX M v s.1 s.2) M.length (fun i=>(List.range i).map (fun i=>iq (fun j=>fZ M i j) (fun j=>v.getD j 0) (aJ M))) ((List.range M.length).map (fun i=>iq (fun j=>fZ M i j) (fun j=>v.getD j 0) (aJ M))) (fun i hi=>by
    unfold iX;rw[if_pos (decide_eq_true (by omega)),wo hi];simp only[Option.bind_some];rw[(hd i hi).2];simp only[Option.bind_some];rw[aG (by simp only[List.length_map,List.length_range,List.length_singleton];omega),ct hi (by omega),ml]) (by
    unfold iX;rw[if_neg (by simp)])
  have:Loop (fun(s:Int×(List Rat))=>iX M v s.1 s.2) (0,[])=_:=hL;rw[this];rfl
def ka(M N:List (List Rat))(n i k:Nat):Rat:=iq (fun j=>fZ M i j) (fun j=>fZ N j k) n
theorem zm{b:Nat}(h:right M=true)(h':right N=true)(hl:M.length<=30)(hl':N.length<=30)(hc:aJ M=N.length)(hc':aJ N<=30)(hb:bd M b)(hb':bd N b)(hb1:1<=b)(hb2:b<=100000000):
  mw M N=some (ay M.length (aJ N) (ka M N (aJ M)),0):=by
 unfold mw;rw[dO M hl,dO N hl',h,h'];simp only[Option.bind_some,Bool.not_true,Bool.false_eq_true,if_false];rw[if_neg (by simp[hc]),A2 h' hl' hc'];simp only[Option.bind_some];have hL:=dG (body:=fun(s:Int×(List (List Rat)))=>kz M (ay (aJ N) N.length fun k i=>fZ N i k) s.1 s.2) M.length (fun i=>ay i (aJ N) (ka M N (aJ M))) (ay M.length (aJ N) (ka M N (aJ M))) (fun i hi=>by
   unfold kz;rw[if_pos (decide_eq_true (by omega)),wo hi];simp only[Option.bind_some];have hI:=dG (body:=fun(s:Int×(List Rat))=>kQ (ay (aJ N) N.length fun k i=>fZ N i k) M[i] s.1 s.2) (aJ N) (fun k=>(List.range k).map (ka M N (aJ M) i)) ((List.range (aJ N)).map (ka M N (aJ M) i)) (fun k hk=>by
     unfold kQ;rw[aI,if_pos (decide_eq_true (by omega)),cj hk];simp only[Option.bind_some];have hr:=iy h hi;have:=(CA (a:=M[i]) (c:=(List.range N.length).map fun i=>fZ N i k) (b:=b) (by omega) (by simp;omega) (AA hb hb1 hi) (fun j=>by
      by_cases hj:j<N.length
      ·rw[dM (by simpa using hj)];simp only[List.getElem_map,List.getElem_range];exact nC hb' hb1 j k
      ·rw[jG (by simp;omega)];exact Nat.le_trans (show sz (0:Rat)<=1 by decide) hb1) hb2).1
     rw[this,hr];simp only[Option.bind_some];rw[aG (by simp only[List.length_map,List.length_range,List.length_singleton];omega),ct hk (by omega),ml];have e:iq (fun j=>M[i].getD j 0) (fun j=>((List.range N.length).map fun i=>fZ N i k).getD j 0) (aJ M)=ka M N (aJ M) i k:=sZ (fun j hj=>by
      refine⟨by unfold fZ;rw[dM hi],?_⟩;rw[dM (by simp;omega)];simp)
     rw[e]) (by
     unfold kQ;rw[aI,if_neg (by simp)])
   have:Loop (fun(s:Int×(List Rat))=>kQ (ay (aJ N) N.length fun k i=>fZ N i k) M[i] s.1 s.2) (0,([]:List Rat))=_:=hI;rw[this];simp only[Option.bind_some];rw[aG (by simp only[aI,List.length_singleton];omega),ct hi (by omega),kl]) (by
   unfold kz;rw[if_neg (by simp)])
 have:Loop (fun(s:Int×(List (List Rat)))=>kz M (ay (aJ N) N.length fun k i=>fZ N i k) s.1 s.2) (0,[])=_:=hL;rw[this];rfl
theorem Dt{b n:Nat}(hb:bd M b)(hb':bd N b)(hb1:1<=b)(i k:Nat):sz (iq (fun j=>fZ M i j) (fun j=>fZ N j k) n)<=1+n*(2*b+2):=sG (fun j=>nC hb hb1 i j) (fun j=>nC hb' hb1 j k) n
def small(x:List (List (Int×Int×Int)))(n:Nat):Bool:=decide (x.length<=n)&&x.all fun r=>decide (r.length<=n)
theorem qf{x:List (List (Int×Int×Int))}{n:Nat}(h:small x n=true):x.length<=n/\∀r∈x,r.length<=n:=by
 unfold small at h;rw[Bool.and_eq_true,List.all_eq_true]at h;exact⟨by simpa using h.1,fun r hr=>by simpa using h.2 r hr⟩
theorem xR(x:List (List (Int×Int×Int)))(n:Nat)(hn:n<=30):km x (n:Int)=some (small x n):=by
 obtain⟨r,hr,hp⟩:=bZ (body:=fun(s:Int)=>jc x (n:Int) s) 0 (fun s=>∃i:Nat,i<=x.length/\i<=n+1/\s=(i:Int)/\∀k (hk:k<x.length),k<i->(x[k]).length<=n) (fun s=>(x.length-s).toNat)
  (fun r=>(small x n=false/\r=Ex.ret false)\/((small x n=true\/n<x.length)/\r=Ex.cp ())) ⟨0,Nat.zero_le _,Nat.zero_le _,rfl,fun k _ hk=>by omega⟩ (by
  rintro s ⟨i,hi,cY,rfl,hall⟩;unfold jc;by_cases hlt:i<x.length
  ·rw[if_pos (decide_eq_true (by omega))];by_cases hn2:i<=n
   ·rw[if_pos (decide_eq_true (by omega)),dT hlt];simp only[Option.bind_some];by_cases hq:(x[i]).length>n
    ·right
     rw[if_pos (decide_eq_true (by omega))];refine⟨_,rfl,.inl ⟨?_,rfl⟩⟩
     cases hs:small x n with
     |false=>rfl
     |true=>have:=(qf hs).2 x[i] (List.getElem_mem hlt);omega
    ·left
     rw[if_neg (by rw[decide_eq_true_eq];omega)];have hw:IntKind.i64.wrap ((i:Int)+1)=((i+1:Nat):Int):=by rw[i64_in (by omega)];omega
     rw[hw];refine⟨_,rfl,⟨i+1,hlt,by omega,rfl,fun k hk hki=>?_⟩,by omega⟩;by_cases e:k=i
     ·subst e;omega
     ·exact hall k hk (by omega)
   ·right
    rw[if_neg (by rw[decide_eq_true_eq];omega)];exact⟨_,rfl,.inr ⟨.inr (by omega),rfl⟩⟩
  ·right
   rw[if_neg (by rw[decide_eq_true_eq];omega)];refine⟨_,rfl,.inr ⟨?_,rfl⟩⟩;by_cases hxn:n<x.length
   ·exact .inr hxn
   ·left
    unfold small;rw[Bool.and_eq_true,List.all_eq_true];refine⟨decide_eq_true (by omega),fun r hr=>?_⟩;obtain⟨k,hk,rfl⟩:=List.getElem_of_mem hr;exact decide_eq_true (hall k hk (by omega)))
 unfold km;rw[hr];rcases hp with⟨h1,rfl⟩|⟨h1,rfl⟩
 ·rw[h1];rfl
 ·rcases h1 with h1|h1
  ·have:=(qf h1).1;simp only[Option.bind_some,h1];rw[decide_eq_true (by omega)]
  ·have h2:small x n=false:=by
    unfold small;rw[decide_eq_false (by omega),Bool.false_and]
   simp only[Option.bind_some,h2];rw[decide_eq_false (by omega)]
def vX(x:List (List (Int×Int×Int))):Prop:=∀r∈x,∀e∈r,qj e
theorem DE(x:List (List (Int×Int×Int)))(h:vX x)(hl:x.length<=30)(hr:∀r∈x,r.length<=30):mI x=some (x.map cN,x.map cN):=by
 have hL:=dG (body:=fun(s:Int×(List (List Rat))×(List (List Rat)))=>ie x s.1 s.2.1 s.2.2) x.length (fun i=>((x.map cN).take i,(x.map cN).take i)) (x.map cN,x.map cN) (fun i hi=>by
   unfold ie;rw[if_pos (decide_eq_true (by omega)),dT hi];simp only[Option.bind_some];rw[Ag _ (h _ (List.getElem_mem hi)) (hr _ (List.getElem_mem hi))];simp only[Option.bind_some];have ht:((x.map cN).take i).length=i:=by simp;omega
   rw[aG (by rw[ht];simp only[List.length_singleton];omega),aG (by rw[ht];simp only[List.length_singleton];omega),ct hi (by omega)];have e:(x.map cN).take (i+1)=(x.map cN).take i++[cN x[i]]:=by
    rw[List.take_succ_eq_append_getElem (by simpa using hi)];simp
   rw[e]) (by
   unfold ie;rw[if_neg (by simp)];have e:(x.map cN).take x.length=x.map cN:=by rw[List.take_of_length_le];simp
   rw[e])
 unfold mI;have:Loop (fun(s:Int×(List (List Rat))×(List (List Rat)))=>ie x s.1 s.2.1 s.2.2) (0,[],[])=some (x.map cN,x.map cN):=hL;rw[this];rfl
theorem xY{x:List (List (Int×Int×Int))}(h:vX x):bd (x.map cN) 256:=by
 intro r hr q hq;obtain⟨r',hr',rfl⟩:=List.mem_map.1 hr;obtain⟨j,hj,rfl⟩:=List.getElem_of_mem hq;have:=xv (h r' hr') j
 rwa [dM hj]at this
theorem oF{n m:Nat}{f:Nat->Nat->Rat}{r:List Rat}(h:r∈ay n m f):r.length=m:=by
 unfold ay at h;obtain⟨k,_,rfl⟩:=List.mem_map.1 h;simp
end Go.Am
namespace Go.Am
open Go.RowKit
section
variable {P:Program} {os:List Oper} {c:Ctx} {T T':List (Nat×D)} {H H':List (Nat×Hp)} {sps:List Spec}
variable {ops:Array Oper} {dst:Option Nat} {ty:TypeId} {pos:String} {aft:Array Edge}
variable {α:Type} {e:ak α} {te tr:TypeId} {r s:Nat} {M X:List (List α)}
theorem ai.td{t:TypeId}{x y:Operand}{m:Nat}{k:IntKind}{z:Int}(hx:ev T x=some (.own r))(hy:ev T y=some (.int k z))(hh:af H r=some (.cg e te s []))(hk:af H s=some (.store e tr M))(ht:sle P t=some m)(h0:0<=z)(h1:z<M.length)
  (hr:ai P ops c os (bg T dst (.ref r (z.toNat*m))) H sps T' H'):
  ai P ops c (⟨dst,.indexAddr t x y,ty,pos,aft,none⟩::os) T H (F6 [(x,.own r),(y,.int k z)] r (.cg e te s []) s (.store e tr M) (.ref r (z.toNat*m))::sps) T' H':=
 .Gj rfl (two hx hy) hh hk (fun r' hr'=>.inl (by simpa [D.ref]using hr')) (fun ε w S a F F' ha h1' h2'=>by
  have h2:a.eval x=ε r:=(ha (x,.own r) (by simp)).1;have h3:a.eval y=.int k z:=ha (y,.int k z) (by simp);obtain⟨A,cap,hb,hA⟩:=sx (n:=M.length) (by decide) (by simp[bC]) (lk h1' h2');have hA':=hA (by omega);subst hA';refine⟨.pointer (some ⟨j3 (ε r),z.toNat*m,none⟩),?_,rfl⟩;generalize j3 (ε r)=g at hb;simp only[execOp,h2,hb,h3,Sem.run_bind,iI ht g 0 M.length cap k z h0 h1 w,Result.andThen_ok,Nat.zero_add]
  rfl) hr
theorem ai.Hf{t:TypeId}{x:Operand}(hx:ev T x=some (.own r))(hh:af H r=some (.cg e te s []))(hk:af H s=some (.store e tr M))(ht:isSlice P t=true)(hr:ai P ops c os (bg T dst (.int .i64 M.length)) H sps T' H'):
  ai P ops c (⟨dst,.call {callee:=.builtin .len,args:=#[x],argTypes:=#[t]},ty,pos,aft,none⟩::os) T H (F6 [(x,.own r)] r (.cg e te s []) s (.store e tr M) (.int .i64 M.length)::sps) T' H':=
 .Gj rfl (by simpa using hx) hh hk (fun r' hr'=>by cases hr') (fun ε w S a F F' ha h1' h2'=>by
  have h2:a.eval x=ε r:=(ha (x,.own r) (by simp)).1;obtain⟨A,cap,hb,_⟩:=sx (n:=M.length) (by decide) (by simp[bC]) (lk h1' h2');exact⟨_,jw a w (by rw[h2,hb];exact pZ ht _ _ cap w),rfl⟩) hr
theorem AT{q r:Nat}{x:Hp}{H:List (Nat×Hp)}(h:Nat.beq q r=false):af ((r,x)::H) q=af H q:=by
 show(match Nat.beq q r with|true=>some x|false=>af H q)=af H q;rw[h]
theorem Ok.Iw{x:Code}{Q:Exit->Act->World->Prop}(r s s2:Nat)(hh:af H r=some (.cg e te s []))(hk:af H s=some (.store e tr M))(hf:af H s2=none)(hne:Nat.beq r s=false)
  (h:Ok P c T ((r,.cg e te s2 [])::(s2,.store e tr M)::(s,.dead)::H) x Q):Ok P c T H x Q:=by
 intro a w ⟨ε,φ,hs⟩;have hrow:=lk (hs.h r _ hh) (hs.h s _ hk);rw[List.map_nil,List.append_nil]at hrow;have hT:=hs.tell (y:=.dY 1 te ((List.range M.length).map (D.mr s))) hh hrow (fun q hq=>by rw[CR hq,hk];simp);have hT':Sat c (aM T) (af ((r,.dY 1 te ((List.range M.length).map (D.mr s)))::H)) a w:=Sat.ext ⟨ε,φ,hT⟩ (fun _=>rfl) (fun q=>by rw[bq];rfl);have hrs:Nat.beq s r=false:=by
  cases hb:Nat.beq s r with
  |false=>rfl
  |true=>rw[Nat.eq_of_beq_eq_true hb]at hne;simp at hne
 have hr2:Nat.beq s2 r=false:=by
  cases hb:Nat.beq s2 r with
  |false=>rfl
  |true=>rw[Nat.eq_of_beq_eq_true hb]at hf;rw[hf]at hh;cases hh
 refine Ok.FZ (H:=(r,.dY 1 te ((List.range M.length).map (D.mr s)))::H) (r:=r) (s:=s) (te:=te) (js:=List.range M.length) (e:=e) (tr:=tr) (M:=M) (M2:=M) s2 (by simp[af]) (by rw[AT hrs];exact hk) (by rw[AT hr2];exact hf) hne List.nodup_range (by simp) (fun i j hj=>?_) (fun a w hs=>h a w (Sat.ext hs (fun _=>rfl) (fun q=>?_))) a w hT'
 ·have hi:=(List.getElem?_eq_some_iff.1 hj).1;simp only[List.length_range]at hi;rw[List.getElem?_range hi]at hj;injection hj with hj;subst hj;exact⟨rfl,hi⟩
 ·simp only[af];cases Nat.beq q r<;>cases Nat.beq q s2<;>cases Nat.beq q s<;>rfl
theorem ai.IL{t:TypeId}{z:Int}{m:Nat}{x:Operand}{xs:List α}(hz:z=(M.length:Int))(hX:X[0]?=some xs)(h:ev T x=some (.ref r (z.toNat*m)))(hh:af H r=some (.cg e te s X))(hk:af H s=some (.store e tr M))(hm:m=1)(ht:lay P t=some none)
  (hr:ai P ops c os (bg T dst (an e xs)) H sps T' H'):ai P ops c (⟨dst,.load t x,ty,pos,aft,none⟩::os) T H (F6 [(x,.ref r (z.toNat*m))] r (.cg e te s X) s (.store e tr M) (an e xs)::sps) T' H':=
 .Jt (by omega) (by rw[show z.toNat-M.length=0 by omega];exact hX) h hh hk hm ht hr
theorem ai.Ix{t:TypeId}{x y:Operand}{r1 s2 m:Nat}{z:Int}{x0 xs:List α}(hz:z=(M.length:Int))(hX:X[0]?=some x0)(h:ev T x=some (.ref r (z.toNat*m)))(hy:ev T y=some (.own r1))(hh:af H r=some (.cg e te s X))(hk:af H s=some (.store e tr M))(h1:af H r1=some (aR e tr xs))(hf:af H s2=none)
  (hne:r≠s/\r≠r1/\s≠r1)(hm:m=1)(ht:lay P t=some none)
  (hr:ai P ops c os (bg T dst .any) ((r,.cg e te s2 X.tail)::(s2,.store e tr (M++[xs]))::(s,.dead)::(r1,.dead)::H) sps T' H'):
  ai P ops c (⟨dst,.store t x y,ty,pos,aft,none⟩::os) T H (CI x (.ref r (z.toNat*m)) y (.own r1) [(r,.cg e te s X),(s,.store e tr M),(r1,aR e tr xs)] [(r,.cg e te s2 X.tail),(s2,.store e tr (M++[xs])),(s,.dead),(r1,.dead)] [s2]::sps) T' H':=by
 cases X with
 |nil=>simp at hX
 |cons y0 X=>exact .IB (x0:=y0) (by omega) h hy hh hk h1 hf hne hm ht hr
end
end Go.Am
namespace Go.Am
open Go.RowKit
section
variable {P:Program} {os:List Oper} {c:Ctx} {T T':List (Nat×D)} {H H':List (Nat×Hp)} {sps:List Spec}
variable {ops:Array Oper} {dst:Option Nat} {ty:TypeId} {pos:String} {aft:Array Edge}
end
end Go.Am
namespace Go.Am
open Go.RowKit
set_option maxRecDepth 100000
noncomputable section
def g_(a1:List (List Rat))(v4:Int)(v5:List (List Rat)):Option (St (Int×(List (List Rat))) (List (List Rat))):=(if(decide (v4<(a1.length:Int)))=true then(ix a1 v4).bind fun v11=>bO (v11.length*64<=140737488355328/\v11.length<=9223372036854775807) (bO ((v5.length+1)*24<=140737488355328/\v5.length+1<=9223372036854775807) (some (St.next ((IntKind.i64.wrap (v4+1)),(v5++[v11])))))else some (St.done v5))
def nf(a1:List (List Rat)):Option (List (List Rat)):=((Loop (fun(s:Int×(List (List Rat)))=>g_ a1 s.1 s.2) (0,([]:List (List Rat)))).bind fun v15=>some (v15)).bind fun v16=>some v16
def dK(v9:Int)(v10:List (List Rat))(v20:Int):Option (St Int Int):=(if(decide (v20<(v10.length:Int)))=true then(ix v10 v20).bind fun v26=>(ix v26 v9).bind fun v28=>(fm v28).bind fun v30=>(if(v30==0)=true then some (St.next (IntKind.i64.wrap (v20+1)))else some (St.done v20))else some (St.done v20))
def rJ(v4:Int)(v11:List Int)(v49:Rat)(v53:Int)(v54:List (List Rat)):Option (St (Int×(List (List Rat))) (List (List Rat))):=(if(decide (v53<v4))=true then(ix v54 (v11.length:Int)).bind fun v60=>(ix v54 (v11.length:Int)).bind fun v62=>(ix v62 v53).bind fun v64=>(eJ v64 v49).bind fun v66=>(ix v60 v53).bind fun v68=>some (St.next ((IntKind.i64.wrap (v53+1)),(v54.set (v11.length:Int).toNat (v60.set v53.toNat v66))))else some (St.done v54))
def rU(v4:Int)(v11:List Int)(v74:Int)(v85:Rat)(v91:Int)(v92:List (List Rat)):Option (St (Int×(List (List Rat))) (List (List Rat))):=(if(decide (v91<v4))=true then(ix v92 v74).bind fun v98=>(ix v92 v74).bind fun v100=>(ix v100 v91).bind fun v102=>(ix v92 (v11.length:Int)).bind fun v104=>(ix v104 v91).bind fun v106=>(eJ v85 v106).bind fun v108=>(kH v102 v108).bind fun v110=>(ix v98 v91).bind fun v112=>some (St.next ((IntKind.i64.wrap (v91+1)),(v92.set v74.toNat (v98.set v91.toNat v110))))else some (St.done v92))
def iB(v4:Int)(v9:Int)(v11:List Int)(v74:Int)(v75:List (List Rat)):Option (St (Int×(List (List Rat))) (List (List Rat))):=(if(decide (v74<(v75.length:Int)))=true then((ix v75 v74).bind fun v83=>(ix v83 v9).bind fun v85=>(if(v74==(v11.length:Int))=true then some (v75)else(fm v85).bind fun v88=>(if(v88==0)=true then some (v75)else(Loop (fun(s:Int×(List (List Rat)))=>rU v4 v11 v74 v85 s.1 s.2) (0,v75)).bind fun v114=>some (v114)))).bind fun v115=>some (St.next ((IntKind.i64.wrap (v74+1)),v115))else some (St.done v75))
def cK(v4:Int)(v9:Int)(v10:List (List Rat))(v11:List Int):Option (St (Int×(List (List Rat))×(List Int)) ((List (List Rat))×(List Int))):=(if(decide (v9<v4))=true then(if(decide ((v11.length:Int)<(v10.length:Int)))=true then((Loop (fun(s:Int)=>dK v9 v10 s) (v11.length:Int)).bind fun v33=>(if(v33==(v10.length:Int))=true then some ((v10,v11))else(ix v10 v33).bind fun v35=>(ix v10 (v11.length:Int)).bind fun v37=>(ix v10 (v11.length:Int)).bind fun v39=>(ix v10 v33).bind fun v41=>(fh 1).bind fun v43=>(ix ((v10.set (v11.length:Int).toNat v35).set v33.toNat v39) (v11.length:Int)).bind fun v45=>(ix v45 v9).bind fun v47=>(gR v43 v47).bind fun v49=>((Loop (fun(s:Int×(List (List Rat)))=>rJ v4 v11 v49 s.1 s.2) (0,((v10.set (v11.length:Int).toNat v35).set v33.toNat v39))).bind fun v70=>some (v70)).bind fun v71=>((Loop (fun(s:Int×(List (List Rat)))=>iB v4 v9 v11 s.1 s.2) (0,v71)).bind fun v116=>some (v116)).bind fun v117=>bO ((v11.length+([v9]).length)*8<=140737488355328/\v11.length+([v9]).length<=9223372036854775807) (some ((v117,(v11++[v9])))))).bind fun(v119,v120)=>some (St.next ((IntKind.i64.wrap (v9+1)),v119,v120))else some (St.done (v10,v11)))else some (St.done (v10,v11)))
def uA(a1:List (List Rat)):Option ((List (List Rat))×(List Int)):=(nf a1).bind fun v2=>(ri v2).bind fun(v4,v5)=>((Loop (fun(s:Int×(List (List Rat))×(List Int))=>cK v4 s.1 s.2.1 s.2.2) (0,v2,([]:List Int))).bind fun(v121,v122)=>some ((v121,v122))).bind fun(v123,v124)=>some (v123,v124)
end
end Go.Am
namespace Go.Am
open Go.RowKit
set_option maxRecDepth 100000
def lE{α:Type}(xs:List α):Option (List α):=bO (xs.length<=1000000000) (some xs)
theorem yr{xs r:List Rat}(h:lE xs=some r):A3 PP 204 [an ak.rat xs] ak.rat.n 28 (flat ak.rat r):=by
 obtain⟨ha,h⟩:=ax h;cases h;refine .of (hl:=dN _ _) Go.Proofs.Tryz.func204 rfl (by kernel_rfl) rfl rfl (fun A w0=>?_);refine .al (.ao rfl<|.nil) rfl (.sq ?_);refine .al (.mv rfl<|.IW cr rfl rfl<|.nil) rfl ?_;refine .cQ rfl (fun h=>?_) (.skip (Ok.on ?_))
 ·have ha0:xs=[]:=List.eq_nil_of_length_eq_zero h;subst ha0;refine .al (.ao rfl<|.nil) rfl ?_;refine .wG 2 2 3 28 rfl rfl ?_;exact .Bq (fun _ _ h=>h) rfl rfl rfl
 ·refine .al (.It bM rfl<|.mv rfl<|.IA (n1:=0) rfl rfl rfl bM rfl (by omega) (by omega) rfl<|.ao rfl<|.nil) rfl ?_;exact .Bq (fun _ _ h=>h) rfl rfl rfl
theorem Cr{xs r:List (List Rat)}(h:lE xs=some r):A3 PP 235 [an (ak.slice ak.rat) xs] (ak.slice ak.rat).n 68 (flat (ak.slice ak.rat) r):=by
 obtain⟨ha,h⟩:=ax h;cases h;refine .of (hl:=dN _ _) Go.Proofs.Tryz.func235 rfl (by kernel_rfl) rfl rfl (fun A w0=>?_);refine .al (.ao rfl<|.nil) rfl (.sq ?_);refine .al (.mv rfl<|.IW bn rfl rfl<|.nil) rfl ?_;refine .cQ rfl (fun h=>?_) (.skip (Ok.on ?_))
 ·have ha0:xs=[]:=List.eq_nil_of_length_eq_zero h;subst ha0;refine .al (.ao rfl<|.nil) rfl ?_;refine .wG 2 2 1 68 rfl rfl ?_;exact .Bq (fun _ _ h=>h) rfl rfl rfl
 ·refine .al (.It bX rfl<|.mv rfl<|.IA (n1:=0) rfl rfl rfl bX rfl (by omega) (by omega) rfl<|.ao rfl<|.nil) rfl ?_;exact .Bq (fun _ _ h=>h) rfl rfl rfl
end Go.Am
namespace Go.Am
open Go.RowKit
section
variable {P:Program} {os:List Oper} {c:Ctx} {T T':List (Nat×D)} {H H':List (Nat×Hp)} {sps:List Spec}
variable {ops:Array Oper} {dst:Option Nat} {ty:TypeId} {pos:String} {aft:Array Edge}
theorem ai.IJ{t te:TypeId}{x y:Operand}{r m n:Nat}{l:List D}{k:IntKind}{z:Int}(hx:ev T x=some (.own r))(hy:ev T y=some (.int k z))(hh:af H r=some (.dY 1 te l))(hl:l.length=n)(ht:sle P t=some m)(h0:0<=z)(h1:z<n)
  (hr:ai P ops c os (bg T dst (.ref r (z.toNat*m))) H sps T' H'):
  ai P ops c (⟨dst,.indexAddr t x y,ty,pos,aft,none⟩::os) T H (AX [(x,.own r),(y,.int k z)] r (.dY 1 te l) (.ref r (z.toNat*m))::sps) T' H':=
 .ask rfl (two hx hy) hh (fun r' hr'=>.inl (by simpa [D.ref]using hr')) (fun ε w S a F ha hp=>by
  have h2:a.eval x=ε r:=(ha (x,.own r) (by simp)).1;have h3:a.eval y=.int k z:=ha (y,.int k z) (by simp);obtain⟨A,cap,hb,hA⟩:=sx (n:=n) (by decide) (by omega) (show kP 1 te l ε w S (ε r) F from hp);have hA':=hA (by omega);subst hA';refine⟨.pointer (some ⟨j3 (ε r),z.toNat*m,none⟩),?_,rfl⟩;generalize j3 (ε r)=g at hb;simp only[execOp,h2,hb,h3,Sem.run_bind,iI ht g 0 n cap k z h0 h1 w,Result.andThen_ok,Nat.zero_add]
  rfl) hr
end
end Go.Am
namespace Go.Am
open Go.RowKit
set_option maxRecDepth 100000
noncomputable section
def dU(v2:List (List Rat))(v6:Int)(v7:List (List Rat))(v8:List (List Rat)):Option (St (Int×(List (List Rat))×(List (List Rat))) ((List (List Rat))×(List (List Rat)))):=(if(decide (v6<((([]:List (List Rat)).length+v2.length):Int)))=true then bO ((v6:Int)=(v8.length:Int)) ((ix v7 0).bind fun v15=>(lE v15).bind fun v17=>some (St.next ((IntKind.i64.wrap (v6+1)),v7.tail,(v8++[v17]))))else some (St.done (v7,v8)))
def fz(a1:List (List Rat)):Option (List (List Rat)):=(lE a1).bind fun v2=>((Loop (fun(s:Int×(List (List Rat))×(List (List Rat)))=>dU v2 s.1 s.2.1 s.2.2) (0,v2,([]:List (List Rat)))).bind fun(v19,v20)=>some ((v19,v20))).bind fun(v21,v22)=>bO (v21=[]) (some v22)
theorem mW{a1:List (List Rat)}{r24:List (List Rat)}(h:fz a1=some r24):aW PP 202 [] [an (ak.slice ak.rat) a1] [(6,Hp.cg ak.rat 68 4000006 ([])),(4000006,Hp.store ak.rat 28 r24)] (D.own 6):=by
 unfold fz at h;refine .of Go.Proofs.Tryz.func202 rfl (by kernel_rfl) rfl rfl rfl rfl rfl rfl (fun A w0 L b=>?_);show Ok PP _ [(0,an (ak.slice ak.rat) a1)] [] _ _;refine .al (.ao rfl<|.nil) rfl ?_;obtain⟨v2,e3,h⟩:=bind_some h;refine .al (.mv rfl<|.Av (hl:=dN _ _) (Cr e3) ⟨rfl,trivial⟩ rfl<|.ao rfl<|.nil) rfl ?_;obtain⟨o4,hp5,h⟩:=bind_some h;refine .cz (fun i=>o4=i) (fun(i:(List (List Rat))×(List (List Rat)))=>[(3,D.own 6)]) (fun(i:(List (List Rat))×(List (List Rat)))=>[(6,Hp.cg ak.rat 68 4000006 i.1),(4000006,Hp.store ak.rat 28 i.2)]) ?_ ?_
 ·have ho1:=h;have h:=hp5;refine .JL 6 4000006 28 rfl rfl ?_;refine .HB 3 rfl rfl rfl ?_;refine .al (.mv rfl<|.Hc rfl bn<|.mv rfl<|.nil) rfl ?_;obtain⟨o9,hl10,h⟩:=bind_some h;have ho2:=h;refine .block (.cc (fun(s:Int×(List (List Rat))×(List (List Rat)))=>[(3,D.own 6),(8,D.int .i64 ((([]:List (List Rat)).length+v2.length):Int)),(9,D.int .i64 s.1)]) (fun(s:Int×(List (List Rat))×(List (List Rat)))=>[(6,Hp.cg ak.rat 68 4000006 s.2.1),(4000006,Hp.store ak.rat 28 s.2.2)]) hl10 (.p rfl .sl<|.k rfl<|.k rfl<|trivial) (.of rfl) rfl rfl ?_);rintro⟨v6,v7,v8⟩ st11 hb12;have h:dU v2 v6 v7 v8=some st11:=hb12;unfold dU at h
  try dsimp only
  refine .al (.cm rfl rfl rfl<|.nil) rfl ?_;refine .sq ?_;by_cases c13:(decide (v6<((([]:List (List Rat)).length+v2.length):Int)))=true
  ·replace h:=ab c13 h;refine .cq rfl c13 ?_;refine .skip (Ok.on ?_);refine .sq ?_;refine .block ?_;refine .al (.mv rfl<|.ao rfl<|.nil) rfl ?_;refine .HB 3 rfl rfl rfl ?_;obtain⟨k14,h⟩:=ax h;obtain⟨v15,e16,h⟩:=bind_some h;obtain⟨v17,e18,h⟩:=bind_some h;refine .region (.mv rfl<|.mv rfl<|.mv rfl<|.mv rfl<|.pF rfl rfl aC (by omega) (by have:=cO e16;omega)<|.IL k14 (ag e16).2 rfl rfl rfl rfl aH<|.Av (hl:=dN _ _) (yr e18) ⟨rfl,trivial⟩ rfl<|.pF rfl rfl aC (by omega) (by have:=cO e16;omega)<|.Ix (s2:=3000006) k14 (ag e16).2 rfl rfl rfl rfl rfl rfl ⟨by decide,by decide,by decide⟩ rfl aH<|.nil) rfl (Ok.on ?_);refine .region (.ar rfl rfl rfl<|.mv rfl<|.nil) rfl (fun _ _ hs=>⟨((IntKind.i64.wrap (v6+1)),v7.tail,(v8++[v17])),(sj h),hs.l7 (fun r=>match r with|4000006=>3000006|r=>r) (.p rfl (.GD (r:=6))<|.r rfl rfl<|.r rfl rfl<|trivial) (.p rfl (.cg (s:=4000006))<|.r rfl rfl<|trivial) rfl rfl rfl⟩)
  ·replace h:=ae c13 h;refine .cA rfl c13 ?_;refine .exit (fun a w hs=>⟨_,(sj h),fun e=>by subst e;have h:=ho2;exact aZ (⟨(v7,v8),(sj h),hs.sub (.of rfl) (.of rfl) rfl rfl⟩)⟩)
 ·rintro⟨v21,v22⟩ rfl
  try dsimp only
  refine .HB 3 rfl rfl rfl ?_;refine .al (.mv rfl<|.ao rfl<|.nil) rfl ?_;refine .uF 2 (.own 6) rfl .sl ?_;obtain⟨k23,h⟩:=ax h;subst k23;cases h;refine .aN (fun _ _ hb=>hb) rfl (.t1 (.tmp rfl)) (.refl _) trivial (.of rfl)
def di(a1:Int)(a4:Int)(v11:Rat)(v15:Int)(v16:List (List Rat)):Option (St (Int×(List (List Rat))) (List (List Rat))):=(if(decide (v15<a4))=true then(ix v16 a1).bind fun v22=>(ix v16 a1).bind fun v24=>(ix v24 v15).bind fun v26=>(eJ v26 v11).bind fun v28=>(ix v22 v15).bind fun v30=>some (St.next ((IntKind.i64.wrap (v15+1)),(v16.set a1.toNat (v22.set v15.toNat v28))))else some (St.done v16))
def cB(a1:Int)(a4:Int)(v34:Int)(v45:Rat)(v51:Int)(v52:List (List Rat)):Option (St (Int×(List (List Rat))) (List (List Rat))):=(if(decide (v51<a4))=true then(ix v52 v34).bind fun v58=>(ix v52 v34).bind fun v60=>(ix v60 v51).bind fun v62=>(ix v52 a1).bind fun v64=>(ix v64 v51).bind fun v66=>(eJ v45 v66).bind fun v68=>(kH v62 v68).bind fun v70=>(ix v58 v51).bind fun v72=>some (St.next ((IntKind.i64.wrap (v51+1)),(v52.set v34.toNat (v58.set v51.toNat v70))))else some (St.done v52))
def cP(a1:Int)(a2:Int)(a4:Int)(v33:List (List Rat))(v34:Int)(v35:List (List Rat)):Option (St (Int×(List (List Rat))) (List (List Rat))):=(if(decide (v34<(v33.length:Int)))=true then((ix v35 v34).bind fun v43=>(ix v43 a2).bind fun v45=>(if(v34 !=a1)=true then(fm v45).bind fun v48=>(if(v48 !=0)=true then(Loop (fun(s:Int×(List (List Rat)))=>cB a1 a4 v34 v45 s.1 s.2) (a2,v35)).bind fun v74=>some (v74)else some (v35))else some (v35))).bind fun v75=>some (St.next ((IntKind.i64.wrap (v34+1)),v75))else some (St.done v35))
def gw(a1:Int)(a2:Int)(a3:List (List Rat))(a4:Int):Option (List (List Rat)):=(fh 1).bind fun v5=>(ix a3 a1).bind fun v7=>(ix v7 a2).bind fun v9=>(gR v5 v9).bind fun v11=>((Loop (fun(s:Int×(List (List Rat)))=>di a1 a4 v11 s.1 s.2) (a2,a3)).bind fun v32=>some (v32)).bind fun v33=>(Loop (fun(s:Int×(List (List Rat)))=>cP a1 a2 a4 v33 s.1 s.2) (0,v33)).bind fun v76=>some v76
theorem tT{a1:Int}{a2:Int}{a3:List (List Rat)}{a4:Int}{r77:List (List Rat)}(h:gw a1 a2 a3 a4=some r77):aW PP 236 [(2,Hp.box 132 ([D.own 202])),(3,Hp.box 3 ([D.int .i64 a4])),(202,Hp.cg ak.rat 68 402 ([])),(402,Hp.store ak.rat 28 a3)] [D.int .i64 a1,D.int .i64 a2,D.ref 2 0,D.ref 3 0] [(2,Hp.box 132 ([D.own 202])),(3,Hp.box 3 ([D.int .i64 a4])),(202,Hp.cg ak.rat 68 402 ([])),(402,Hp.store ak.rat 28 r77)] (D.gV []):=by
 unfold gw at h;refine .of Go.Proofs.Tryz.func236 rfl (by kernel_rfl) rfl rfl rfl rfl rfl rfl (fun A w0 L b=>?_);show Ok PP _ [(0,D.int .i64 a1),(1,D.int .i64 a2),(2,D.ref 2 0),(3,D.ref 3 0),(1000002,D.pinned 2 (b 2)),(1000003,D.pinned 3 (b 3)),(1000202,D.pinned 202 (b 202)),(1000402,D.pinned 402 (b 402))] [(2,Hp.box 132 ([D.own 202])),(3,Hp.box 3 ([D.int .i64 a4])),(202,Hp.cg ak.rat 68 402 ([])),(402,Hp.store ak.rat 28 a3)] _ _;obtain⟨v5,e6,h⟩:=bind_some h;obtain⟨v7,e8,h⟩:=bind_some h;obtain⟨v9,e10,h⟩:=bind_some h;obtain⟨v11,e12,h⟩:=bind_some h;refine .dh cn (.ah (i5 e6) ⟨rfl,trivial⟩ trivial trivial<|.bA (D.own 202) rfl rfl bV rfl<|.mv rfl<|.td rfl rfl rfl rfl aC (ag e8).1 (by have:=jh e8;simpa using this)<|.sE (cO e8) rfl rfl rfl rfl aH<|.mv rfl<|.xj rfl rfl rfl (ag e8).2 aT (ag e10).1 (jh e10) rfl<|.qq rfl rfl (ag e8).2 (ag e10).2 aa rfl rfl<|.ah (nX e12) ⟨rfl,rfl,trivial⟩ trivial trivial<|.fW (qC (0)) az ⟨k8,k_,kZ,trivial⟩ rfl<|.cH (qC (v11)) rfl rfl rfl aa rfl rfl rfl<|.nil) rfl (by kernel_rfl) ?_;obtain⟨v33,hp14,h⟩:=bind_some h;refine .cz (fun i=>v33=i) (fun(i:(List (List Rat)))=>[(0,D.int .i64 a1),(1,D.int .i64 a2),(2,D.ref 2 0),(3,D.ref 3 0),(1000002,D.pinned 2 (b 2)),(1000003,D.pinned 3 (b 3)),(1000202,D.pinned 202 (b 202)),(1000402,D.pinned 402 (b 402))]) (fun(i:(List (List Rat)))=>[(2,Hp.box 132 ([D.own 202])),(202,Hp.cg ak.rat 68 402 ([])),(402,Hp.store ak.rat 28 i),(3,Hp.box 3 ([D.int .i64 a4]))]) ?_ ?_
 ·have ho1:=h;have h:=hp14;refine .al (.mv rfl<|.ao rfl<|.nil) rfl ?_;obtain⟨o17,hl18,h⟩:=bind_some h;have ho2:=h;refine .block (.cc (fun(s:Int×(List (List Rat)))=>[(0,D.int .i64 a1),(1,D.int .i64 a2),(2,D.ref 2 0),(3,D.ref 3 0),(6,D.ref 6 0),(7,D.int .i64 s.1),(1000002,D.pinned 2 (b 2)),(1000003,D.pinned 3 (b 3)),(1000202,D.pinned 202 (b 202)),(1000402,D.pinned 402 (b 402))]) (fun(s:Int×(List (List Rat)))=>[(2,Hp.box 132 ([D.own 202])),(202,Hp.cg ak.rat 68 402 ([])),(402,Hp.store ak.rat 28 s.2),(3,Hp.box 3 ([D.int .i64 a4])),(6,Hp.box 28 (qC (v11)))]) hl18 (.of rfl) (.of rfl) rfl rfl ?_);rintro⟨v15,v16⟩ st19 hb20;have h:di a1 a4 v11 v15 v16=some st19:=hb20;unfold di at h
  try dsimp only
  refine .sq ?_;refine .al (.mv rfl<|.bA (D.int .i64 a4) rfl rfl dw rfl<|.cm rfl rfl rfl<|.nil) rfl ?_;by_cases c21:(decide (v15<a4))=true
  ·replace h:=ab c21 h;refine .cq rfl c21 ?_;refine .skip (Ok.on ?_);refine .sq ?_;refine .block ?_;obtain⟨v22,e23,h⟩:=bind_some h;obtain⟨v24,e25,h⟩:=bind_some h;obtain⟨v26,e27,h⟩:=bind_some h;obtain⟨v28,e29,h⟩:=bind_some h;obtain⟨v30,e31,h⟩:=bind_some h;refine .de cn (.bA (D.own 202) rfl rfl bV rfl<|.mv rfl<|.td rfl rfl rfl rfl aC (ag e23).1 (by have:=jh e23;simpa using this)<|.sE (cO e23) rfl rfl rfl rfl aH<|.mv rfl<|.bA (D.own 202) rfl rfl bV rfl<|.mv rfl<|.td rfl rfl rfl rfl aC (ag e25).1 (by have:=jh e25;simpa using this)<|.sE (cO e25) rfl rfl rfl rfl aH<|.mv rfl<|.xj rfl rfl rfl (ag e25).2 aT (ag e27).1 (jh e27) rfl<|.qq rfl rfl (ag e25).2 (ag e27).2 aa rfl rfl<|.cb (qC (v11)) rfl rfl aa rfl rfl<|.ah (lA e29) ⟨rfl,rfl,trivial⟩ trivial trivial<|.xj rfl rfl rfl (ag e23).2 aT (ag e31).1 (jh e31) rfl<|.E0 v28 rfl rfl rfl (ag e23).2 (cO e31) aa rfl rfl rfl<|.nil) rfl (by kernel_rfl) (Ok.on ?_);refine .region (.mv rfl<|.ar rfl rfl rfl<|.ao rfl<|.nil) rfl (fun _ _ hs=>⟨((IntKind.i64.wrap (v15+1)),(v16.set a1.toNat (v22.set v15.toNat v28))),(sj h),hs.sub (.of rfl) (.of rfl) rfl rfl⟩)
  ·replace h:=ae c21 h;refine .cA rfl c21 ?_;refine .exit (fun a w hs=>⟨_,(sj h),fun e=>by subst e;have h:=ho2;exact aZ (⟨v16,(sj h),hs.sub (.of rfl) (.of rfl) rfl rfl⟩)⟩)
 ·rintro _ rfl
  try dsimp only
  refine .al (.bA (D.own 202) rfl rfl bV rfl<|.Hf rfl rfl rfl bn<|.mv rfl<|.nil) rfl ?_;obtain⟨o36,hl37,h⟩:=bind_some h;have ho1:=h;refine .block (.cc (fun(s:Int×(List (List Rat)))=>[(0,D.int .i64 a1),(1,D.int .i64 a2),(2,D.ref 2 0),(3,D.ref 3 0),(42,D.int .i64 (v33.length:Int)),(43,D.int .i64 s.1),(1000002,D.pinned 2 (b 2)),(1000003,D.pinned 3 (b 3)),(1000202,D.pinned 202 (b 202)),(1000402,D.pinned 402 (b 402))]) (fun(s:Int×(List (List Rat)))=>[(2,Hp.box 132 ([D.own 202])),(202,Hp.cg ak.rat 68 402 ([])),(402,Hp.store ak.rat 28 s.2),(3,Hp.box 3 ([D.int .i64 a4]))]) hl37 (.of rfl) (.of rfl) rfl rfl ?_);rintro⟨v34,v35⟩ st38 hb39;have h:cP a1 a2 a4 v33 v34 v35=some st38:=hb39;unfold cP at h
  try dsimp only
  refine .al (.cm rfl rfl rfl<|.nil) rfl ?_;refine .sq ?_;by_cases c40:(decide (v34<(v33.length:Int)))=true
  ·replace h:=ab c40 h;refine .cq rfl c40 ?_;refine .skip (Ok.on ?_);obtain⟨v75,hp42,h⟩:=bind_some h;refine .cz (fun i=>v75=i) (fun(i:(List (List Rat)))=>[(0,D.int .i64 a1),(1,D.int .i64 a2),(2,D.ref 2 0),(3,D.ref 3 0),(42,D.int .i64 (v33.length:Int)),(43,D.int .i64 v34),(1000002,D.pinned 2 (b 2)),(1000003,D.pinned 3 (b 3)),(1000202,D.pinned 202 (b 202)),(1000402,D.pinned 402 (b 402))]) (fun(i:(List (List Rat)))=>[(2,Hp.box 132 ([D.own 202])),(202,Hp.cg ak.rat 68 402 ([])),(402,Hp.store ak.rat 28 i),(3,Hp.box 3 ([D.int .i64 a4]))]) ?_ ?_
   ·have ho2:=h;have h:=hp42;refine .block ?_;refine .al (.mv rfl<|.ao rfl<|.nil) rfl ?_;obtain⟨v43,e44,h⟩:=bind_some h;obtain⟨v45,e46,h⟩:=bind_some h;refine .al (.bA (D.own 202) rfl rfl bV rfl<|.mv rfl<|.td rfl rfl rfl rfl aC (ag e44).1 (by have:=jh e44;simpa using this)<|.sE (cO e44) rfl rfl rfl rfl aH<|.mv rfl<|.xj rfl rfl rfl (ag e44).2 aT (ag e46).1 (jh e46) rfl<|.qq rfl rfl (ag e44).2 (ag e46).2 aa rfl rfl<|.fW (qC (0)) az ⟨k8,k_,kZ,trivial⟩ rfl<|.cH (qC (v45)) rfl rfl rfl aa rfl rfl rfl<|.nil) rfl ?_;by_cases c47:(v34 !=a1)=true
    ·replace h:=ab c47 h;obtain⟨v48,e49,h⟩:=bind_some h;refine .al (.mv rfl<|.mv rfl<|.cm rfl rfl rfl<|.mv rfl<|.gy c47<|.cb (qC (v45)) rfl rfl aa rfl rfl<|.gy c47<|.ah (pz e49) ⟨rfl,trivial⟩ trivial trivial<|.gy c47<|.cm rfl rfl rfl<|.bm rfl c47 rfl<|.nil) rfl ?_;by_cases c50:(v48 !=0)=true
     ·replace h:=ab c50 h;refine .cq rfl c50 ?_;refine .al (.mv rfl<|.ao rfl<|.nil) rfl ?_;obtain⟨o53,hl54,h⟩:=bind_some h;have ho3:=h;refine .block (.cc (fun(s:Int×(List (List Rat)))=>[(0,D.int .i64 a1),(1,D.int .i64 a2),(2,D.ref 2 0),(3,D.ref 3 0),(8,D.int .i64 v34),(9,D.ref 9 0),(10,D.int .i64 s.1),(42,D.int .i64 (v33.length:Int)),(43,D.int .i64 v34),(1000002,D.pinned 2 (b 2)),(1000003,D.pinned 3 (b 3)),(1000202,D.pinned 202 (b 202)),(1000402,D.pinned 402 (b 402))]) (fun(s:Int×(List (List Rat)))=>[(2,Hp.box 132 ([D.own 202])),(202,Hp.cg ak.rat 68 402 ([])),(402,Hp.store ak.rat 28 s.2),(3,Hp.box 3 ([D.int .i64 a4])),(9,Hp.box 28 (qC (v45)))]) hl54 (.of rfl) (.of rfl) rfl rfl ?_);rintro⟨v51,v52⟩ st55 hb56;have h:cB a1 a4 v34 v45 v51 v52=some st55:=hb56;unfold cB at h
      try dsimp only
      refine .sq ?_;refine .al (.mv rfl<|.bA (D.int .i64 a4) rfl rfl dw rfl<|.cm rfl rfl rfl<|.nil) rfl ?_;by_cases c57:(decide (v51<a4))=true
      ·replace h:=ab c57 h;refine .cq rfl c57 ?_;refine .skip (Ok.on ?_);refine .sq ?_;refine .block ?_;obtain⟨v58,e59,h⟩:=bind_some h;obtain⟨v60,e61,h⟩:=bind_some h;obtain⟨v62,e63,h⟩:=bind_some h;obtain⟨v64,e65,h⟩:=bind_some h;obtain⟨v66,e67,h⟩:=bind_some h;obtain⟨v68,e69,h⟩:=bind_some h;obtain⟨v70,e71,h⟩:=bind_some h;obtain⟨v72,e73,h⟩:=bind_some h;refine .de cn (.bA (D.own 202) rfl rfl bV rfl<|.mv rfl<|.td rfl rfl rfl rfl aC (ag e59).1 (by have:=jh e59;simpa using this)<|.sE (cO e59) rfl rfl rfl rfl aH<|.mv rfl<|.bA (D.own 202) rfl rfl bV rfl<|.mv rfl<|.td rfl rfl rfl rfl aC (ag e61).1 (by have:=jh e61;simpa using this)<|.sE (cO e61) rfl rfl rfl rfl aH<|.mv rfl<|.xj rfl rfl rfl (ag e61).2 aT (ag e63).1 (jh e63) rfl<|.qq rfl rfl (ag e61).2 (ag e63).2 aa rfl rfl<|.cb (qC (v45)) rfl rfl aa rfl rfl<|.bA (D.own 202) rfl rfl bV rfl<|.mv rfl<|.td rfl rfl rfl rfl aC (ag e65).1 (by have:=jh e65;simpa using this)<|.sE (cO e65) rfl rfl rfl rfl aH<|.mv rfl<|.xj rfl rfl rfl (ag e65).2 aT (ag e67).1 (jh e67) rfl<|.qq rfl rfl (ag e65).2 (ag e67).2 aa rfl rfl<|.ah (lA e69) ⟨rfl,rfl,trivial⟩ trivial trivial<|.ah (tK e71) ⟨rfl,rfl,trivial⟩ trivial trivial<|.xj rfl rfl rfl (ag e59).2 aT (ag e73).1 (jh e73) rfl<|.E0 v70 rfl rfl rfl (ag e59).2 (cO e73) aa rfl rfl rfl<|.nil) rfl (by kernel_rfl) (Ok.on ?_);refine .region (.mv rfl<|.ar rfl rfl rfl<|.ao rfl<|.nil) rfl (fun _ _ hs=>⟨((IntKind.i64.wrap (v51+1)),(v52.set v34.toNat (v58.set v51.toNat v70))),(sj h),hs.sub (.of rfl) (.of rfl) rfl rfl⟩)
      ·replace h:=ae c57 h;refine .cA rfl c57 ?_;refine .exit (fun a w hs=>⟨_,(sj h),fun e=>by subst e;have h:=ho3;exact aZ (⟨v52,(sj h),hs.sub (.of rfl) (.of rfl) rfl rfl⟩)⟩)
     ·replace h:=ae c50 h;refine .cA rfl c50 ?_;refine .skip (fun _ _ hs=>⟨v35,(sj h),hs.sub (.of rfl) (.of rfl) rfl rfl⟩)
    ·replace h:=ae c47 h;refine .al (.mv rfl<|.mv rfl<|.cm rfl rfl rfl<|.mv rfl<|.gm c47<|.gm c47<|.gm c47<|.bh rfl c47 rfl<|.nil) rfl ?_;refine .cA rfl (by decide) ?_;refine .skip (fun _ _ hs=>⟨v35,(sj h),hs.sub (.of rfl) (.of rfl) rfl rfl⟩)
   ·rintro _ rfl
    try dsimp only
    refine .region (.ar rfl rfl rfl<|.mv rfl<|.nil) rfl (fun _ _ hs=>⟨((IntKind.i64.wrap (v34+1)),v75),(sj h),hs.sub (.of rfl) (.of rfl) rfl rfl⟩)
  ·replace h:=ae c40 h;refine .cA rfl c40 ?_;refine .exit (fun a w hs=>⟨_,(sj h),fun e=>by subst e;have h:=ho1;cases h;exact aZ (hs.H_ rfl .nil (.refl _) (.of rfl) (.of rfl))⟩)
def cl(v3:Int)(v8:Int)(v9:List (List Rat))(v10:List Int)(v19:Int):Option (St Int ((List (List Rat))×(List Int))):=(if(decide (v19<(v9.length:Int)))=true then(ix v9 v19).bind fun v25=>(ix v25 v8).bind fun v27=>(fm v27).bind fun v29=>(if(v29 !=0)=true then(ix v9 v19).bind fun v32=>(ix v9 (v10.length:Int)).bind fun v34=>(ix v9 (v10.length:Int)).bind fun v36=>(ix v9 v19).bind fun v38=>(gw (v10.length:Int) v8 ((v9.set (v10.length:Int).toNat v32).set v19.toNat v36) v3).bind fun v40=>bO ((v10.length+([v8]).length)*8<=140737488355328/\v10.length+([v8]).length<=9223372036854775807) (some (St.done (v40,(v10++[v8]))))else some (St.next (IntKind.i64.wrap (v19+1))))else some (St.done (v9,v10)))
def br(v3:Int)(v8:Int)(v9:List (List Rat))(v10:List Int):Option (St (Int×(List (List Rat))×(List Int)) ((List Int)×(List (List Rat)))):=(if(decide (v8<v3))=true then(if(decide ((v10.length:Int)<(v9.length:Int)))=true then((Loop (fun(s:Int)=>cl v3 v8 v9 v10 s) (v10.length:Int)).bind fun(v43,v44)=>some ((v43,v44))).bind fun(v45,v46)=>some (St.next ((IntKind.i64.wrap (v8+1)),v45,v46))else some (St.done (v10,v9)))else some (St.done (v10,v9)))
def eU(a1:List (List Rat)):Option ((List (List Rat))×(List Int)):=(dA a1).bind fun(v2,v3,v4)=>((Loop (fun(s:Int×(List (List Rat))×(List Int))=>br v3 s.1 s.2.1 s.2.2) (0,a1,([]:List Int))).bind fun(v47,v48)=>some ((v47,v48))).bind fun(v49,v50)=>some (v50,v49)
theorem m7{a1:List (List Rat)}{r51:List (List Rat)}{r52:List Int}(h:eU a1=some (r51,r52)):aW PP 203 [(0,Hp.cg ak.rat 68 400 ([])),(400,Hp.store ak.rat 28 a1)] [D.own 0] [(0,Hp.cg ak.rat 68 700 ([])),(700,Hp.store ak.rat 28 r51),(400,Hp.dead)] (an (ak.int .i64) r52):=by
 unfold eU at h;refine .of Go.Proofs.Tryz.func203 rfl (by kernel_rfl) rfl rfl rfl rfl rfl rfl (fun A w0 L b=>?_);show Ok PP _ [(0,D.own 0),(1000000,D.pinned 0 (b 0)),(1000400,D.pinned 400 (b 400))] [(0,Hp.cg ak.rat 68 400 ([])),(400,Hp.store ak.rat 28 a1)] _ _;refine .Iw 0 400 700 rfl rfl rfl rfl ?_;refine .l4 0 rfl rfl rfl ?_;refine .uF 0 (.own 0) rfl .sl ?_;refine .al (.Jr rfl rfl rfl<|.ao rfl<|.nil) rfl ?_;obtain⟨⟨v2,v3,v4⟩,e5,h⟩:=bind_some h;refine .al (.bA (D.own 0) rfl rfl bV rfl<|.Hu (ds0:=[D.own 0]) [(0,Hp.cg ak.rat 68 700 ([])),(700,Hp.store ak.rat 28 a1)] (fy e5) ⟨rfl,trivial⟩ ⟨rfl,rfl,trivial⟩ ⟨(.cg (.refl _) rfl rfl rfl),trivial⟩ (.gV ⟨.int,.int,.bool,trivial⟩) rfl<|.mv rfl<|.ext rfl rfl<|.ext rfl rfl<|.ext rfl rfl<|.fW ([D.int .i64 0]) F0 ⟨.refl _,trivial⟩ rfl<|.ao rfl<|.zi ([D.int .i64 v3]) rfl rfl rfl dw rfl rfl rfl<|.ao rfl<|.nil) rfl ?_;refine .al (.IU (fs:=[]) (cs:=[.tmp 1,.tmp 4]) (l:=[]) (m:=[D.ref 1 0,D.ref 4 0]) trivial ⟨rfl,rfl,trivial⟩<|.ao rfl<|.nil) rfl ?_;refine .al (.ao rfl<|.nil) rfl ?_;obtain⟨o6,hp7,h⟩:=bind_some h;refine .cz (fun i=>o6=i) (fun(i:(List Int)×(List (List Rat)))=>[(7,D.own 2000007),(1000000,D.pinned 0 (b 0)),(1000400,D.pinned 400 (b 400))]) (fun(i:(List Int)×(List (List Rat)))=>[(2000007,aR (ak.int .i64) 3 i.1),(0,Hp.cg ak.rat 68 700 ([])),(700,Hp.store ak.rat 28 i.2),(400,Hp.dead)]) ?_ ?_
 ·have ho1:=h;have h:=hp7;refine .al (.ao rfl<|.nil) rfl ?_;refine .gT (ak.int .i64) 7 2000007 3 rfl rfl ?_;obtain⟨o11,hl12,h⟩:=bind_some h;have ho2:=h;refine .block (.cc (fun(s:Int×(List (List Rat))×(List Int))=>[(1,D.ref 1 0),(4,D.ref 4 0),(6,D.qU 236 [] [D.ref 1 0,D.ref 4 0]),(7,D.own 2000007),(8,D.int .i64 s.1),(1000000,D.pinned 0 (b 0)),(1000400,D.pinned 400 (b 400))]) (fun(s:Int×(List (List Rat))×(List Int))=>[(1,Hp.box 132 ([D.own 0])),(0,Hp.cg ak.rat 68 700 ([])),(700,Hp.store ak.rat 28 s.2.1),(4,Hp.box 3 ([D.int .i64 v3])),(2000007,aR (ak.int .i64) 3 s.2.2),(400,Hp.dead)]) hl12 (.of rfl) (.of rfl) rfl rfl ?_);rintro⟨v8,v9,v10⟩ st13 hb14;have h:br v3 v8 v9 v10=some st13:=hb14;unfold br at h
  try dsimp only
  refine .sq ?_;refine .sl 7 rfl rfl rfl ?_;by_cases c15:(decide (v8<v3))=true
  ·replace h:=ab c15 h;refine .al (.mv rfl<|.bA (D.int .i64 v3) rfl rfl dw rfl<|.cm rfl rfl rfl<|.mv rfl<|.gy c15<|.mv rfl<|.gy c15<|.Hc rfl bI<|.gy c15<|.bA (D.own 0) rfl rfl bV rfl<|.gy c15<|.Hf rfl rfl rfl bn<|.gy c15<|.cm rfl rfl rfl<|.bm rfl c15 rfl<|.nil) rfl ?_;by_cases c16:(decide ((v10.length:Int)<(v9.length:Int)))=true
   ·replace h:=ab c16 h;refine .cq rfl c16 ?_;refine .skip (Ok.on ?_);obtain⟨o17,hp18,h⟩:=bind_some h;refine .cz (fun i=>o17=i) (fun(i:(List (List Rat))×(List Int))=>[(1,D.ref 1 0),(4,D.ref 4 0),(6,D.qU 236 [] [D.ref 1 0,D.ref 4 0]),(7,D.own 69),(8,D.int .i64 v8),(1000000,D.pinned 0 (b 0)),(1000400,D.pinned 400 (b 400))]) (fun(i:(List (List Rat))×(List Int))=>[(1,Hp.box 132 ([D.own 0])),(0,Hp.cg ak.rat 68 3000000 ([])),(3000000,Hp.store ak.rat 28 i.1),(4,Hp.box 3 ([D.int .i64 v3])),(69,aR (ak.int .i64) 3 i.2),(400,Hp.dead)]) ?_ ?_
    ·have ho3:=h;have h:=hp18;refine .block ?_;refine .al (.mv rfl<|.Hc rfl bI<|.ao rfl<|.nil) rfl ?_;refine .al (.mv rfl<|.ao rfl<|.nil) rfl ?_;obtain⟨o20,hl21,h⟩:=bind_some h;have ho4:=h;refine .block (.cc (fun(s:Int)=>[(1,D.ref 1 0),(4,D.ref 4 0),(6,D.qU 236 [] [D.ref 1 0,D.ref 4 0]),(7,D.own 2000007),(8,D.int .i64 v8),(9,D.int .i64 (v10.length:Int)),(10,D.int .i64 s),(1000000,D.pinned 0 (b 0)),(1000400,D.pinned 400 (b 400))]) (fun(s:Int)=>[(1,Hp.box 132 ([D.own 0])),(0,Hp.cg ak.rat 68 700 ([])),(700,Hp.store ak.rat 28 v9),(4,Hp.box 3 ([D.int .i64 v3])),(2000007,aR (ak.int .i64) 3 v10),(400,Hp.dead)]) hl21 (.k rfl<|.k rfl<|.k rfl<|.p rfl .sl<|.k rfl<|.k rfl<|.k rfl<|.k rfl<|.k rfl<|trivial) (.of rfl) rfl rfl ?_);rintro v19 st22 hb23;have h:cl v3 v8 v9 v10 v19=some st22:=hb23;unfold cl at h
     try dsimp only
     refine .sq ?_;refine .al (.mv rfl<|.bA (D.own 0) rfl rfl bV rfl<|.Hf rfl rfl rfl bn<|.cm rfl rfl rfl<|.nil) rfl ?_;by_cases c24:(decide (v19<(v9.length:Int)))=true
     ·replace h:=ab c24 h;refine .cq rfl c24 ?_;refine .skip (Ok.on ?_);refine .sq ?_;refine .block ?_;obtain⟨v25,e26,h⟩:=bind_some h;obtain⟨v27,e28,h⟩:=bind_some h;obtain⟨v29,e30,h⟩:=bind_some h;refine .al (.bA (D.own 0) rfl rfl bV rfl<|.mv rfl<|.td rfl rfl rfl rfl aC (ag e26).1 (by have:=jh e26;simpa using this)<|.sE (cO e26) rfl rfl rfl rfl aH<|.mv rfl<|.xj rfl rfl rfl (ag e26).2 aT (ag e28).1 (jh e28) rfl<|.qq rfl rfl (ag e26).2 (ag e28).2 aa rfl rfl<|.ah (pz e30) ⟨rfl,trivial⟩ trivial trivial<|.cm rfl rfl rfl<|.nil) rfl ?_;by_cases c31:(v29 !=0)=true
      ·replace h:=ab c31 h;refine .cq rfl c31 ?_;obtain⟨v32,e33,h⟩:=bind_some h;obtain⟨v34,e35,h⟩:=bind_some h;obtain⟨v36,e37,h⟩:=bind_some h;obtain⟨v38,e39,h⟩:=bind_some h;refine .dh cn (.bA (D.own 0) rfl rfl bV rfl<|.mv rfl<|.bA (D.own 0) rfl rfl bV rfl<|.mv rfl<|.bA (D.own 0) rfl rfl bV rfl<|.mv rfl<|.td rfl rfl rfl rfl aC (ag e33).1 (by have:=jh e33;simpa using this)<|.sE (cO e33) rfl rfl rfl rfl aH<|.bA (D.own 0) rfl rfl bV rfl<|.mv rfl<|.td rfl rfl rfl rfl aC (ag e35).1 (by have:=jh e35;simpa using this)<|.sE (cO e35) rfl rfl rfl rfl aH<|.td rfl rfl rfl rfl aC (ag e37).1 (by have:=jh e37;simpa using this)<|.Jn (cO e37) rfl rfl rfl rfl rfl aH<|.IJ (n:=v9.length) rfl rfl rfl (by simp) aC (ag e39).1 (jh e39)<|.I8 (by have:=cO e39;simpa using this) rfl rfl rfl rfl rfl aH<|.nil) rfl (by kernel_rfl) ?_;refine .FU (r:=0) (s:=700) (i:=(v10.length:Int)) (k:=v19) 3000000 rfl rfl rfl rfl (ag e37).2 (ag e33).2 ?_;obtain⟨v40,e41,h⟩:=bind_some h;refine .al (.mv rfl<|.mv rfl<|.mv rfl<|.F4 (Hi:=[(1,Hp.box 132 ([D.own 0])),(4,Hp.box 3 ([D.int .i64 v3])),(0,Hp.cg ak.rat 68 3000000 ([])),(3000000,Hp.store ak.rat 28 ((v9.set (v10.length:Int).toNat v32).set v19.toNat v36))]) (Ho:=[(1,Hp.box 132 ([D.own 0])),(4,Hp.box 3 ([D.int .i64 v3])),(0,Hp.cg ak.rat 68 3000000 ([])),(3000000,Hp.store ak.rat 28 v40)]) (d:=D.gV []) (ds:=[D.int .i64 (v10.length:Int),D.int .i64 v8]) rfl (.B5 (tT e41) (fun r=>match r with|2=>1|202=>0|402=>3000000|3=>4|r=>r) (fun r=>match r with|1=>2|0=>202|3000000=>402|4=>3|r=>r) rfl (.p rfl (.box ⟨.own (r:=202),trivial⟩)<|.r rfl rfl<|.p rfl (.cg (s:=402))<|.r rfl rfl<|trivial) rfl ⟨.refl rfl,.refl rfl,.ref (r:=2),.ref (r:=3),trivial⟩ (.p rfl (.box ⟨.own (r:=0),trivial⟩)<|.r rfl rfl<|.p rfl (.cg (s:=3000000))<|.r rfl rfl<|trivial) rfl (.refl rfl) rfl rfl rfl rfl rfl) ⟨rfl,rfl,trivial⟩ ⟨rfl,rfl,rfl,rfl,trivial⟩ trivial<|.nil) rfl ?_;refine .sl 7 rfl rfl rfl ?_;obtain⟨k42,h⟩:=ax h;refine .al (.mv rfl<|.mv rfl<|.yO (e:=(ak.int .i64)) [v8] [(0,_,D.int .i64 v8,[D.int .i64 v8])] jC rfl rfl rfl ⟨rfl,rfl,.one rfl,rfl,trivial⟩ ⟨rfl,trivial⟩ rfl rfl<|.xi (ys:=[v8]) rfl .sl rfl (.refl _) rfl jC rfl k42.1 k42.2 rfl<|.ao rfl<|.nil) rfl ?_;refine .exit (fun a w hs=>⟨_,(sj h),fun e=>by subst e;have h:=ho4;exact aZ (⟨(v40,(v10++[v8])),(sj h),hs.sub (.of rfl) (.of rfl) rfl rfl⟩)⟩)
      ·replace h:=ae c31 h;refine .cA rfl c31 ?_;refine .skip (Ok.on ?_);refine .region (.mv rfl<|.ar rfl rfl rfl<|.ao rfl<|.nil) rfl (fun _ _ hs=>⟨(IntKind.i64.wrap (v19+1)),(sj h),hs.sub (.of rfl) (.of rfl) rfl rfl⟩)
     ·replace h:=ae c24 h;refine .cA rfl c24 ?_;refine .exit (fun a w hs=>⟨_,(sj h),fun e=>by subst e;have h:=ho4;exact aZ (⟨(v9,v10),(sj h),hs.l7 (fun r=>match r with|69=>2000007|3000000=>700|r=>r) (.p rfl (.ref (r:=1))<|.p rfl (.ref (r:=4))<|.p rfl (.qU trivial ⟨.ref (r:=1),.ref (r:=4),trivial⟩)<|.p rfl (.own (r:=69))<|.r rfl rfl<|.p rfl (.wR (r:=0))<|.p rfl (.wR (r:=400))<|trivial) (.p rfl (.box ⟨.own (r:=0),trivial⟩)<|.p rfl (.cg (s:=3000000))<|.r rfl rfl<|.r rfl rfl<|.r rfl rfl<|.r rfl rfl<|trivial) rfl rfl rfl⟩)⟩)
    ·rintro⟨v45,v46⟩ rfl
     try dsimp only
     refine .region (.mv rfl<|.ar rfl rfl rfl<|.ao rfl<|.nil) rfl (fun _ _ hs=>⟨((IntKind.i64.wrap (v8+1)),v45,v46),(sj h),hs.l7 (fun r=>match r with|2000007=>69|700=>3000000|r=>r) (.p rfl (.ref (r:=1))<|.p rfl (.ref (r:=4))<|.p rfl (.qU trivial ⟨.ref (r:=1),.ref (r:=4),trivial⟩)<|.p rfl (.own (r:=2000007))<|.r rfl rfl<|.p rfl (.wR (r:=0))<|.p rfl (.wR (r:=400))<|trivial) (.p rfl (.box ⟨.own (r:=0),trivial⟩)<|.p rfl (.cg (s:=700))<|.r rfl rfl<|.r rfl rfl<|.r rfl rfl<|.r rfl rfl<|trivial) rfl rfl rfl⟩)
   ·replace h:=ae c16 h;refine .cA rfl c16 ?_;refine .exit (fun a w hs=>⟨_,(sj h),fun e=>by subst e;have h:=ho2;exact aZ (⟨(v10,v9),(sj h),hs.sub (.p rfl .sl<|.k rfl<|.k rfl<|trivial) (.of rfl) rfl rfl⟩)⟩)
  ·replace h:=ae c15 h;refine .al (.mv rfl<|.bA (D.int .i64 v3) rfl rfl dw rfl<|.cm rfl rfl rfl<|.mv rfl<|.gm c15<|.gm c15<|.gm c15<|.gm c15<|.gm c15<|.bh rfl c15 rfl<|.nil) rfl ?_;refine .cA rfl (by decide) ?_;refine .exit (fun a w hs=>⟨_,(sj h),fun e=>by subst e;have h:=ho2;exact aZ (⟨(v10,v9),(sj h),hs.sub (.p rfl .sl<|.k rfl<|.k rfl<|trivial) (.of rfl) rfl rfl⟩)⟩)
 ·rintro⟨v49,v50⟩ rfl
  try dsimp only
  refine .sl 7 rfl rfl rfl ?_;refine .al (.mv rfl<|.ao rfl<|.nil) rfl ?_;refine .uF 2 (.own 2000007) rfl .sl ?_;refine .j9 2 rfl rfl rfl ?_;cases h;refine .aN (fun _ _ hb=>hb) rfl (.t1 (.tmp rfl)) (.refl _) (.of rfl) (.of rfl)
def mE(a1:List (List Rat)):Option ((List (List Rat))×(List Int)×Int):=(dA a1).bind fun(v2,v3,v4)=>(if(!v4)=true then some ([],[],2)else(fz a1).bind fun v7=>(eU v7).bind fun(v9,v10)=>some (v9,v10,0))
theorem CU{a1:List (List Rat)}{r12:List (List Rat)}{r13:List Int}{r14:Int}(h:mE a1=some (r12,r13,r14)):aW PP 125 [] [an (ak.slice ak.rat) a1] [] (D.gV [an (ak.slice ak.rat) r12,an (ak.int .i64) r13,D.int .i64 r14]):=by
 unfold mE at h;refine .of Go.Proofs.Tryz.func125 rfl (by kernel_rfl) rfl rfl rfl rfl rfl rfl (fun A w0 L b=>?_);show Ok PP _ [(0,an (ak.slice ak.rat) a1)] [] _ _;refine .al (.ao rfl<|.ao rfl<|.ao rfl<|.nil) rfl ?_;refine .sq ?_;obtain⟨⟨v2,v3,v4⟩,e5,h⟩:=bind_some h;refine .al (.mv rfl<|.ah (fy e5) ⟨rfl,trivial⟩ trivial trivial<|.mv rfl<|.ext rfl rfl<|.ext rfl rfl<|.ext rfl rfl<|.ao rfl<|.ao rfl<|.ao rfl<|.nil) rfl ?_;refine .al (.mv rfl<|.not rfl<|.nil) rfl ?_;by_cases c6:(!v4)=true
 ·replace h:=ab c6 h;refine .cq rfl c6 ?_;refine .al (.ao rfl<|.ao rfl<|.ao rfl<|.nil) rfl ?_;cases h;refine .aN (fun _ _ hb=>hb) rfl (.cons (.tmp rfl) (.cons (.tmp rfl) (.t1 (.tmp rfl)))) (.gV ⟨.gT _,.gT _,.refl _,trivial⟩) trivial trivial
 ·replace h:=ae c6 h;refine .cA rfl c6 ?_;refine .skip (Ok.on ?_);obtain⟨v7,e8,h⟩:=bind_some h;refine .al (.mv rfl<|.ah (Hi:=[]) (Ho:=[(18,Hp.cg ak.rat 68 3000018 ([])),(3000018,Hp.store ak.rat 28 v7)]) (d:=D.own 18) (ds:=[an (ak.slice ak.rat) a1]) (.B5 (mW e8) (fun r=>match r with|6=>18|4000006=>3000018|r=>r) (fun r=>match r with|18=>6|3000018=>4000006|r=>r) rfl trivial rfl ⟨.refl rfl,trivial⟩ (.p rfl (.cg (s:=3000018))<|.r rfl rfl<|trivial) rfl (.own (r:=18)) rfl rfl rfl rfl rfl) ⟨rfl,trivial⟩ trivial ⟨rfl,rfl,trivial⟩<|.ao rfl<|.nil) rfl ?_;refine .l4 8 rfl rfl rfl ?_;obtain⟨⟨v9,v10⟩,e11,h⟩:=bind_some h;refine .al (.mv rfl<|.mv rfl<|.ah (Hi:=[(18,Hp.cg ak.rat 68 3000018 ([])),(3000018,Hp.store ak.rat 28 v7)]) (Ho:=[(18,Hp.cg ak.rat 68 3000021 ([])),(3000021,Hp.store ak.rat 28 v9),(3000018,Hp.dead)]) (d:=an (ak.int .i64) v10) (ds:=[D.sl 18 v7.length]) (.B5 (m7 e11) (fun r=>match r with|0=>18|400=>3000018|700=>3000021|r=>r) (fun r=>match r with|18=>0|3000018=>400|3000021=>700|r=>r) rfl (.p rfl (.cg (s:=400))<|.r rfl rfl<|trivial) rfl ⟨.GD (r:=0),trivial⟩ (.p rfl (.cg (s:=3000021))<|.r rfl rfl<|.r rfl rfl<|trivial) rfl (.refl rfl) rfl rfl rfl rfl rfl) ⟨rfl,trivial⟩ ⟨rfl,rfl,trivial⟩ ⟨rfl,trivial⟩<|.ao rfl<|.ao rfl<|.ao rfl<|.nil) rfl ?_;refine .uF 2 (.own 18) rfl .sl ?_;refine .CB 2 rfl rfl rfl rfl rfl ?_;cases h;refine .aN (fun _ _ hb=>hb) rfl (.cons (.tmp rfl) (.cons (.tmp rfl) (.t1 (.tmp rfl)))) (.refl _) trivial trivial
def gq(a1:List Int)(a2:Int)(v5:Int):Option (St Int (Ex Unit Int)):=(if(decide (v5<(a1.length:Int)))=true then(ix a1 v5).bind fun v11=>(if(a2==v11)=true then some (St.done (Ex.ret v5))else some (St.next (IntKind.i64.wrap (v5+1))))else some (St.done (Ex.cp ())))
def lH(a1:List Int)(a2:Int):Option Int:=((Loop (fun(s:Int)=>gq a1 a2 s) 0).bind fun o6=>(match o6 with|Ex.cp ()=>some (Ex.cp ())|Ex.ret r14=>some (Ex.ret r14))).bind fun o3=>(match o3 with|Ex.cp ()=>some (-1)|Ex.ret r15=>some r15)
theorem yf{a1:List Int}{a2:Int}{r16:Int}(h:lH a1 a2=some r16):aW PP 237 [] [an (ak.int .i64) a1,D.int .i64 a2] [] (D.int .i64 r16):=by
 unfold lH at h;refine .of Go.Proofs.Tryz.func237 rfl (by kernel_rfl) rfl rfl rfl rfl rfl rfl (fun A w0 L b=>?_);show Ok PP _ [(0,an (ak.int .i64) a1),(1,D.int .i64 a2)] [] _ _;refine .al (.ao rfl<|.nil) rfl ?_;obtain⟨o3,hp4,h⟩:=bind_some h;refine .cz (fun i=>o3=Ex.cp i) (fun(i:Unit)=>[]) (fun(i:Unit)=>[]) ?_ ?_
 ·have ho1:=h;have h:=hp4;refine .al (.mv rfl<|.fU rfl bI<|.mv rfl<|.nil) rfl ?_;obtain⟨o6,hl7,h⟩:=bind_some h;have ho2:=h;refine .block (.cc (fun(s:Int)=>[(0,an (ak.int .i64) a1),(1,D.int .i64 a2),(7,D.int .i64 (a1.length:Int)),(8,D.int .i64 s)]) (fun(s:Int)=>[]) hl7 (.of rfl) trivial rfl rfl ?_);rintro v5 st8 hb9;have h:gq a1 a2 v5=some st8:=hb9;unfold gq at h
  try dsimp only
  refine .al (.cm rfl rfl rfl<|.nil) rfl ?_;refine .sq ?_;by_cases c10:(decide (v5<(a1.length:Int)))=true
  ·replace h:=ab c10 h;refine .cq rfl c10 ?_;refine .skip (Ok.on ?_);refine .sq ?_;refine .block ?_;refine .al (.mv rfl<|.ao rfl<|.nil) rfl ?_;obtain⟨v11,e12,h⟩:=bind_some h;refine .al (.mv rfl<|.mv rfl<|.mv rfl<|.kX rfl rfl dI (ag e12).1 (ag e12).2<|.iJ rfl dw<|.cm rfl rfl rfl<|.nil) rfl ?_;by_cases c13:(a2==v11)=true
   ·replace h:=ab c13 h;refine .cq rfl c13 ?_;refine .al (.mv rfl<|.ao rfl<|.nil) rfl ?_;refine .aN (Hi:=[]) (Ho:=[]) (b:=b) (fn:=Go.Proofs.Tryz.f237) (d:=D.int .i64 v5) (fun _ _ hb=>by exact⟨_,(sj h),fun e=>by subst e;have h:=ho2;cases h;have h:=ho1;cases h;exact hb⟩) rfl (.t1 (.tmp rfl)) (.refl _) trivial trivial
   ·replace h:=ae c13 h;refine .cA rfl c13 ?_;refine .skip (Ok.on ?_);refine .region (.ar rfl rfl rfl<|.mv rfl<|.nil) rfl (fun _ _ hs=>⟨(IntKind.i64.wrap (v5+1)),(sj h),hs.sub (.of rfl) trivial rfl rfl⟩)
  ·replace h:=ae c10 h;refine .cA rfl c10 ?_;refine .exit (fun a w hs=>⟨_,(sj h),fun e=>by subst e;have h:=ho2;exact aZ (⟨(),(sj h),hs.sub trivial trivial rfl rfl⟩)⟩)
 ·rintro⟨⟩ rfl
  try dsimp only
  refine .al (.ao rfl<|.nil) rfl ?_;cases h;refine .aN (fun _ _ hb=>hb) rfl (.t1 (.tmp rfl)) (.refl _) trivial trivial
def fj(a1:List Int)(a2:Int):Option Bool:=(lH a1 a2).bind fun v3=>some (decide (v3>=0))
theorem n6{a1:List Int}{a2:Int}{r5:Bool}(h:fj a1 a2=some r5):aW PP 205 [] [an (ak.int .i64) a1,D.int .i64 a2] [] (D.bool r5):=by
 unfold fj at h;refine .of Go.Proofs.Tryz.func205 rfl (by kernel_rfl) rfl rfl rfl rfl rfl rfl (fun A w0 L b=>?_);show Ok PP _ [(0,an (ak.int .i64) a1),(1,D.int .i64 a2)] [] _ _;refine .al (.ao rfl<|.nil) rfl ?_;obtain⟨v3,e4,h⟩:=bind_some h;refine .al (.mv rfl<|.mv rfl<|.ah (yf e4) ⟨rfl,rfl,trivial⟩ trivial trivial<|.cm rfl rfl rfl<|.ao rfl<|.nil) rfl ?_;cases h;refine .aN (fun _ _ hb=>hb) rfl (.t1 (.tmp rfl)) (.refl _) trivial trivial
def ic(a1:List (List Rat))(a2:List Rat)(v11:Int)(v12:List (List Rat)):Option (St (Int×(List (List Rat))) (List (List Rat))):=(if(decide (v11<(a1.length:Int)))=true then(ix a1 v11).bind fun v18=>(lE v18).bind fun v20=>(ix a2 v11).bind fun v22=>bO ((v20.length+([v22]).length)*56<=140737488355328/\v20.length+([v22]).length<=9223372036854775807) (bO ((v12.length+1)*24<=140737488355328/\v12.length+1<=9223372036854775807) (some (St.next ((IntKind.i64.wrap (v11+1)),(v12++[(v20++[v22])])))))else some (St.done v12))
def ig(v4:Int)(v28:List (List Rat))(v29:List Int)(v37:Int)(v38:List Rat):Option (St (Int×(List Rat)) (List Rat)):=(if(decide (v37<(v29.length:Int)))=true then(ix v29 v37).bind fun v44=>(ix v28 v37).bind fun v46=>(ix v46 v4).bind fun v48=>(ix v38 v44).bind fun v50=>some (St.next ((IntKind.i64.wrap (v37+1)),(v38.set v44.toNat v48)))else some (St.done v38))
def ir(v28:List (List Rat))(v29:List Int)(v56:Int)(v75:Int)(v76:List Rat):Option (St (Int×(List Rat)) (List Rat)):=(if(decide (v75<(v29.length:Int)))=true then(ix v29 v75).bind fun v82=>(ix v28 v75).bind fun v84=>(ix v84 v56).bind fun v86=>(uf v86).bind fun v88=>(ix v76 v82).bind fun v90=>some (St.next ((IntKind.i64.wrap (v75+1)),(v76.set v82.toNat v88)))else some (St.done v76))
def gC(v4:Int)(v28:List (List Rat))(v29:List Int)(v56:Int)(v57:List (List Rat)):Option (St (Int×(List (List Rat))) (List (List Rat))):=(if(decide (v56<v4))=true then((fj v29 v56).bind fun v65=>(if v65=true then some (v57)else bO ((0:Int)<=v4/\(56:Int)*v4<=281474976710656/\(v4:Int)<=9223372036854775807) ((fh 1).bind fun v69=>(ix (List.replicate v4.toNat (0:Rat)) v56).bind fun v71=>((Loop (fun(s:Int×(List Rat))=>ir v28 v29 v56 s.1 s.2) (0,((List.replicate v4.toNat (0:Rat)).set v56.toNat v69))).bind fun v92=>some (v92)).bind fun v93=>bO ((v57.length+1)*24<=140737488355328/\v57.length+1<=9223372036854775807) (some ((v57++[v93])))))).bind fun v95=>some (St.next ((IntKind.i64.wrap (v56+1)),v95))else some (St.done v57))
def oI(a1:List (List Rat))(a2:List Rat):Option ((List Rat)×(List (List Rat))×Int):=(dA a1).bind fun(v3,v4,v5)=>(if(!v5)=true then some ([],[],2)else(if(v3 !=(a2.length:Int))=true then some ([],[],2)else((Loop (fun(s:Int×(List (List Rat)))=>ic a1 a2 s.1 s.2) (0,([]:List (List Rat)))).bind fun v26=>some (v26)).bind fun v27=>(eU v27).bind fun(v28,v29)=>(fj v29 v4).bind fun v31=>(if v31=true then some ([],[],8)else bO ((0:Int)<=v4/\(56:Int)*v4<=281474976710656/\(v4:Int)<=9223372036854775807) (((Loop (fun(s:Int×(List Rat))=>ig v4 v28 v29 s.1 s.2) (0,(List.replicate v4.toNat (0:Rat)))).bind fun v52=>some (v52)).bind fun v53=>((Loop (fun(s:Int×(List (List Rat)))=>gC v4 v28 v29 s.1 s.2) (0,([]:List (List Rat)))).bind fun v96=>some (v96)).bind fun v97=>some (v53,v97,0)))))
theorem Eg{a1:List (List Rat)}{a2:List Rat}{r98:List Rat}{r99:List (List Rat)}{r100:Int}(h:oI a1 a2=some (r98,r99,r100)):aW PP 126 [] [an (ak.slice ak.rat) a1,an ak.rat a2] [] (D.gV [an ak.rat r98,an (ak.slice ak.rat) r99,D.int .i64 r100]):=by
 unfold oI at h;refine .of Go.Proofs.Tryz.func126 rfl (by kernel_rfl) rfl rfl rfl rfl rfl rfl (fun A w0 L b=>?_);show Ok PP _ [(0,an (ak.slice ak.rat) a1),(1,an ak.rat a2)] [] _ _;refine .al (.ao rfl<|.ao rfl<|.ao rfl<|.nil) rfl ?_;obtain⟨⟨v3,v4,v5⟩,e6,h⟩:=bind_some h;refine .al (.mv rfl<|.ah (fy e6) ⟨rfl,trivial⟩ trivial trivial<|.mv rfl<|.ext rfl rfl<|.ext rfl rfl<|.ext rfl rfl<|.ao rfl<|.ao rfl<|.ao rfl<|.nil) rfl ?_;refine .sq ?_;by_cases c7:(!v5)=true
 ·replace h:=ab c7 h;refine .al (.mv rfl<|.not rfl<|.mv rfl<|.gk c7<|.gk c7<|.gk c7<|.gk c7<|.bm rfl c7 rfl<|.nil) rfl ?_;refine .cq rfl rfl ?_;refine .al (.ao rfl<|.ao rfl<|.ao rfl<|.nil) rfl ?_;cases h;refine .aN (fun _ _ hb=>hb) rfl (.cons (.tmp rfl) (.cons (.tmp rfl) (.t1 (.tmp rfl)))) (.gV ⟨.gT _,.gT _,.refl _,trivial⟩) trivial trivial
 ·replace h:=ae c7 h;refine .al (.mv rfl<|.not rfl<|.mv rfl<|.gz c7<|.mv rfl<|.gz c7<|.mv rfl<|.gz c7<|.fU rfl cr<|.gz c7<|.cm rfl rfl rfl<|.bh rfl c7 rfl<|.nil) rfl ?_;by_cases c8:(v3 !=(a2.length:Int))=true
  ·replace h:=ab c8 h;refine .cq rfl c8 ?_;refine .al (.ao rfl<|.ao rfl<|.ao rfl<|.nil) rfl ?_;cases h;refine .aN (fun _ _ hb=>hb) rfl (.cons (.tmp rfl) (.cons (.tmp rfl) (.t1 (.tmp rfl)))) (.gV ⟨.gT _,.gT _,.refl _,trivial⟩) trivial trivial
  ·replace h:=ae c8 h;refine .cA rfl c8 ?_;refine .skip (Ok.on ?_);refine .al (.ao rfl<|.nil) rfl ?_;obtain⟨v27,hp10,h⟩:=bind_some h;refine .cz (fun i=>v27=i) (fun(i:(List (List Rat)))=>[(5,D.own 2000005),(8,D.int .i64 v4),(10,D.own 2000010)]) (fun(i:(List (List Rat)))=>[(2000005,Hp.cg ak.rat 68 4000005 ([])),(4000005,Hp.store ak.rat 28 ([]:List (List Rat))),(2000010,Hp.cg ak.rat 68 4000010 ([])),(4000010,Hp.store ak.rat 28 i)]) ?_ ?_
   ·have ho1:=h;have h:=hp10;refine .al (.mv rfl<|.fU rfl bn<|.mv rfl<|.nil) rfl ?_;refine .H7 ak.rat 5 2000005 4000005 68 28 rfl rfl rfl rfl ?_;refine .H7 ak.rat 10 2000010 4000010 68 28 rfl rfl rfl rfl ?_;obtain⟨o13,hl14,h⟩:=bind_some h;have ho2:=h;refine .block (.cc (fun(s:Int×(List (List Rat)))=>[(1,an ak.rat a2),(5,D.own 2000005),(8,D.int .i64 v4),(10,D.own 2000010),(34,an (ak.slice ak.rat) a1),(35,D.int .i64 (a1.length:Int)),(36,D.int .i64 s.1)]) (fun(s:Int×(List (List Rat)))=>[(2000005,Hp.cg ak.rat 68 4000005 ([])),(4000005,Hp.store ak.rat 28 ([]:List (List Rat))),(2000010,Hp.cg ak.rat 68 4000010 ([])),(4000010,Hp.store ak.rat 28 s.2)]) hl14 (.of rfl) (.of rfl) rfl rfl ?_);rintro⟨v11,v12⟩ st15 hb16;have h:ic a1 a2 v11 v12=some st15:=hb16;unfold ic at h
    try dsimp only
    refine .al (.cm rfl rfl rfl<|.nil) rfl ?_;refine .sq ?_;by_cases c17:(decide (v11<(a1.length:Int)))=true
    ·replace h:=ab c17 h;refine .cq rfl c17 ?_;refine .skip (Ok.on ?_);refine .sq ?_;refine .block ?_;obtain⟨v18,e19,h⟩:=bind_some h;refine .al (.mv rfl<|.kX rfl rfl aC (ag e19).1 (ag e19).2<|.iJ rfl aH<|.ao rfl<|.ao rfl<|.nil) rfl ?_;refine .l4 10 rfl rfl rfl ?_;obtain⟨v20,e21,h⟩:=bind_some h;obtain⟨v22,e23,h⟩:=bind_some h;obtain⟨k24,h⟩:=ax h;obtain⟨k25,h⟩:=ax h;refine .de cn (.mv rfl<|.mv rfl<|.Av (hl:=dN _ _) (yr e21) ⟨rfl,trivial⟩ rfl<|.mv rfl<|.mv rfl<|.kX rfl rfl aT (ag e23).1 (ag e23).2<|.zU (l:=qC (v22)) rfl aa rfl<|.yO (e:=ak.rat) [v22] [(0,_,qD v22,qC (v22))] bM rfl rfl rfl ⟨rfl,rfl,.agg _,rfl,trivial⟩ ⟨rfl,trivial⟩ rfl rfl<|.xi (ys:=[v22]) rfl (.refl _) rfl (.refl _) rfl bM rfl k24.1 k24.2 rfl<|.Ja rfl bX rfl<|.Jb (s2:=3000051) rfl .sl rfl rfl rfl rfl rfl bX k25.1 k25.2 rfl rfl ⟨by decide,by decide,by decide,by decide,by decide,by decide,by decide⟩<|.ao rfl<|.nil) rfl (by kernel_rfl) (Ok.on ?_);refine .region (.ar rfl rfl rfl<|.mv rfl<|.nil) rfl (fun _ _ hs=>⟨((IntKind.i64.wrap (v11+1)),(v12++[(v20++[v22])])),(sj h),hs.l7 (fun r=>match r with|2000010=>51|4000010=>3000051|r=>r) (.r rfl rfl<|.p rfl (.own (r:=2000005))<|.r rfl rfl<|.p rfl (.own (r:=2000010))<|.r rfl rfl<|.r rfl rfl<|.r rfl rfl<|trivial) (.p rfl (.cg (s:=4000005))<|.r rfl rfl<|.p rfl (.cg (s:=4000010))<|.r rfl rfl<|trivial) rfl rfl rfl⟩)
    ·replace h:=ae c17 h;refine .cA rfl c17 ?_;refine .exit (fun a w hs=>⟨_,(sj h),fun e=>by subst e;have h:=ho2;exact aZ (⟨v12,(sj h),hs.sub (.of rfl) (.of rfl) rfl rfl⟩)⟩)
   ·rintro _ rfl
    try dsimp only
    refine .l4 10 rfl rfl rfl ?_;obtain⟨⟨v28,v29⟩,e30,h⟩:=bind_some h;refine .al (.mv rfl<|.ah (Hi:=[(2000010,Hp.cg ak.rat 68 4000010 ([])),(4000010,Hp.store ak.rat 28 v27)]) (Ho:=[(2000010,Hp.cg ak.rat 68 3000054 ([])),(3000054,Hp.store ak.rat 28 v28),(4000010,Hp.dead)]) (d:=an (ak.int .i64) v29) (ds:=[D.sl 2000010 v27.length]) (.B5 (m7 e30) (fun r=>match r with|0=>2000010|400=>4000010|700=>3000054|r=>r) (fun r=>match r with|2000010=>0|4000010=>400|3000054=>700|r=>r) rfl (.p rfl (.cg (s:=400))<|.r rfl rfl<|trivial) rfl ⟨.GD (r:=0),trivial⟩ (.p rfl (.cg (s:=3000054))<|.r rfl rfl<|.r rfl rfl<|trivial) rfl (.refl rfl) rfl rfl rfl rfl rfl) ⟨rfl,trivial⟩ ⟨rfl,rfl,trivial⟩ ⟨rfl,trivial⟩<|.ao rfl<|.nil) rfl ?_;refine .sq ?_;obtain⟨v31,e32,h⟩:=bind_some h;refine .al (.mv rfl<|.mv rfl<|.ah (n6 e32) ⟨rfl,rfl,trivial⟩ trivial trivial<|.nil) rfl ?_;by_cases c33:v31=true
    ·replace h:=ab c33 h;refine .cq rfl c33 ?_;refine .al (.ao rfl<|.ao rfl<|.ao rfl<|.nil) rfl ?_;cases h;refine .aN (fun _ _ hb=>hb) rfl (.cons (.tmp rfl) (.cons (.tmp rfl) (.t1 (.tmp rfl)))) (.gV ⟨.gT _,.gT _,.refl _,trivial⟩) trivial trivial
    ·replace h:=ae c33 h;refine .cA rfl c33 ?_;refine .skip (Ok.on ?_);obtain⟨k34,h⟩:=ax h;refine .al (.mv rfl<|.Ip (e:=ak.rat) 0 rfl rfl bM rfl ⟨k8,k_,kZ,trivial⟩ k34.1 k34.2.1 k34.2.2 rfl<|.ao rfl<|.nil) rfl ?_;obtain⟨v53,hp36,h⟩:=bind_some h;refine .cz (fun i=>v53=i) (fun(i:(List Rat))=>[(4,D.own 59),(5,D.own 2000005),(8,D.int .i64 v4),(10,D.own 2000010),(13,an (ak.int .i64) v29)]) (fun(i:(List Rat))=>[(59,aR ak.rat 28 i),(2000005,Hp.cg ak.rat 68 4000005 ([])),(4000005,Hp.store ak.rat 28 ([]:List (List Rat))),(2000010,Hp.cg ak.rat 68 3000054 ([])),(3000054,Hp.store ak.rat 28 v28)]) ?_ ?_
     ·have ho1:=h;have h:=hp36;refine .al (.mv rfl<|.fU rfl bI<|.mv rfl<|.nil) rfl ?_;obtain⟨o39,hl40,h⟩:=bind_some h;have ho2:=h;refine .block (.cc (fun(s:Int×(List Rat))=>[(4,D.own 59),(5,D.own 2000005),(8,D.int .i64 v4),(10,D.own 2000010),(13,an (ak.int .i64) v29),(60,an (ak.int .i64) v29),(61,D.int .i64 (v29.length:Int)),(62,D.int .i64 s.1)]) (fun(s:Int×(List Rat))=>[(59,aR ak.rat 28 s.2),(2000005,Hp.cg ak.rat 68 4000005 ([])),(4000005,Hp.store ak.rat 28 ([]:List (List Rat))),(2000010,Hp.cg ak.rat 68 3000054 ([])),(3000054,Hp.store ak.rat 28 v28)]) hl40 (.k rfl<|.k rfl<|.k rfl<|.p rfl .sl<|.k rfl<|.k rfl<|.k rfl<|.k rfl<|trivial) (.of rfl) rfl rfl ?_);rintro⟨v37,v38⟩ st41 hb42;have h:ig v4 v28 v29 v37 v38=some st41:=hb42;unfold ig at h
      try dsimp only
      refine .al (.cm rfl rfl rfl<|.nil) rfl ?_;refine .sq ?_;by_cases c43:(decide (v37<(v29.length:Int)))=true
      ·replace h:=ab c43 h;refine .cq rfl c43 ?_;refine .skip (Ok.on ?_);refine .sq ?_;refine .block ?_;obtain⟨v44,e45,h⟩:=bind_some h;refine .al (.mv rfl<|.kX rfl rfl dI (ag e45).1 (ag e45).2<|.iJ rfl dw<|.ao rfl<|.ao rfl<|.nil) rfl ?_;refine .sl 4 rfl rfl rfl ?_;refine .l4 10 rfl rfl rfl ?_;obtain⟨v46,e47,h⟩:=bind_some h;obtain⟨v48,e49,h⟩:=bind_some h;obtain⟨v50,e51,h⟩:=bind_some h;refine .region (.mv rfl<|.mv rfl<|.mv rfl<|.mv rfl<|.pF rfl rfl aC (ag e47).1 (by have:=jh e47;simpa using this)<|.sE (cO e47) rfl rfl rfl rfl aH<|.mv rfl<|.xj rfl rfl rfl (ag e47).2 aT (ag e49).1 (jh e49) rfl<|.qq rfl rfl (ag e47).2 (ag e49).2 aa rfl rfl<|.pF rfl rfl aT (ag e51).1 (by have:=jh e51;simpa using this)<|.Hm v48 rfl rfl rfl aa rfl rfl rfl (cO e51)<|.nil) rfl (Ok.on ?_);refine .region (.ar rfl rfl rfl<|.mv rfl<|.nil) rfl (fun _ _ hs=>⟨((IntKind.i64.wrap (v37+1)),(v38.set v44.toNat v48)),(sj h),hs.sub (.p rfl .sl<|.k rfl<|.k rfl<|.p rfl .sl<|.k rfl<|.k rfl<|.k rfl<|.k rfl<|trivial) (.of rfl) rfl rfl⟩)
      ·replace h:=ae c43 h;refine .cA rfl c43 ?_;refine .exit (fun a w hs=>⟨_,(sj h),fun e=>by subst e;have h:=ho2;exact aZ (⟨v38,(sj h),hs.sub (.of rfl) (.of rfl) rfl rfl⟩)⟩)
     ·rintro _ rfl
      try dsimp only
      obtain⟨v97,hp55,h⟩:=bind_some h;refine .cz (fun i=>v97=i) (fun(i:(List (List Rat)))=>[(4,D.own 59),(5,D.own 2000005)]) (fun(i:(List (List Rat)))=>[(59,aR ak.rat 28 v53),(2000005,Hp.cg ak.rat 68 4000005 ([])),(4000005,Hp.store ak.rat 28 i)]) ?_ ?_
      ·have ho1:=h;have h:=hp55;refine .al (.mv rfl<|.mv rfl<|.nil) rfl ?_;obtain⟨o58,hl59,h⟩:=bind_some h;have ho2:=h;refine .block (.cc (fun(s:Int×(List (List Rat)))=>[(4,D.own 59),(5,D.own 2000005),(8,D.int .i64 v4),(10,D.own 2000010),(13,an (ak.int .i64) v29),(78,D.int .i64 v4),(79,D.int .i64 s.1)]) (fun(s:Int×(List (List Rat)))=>[(59,aR ak.rat 28 v53),(2000005,Hp.cg ak.rat 68 4000005 ([])),(4000005,Hp.store ak.rat 28 s.2),(2000010,Hp.cg ak.rat 68 3000054 ([])),(3000054,Hp.store ak.rat 28 v28)]) hl59 (.of rfl) (.of rfl) rfl rfl ?_);rintro⟨v56,v57⟩ st60 hb61;have h:gC v4 v28 v29 v56 v57=some st60:=hb61;unfold gC at h
       try dsimp only
       refine .al (.cm rfl rfl rfl<|.nil) rfl ?_;refine .sq ?_;by_cases c62:(decide (v56<v4))=true
       ·replace h:=ab c62 h;refine .cq rfl c62 ?_;refine .skip (Ok.on ?_);obtain⟨v95,hp64,h⟩:=bind_some h;refine .cz (fun i=>v95=i) (fun(i:(List (List Rat)))=>[(4,D.own 59),(5,D.own 2000005),(8,D.int .i64 v4),(10,D.own 2000010),(13,an (ak.int .i64) v29),(78,D.int .i64 v4),(79,D.int .i64 v56)]) (fun(i:(List (List Rat)))=>[(59,aR ak.rat 28 v53),(2000005,Hp.cg ak.rat 68 4000005 ([])),(4000005,Hp.store ak.rat 28 i),(2000010,Hp.cg ak.rat 68 3000054 ([])),(3000054,Hp.store ak.rat 28 v28)]) ?_ ?_
        ·have ho3:=h;have h:=hp64;refine .block ?_;refine .al (.mv rfl<|.ao rfl<|.nil) rfl ?_;refine .sq ?_;obtain⟨v65,e66,h⟩:=bind_some h;refine .al (.mv rfl<|.mv rfl<|.ah (n6 e66) ⟨rfl,rfl,trivial⟩ trivial trivial<|.nil) rfl ?_;by_cases c67:v65=true
         ·replace h:=ab c67 h;refine .cq rfl c67 ?_;refine .exit (fun _ _ hs=>⟨v57,(sj h),hs.sub (.of rfl) (.of rfl) rfl rfl⟩)
         ·replace h:=ae c67 h;refine .cA rfl c67 ?_;refine .skip (Ok.on ?_);obtain⟨k68,h⟩:=ax h;refine .al (.mv rfl<|.Ip (e:=ak.rat) 0 rfl rfl bM rfl ⟨k8,k_,kZ,trivial⟩ k68.1 k68.2.1 k68.2.2 rfl<|.ao rfl<|.nil) rfl ?_;refine .sl 17 rfl rfl rfl ?_;obtain⟨v69,e70,h⟩:=bind_some h;obtain⟨v71,e72,h⟩:=bind_some h;refine .al (.mv rfl<|.mv rfl<|.ah (i5 e70) ⟨rfl,trivial⟩ trivial trivial<|.pF rfl rfl aT (ag e72).1 (by have:=jh e72;simpa using this)<|.Hm v69 rfl rfl rfl aa rfl rfl rfl (cO e72)<|.nil) rfl ?_;obtain⟨v93,hp74,h⟩:=bind_some h;refine .cz (fun i=>v93=i) (fun(i:(List Rat))=>[(4,D.own 59),(5,D.own 2000005),(8,D.int .i64 v4),(10,D.own 2000010),(13,an (ak.int .i64) v29),(17,D.own 86),(78,D.int .i64 v4),(79,D.int .i64 v56)]) (fun(i:(List Rat))=>[(59,aR ak.rat 28 v53),(2000005,Hp.cg ak.rat 68 4000005 ([])),(4000005,Hp.store ak.rat 28 v57),(2000010,Hp.cg ak.rat 68 3000054 ([])),(3000054,Hp.store ak.rat 28 v28),(86,aR ak.rat 28 i)]) ?_ ?_
          ·have ho4:=h;have h:=hp74;refine .al (.mv rfl<|.fU rfl bI<|.mv rfl<|.nil) rfl ?_;obtain⟨o77,hl78,h⟩:=bind_some h;have ho5:=h;refine .block (.cc (fun(s:Int×(List Rat))=>[(4,D.own 59),(5,D.own 2000005),(8,D.int .i64 v4),(10,D.own 2000010),(13,an (ak.int .i64) v29),(16,D.int .i64 v56),(17,D.own 86),(78,D.int .i64 v4),(79,D.int .i64 v56),(91,an (ak.int .i64) v29),(92,D.int .i64 (v29.length:Int)),(93,D.int .i64 s.1)]) (fun(s:Int×(List Rat))=>[(59,aR ak.rat 28 v53),(2000005,Hp.cg ak.rat 68 4000005 ([])),(4000005,Hp.store ak.rat 28 v57),(2000010,Hp.cg ak.rat 68 3000054 ([])),(3000054,Hp.store ak.rat 28 v28),(86,aR ak.rat 28 s.2)]) hl78 (.k rfl<|.k rfl<|.k rfl<|.k rfl<|.k rfl<|.k rfl<|.p rfl .sl<|.k rfl<|.k rfl<|.k rfl<|.k rfl<|.k rfl<|trivial) (.of rfl) rfl rfl ?_);rintro⟨v75,v76⟩ st79 hb80;have h:ir v28 v29 v56 v75 v76=some st79:=hb80;unfold ir at h
           try dsimp only
           refine .al (.cm rfl rfl rfl<|.nil) rfl ?_;refine .sq ?_;by_cases c81:(decide (v75<(v29.length:Int)))=true
           ·replace h:=ab c81 h;refine .cq rfl c81 ?_;refine .skip (Ok.on ?_);refine .sq ?_;refine .block ?_;obtain⟨v82,e83,h⟩:=bind_some h;refine .al (.mv rfl<|.kX rfl rfl dI (ag e83).1 (ag e83).2<|.iJ rfl dw<|.ao rfl<|.ao rfl<|.nil) rfl ?_;refine .l4 10 rfl rfl rfl ?_;refine .sl 17 rfl rfl rfl ?_;obtain⟨v84,e85,h⟩:=bind_some h;obtain⟨v86,e87,h⟩:=bind_some h;obtain⟨v88,e89,h⟩:=bind_some h;obtain⟨v90,e91,h⟩:=bind_some h;refine .region (.mv rfl<|.mv rfl<|.mv rfl<|.mv rfl<|.pF rfl rfl aC (ag e85).1 (by have:=jh e85;simpa using this)<|.sE (cO e85) rfl rfl rfl rfl aH<|.mv rfl<|.xj rfl rfl rfl (ag e85).2 aT (ag e87).1 (jh e87) rfl<|.qq rfl rfl (ag e85).2 (ag e87).2 aa rfl rfl<|.ah (F8 e89) ⟨rfl,trivial⟩ trivial trivial<|.pF rfl rfl aT (ag e91).1 (by have:=jh e91;simpa using this)<|.Hm v88 rfl rfl rfl aa rfl rfl rfl (cO e91)<|.nil) rfl (Ok.on ?_);refine .region (.ar rfl rfl rfl<|.mv rfl<|.nil) rfl (fun _ _ hs=>⟨((IntKind.i64.wrap (v75+1)),(v76.set v82.toNat v88)),(sj h),hs.sub (.k rfl<|.k rfl<|.k rfl<|.p rfl .sl<|.k rfl<|.k rfl<|.p rfl .sl<|.k rfl<|.k rfl<|.k rfl<|.k rfl<|.k rfl<|trivial) (.of rfl) rfl rfl⟩)
           ·replace h:=ae c81 h;refine .cA rfl c81 ?_;refine .exit (fun a w hs=>⟨_,(sj h),fun e=>by subst e;have h:=ho5;exact aZ (⟨v76,(sj h),hs.sub (.of rfl) (.of rfl) rfl rfl⟩)⟩)
          ·rintro _ rfl
           try dsimp only
           refine .l4 5 rfl rfl rfl ?_;refine .sl 17 rfl rfl rfl ?_;refine .uF 17 (.own 86) rfl .sl ?_;obtain⟨k94,h⟩:=ax h;refine .region (.mv rfl<|.mv rfl<|.Ja rfl bX rfl<|.Jb (s2:=3000113) rfl .sl rfl rfl rfl rfl rfl bX k94.1 k94.2 rfl rfl ⟨by decide,by decide,by decide,by decide,by decide,by decide,by decide⟩<|.ao rfl<|.nil) rfl (fun _ _ hs=>⟨(v57++[v93]),(sj h),hs.l7 (fun r=>match r with|2000005=>113|4000005=>3000113|r=>r) (.p rfl (.own (r:=59))<|.p rfl (.own (r:=2000005))<|.r rfl rfl<|.p rfl (.own (r:=2000010))<|.r rfl rfl<|.r rfl rfl<|.r rfl rfl<|trivial) (.r rfl rfl<|.p rfl (.cg (s:=4000005))<|.r rfl rfl<|.p rfl (.cg (s:=3000054))<|.r rfl rfl<|trivial) rfl rfl rfl⟩)
        ·rintro _ rfl
         try dsimp only
         refine .region (.ar rfl rfl rfl<|.mv rfl<|.nil) rfl (fun _ _ hs=>⟨((IntKind.i64.wrap (v56+1)),v95),(sj h),hs.sub (.of rfl) (.of rfl) rfl rfl⟩)
       ·replace h:=ae c62 h;refine .cA rfl c62 ?_;refine .exit (fun a w hs=>⟨_,(sj h),fun e=>by subst e;have h:=ho2;exact aZ (⟨v57,(sj h),hs.sub (.of rfl) (.of rfl) rfl rfl⟩)⟩)
      ·rintro _ rfl
       try dsimp only
       refine .sl 4 rfl rfl rfl ?_;refine .l4 5 rfl rfl rfl ?_;refine .al (.mv rfl<|.mv rfl<|.ao rfl<|.ao rfl<|.ao rfl<|.nil) rfl ?_;refine .uF 4 (.own 59) rfl .sl ?_;refine .j9 4 rfl rfl rfl ?_;refine .uF 5 (.own 2000005) rfl .sl ?_;refine .CB 5 rfl rfl rfl rfl rfl ?_;cases h;refine .aN (fun _ _ hb=>hb) rfl (.cons (.tmp rfl) (.cons (.tmp rfl) (.t1 (.tmp rfl)))) (.refl _) trivial trivial
end
end Go.Am
namespace Go.Am
theorem tv{σ ρ:Type}{body:Int×σ->Option (St (Int×σ) ρ)}(a n:Nat)(F:Nat->σ)(r:ρ)(ha:a<=n)(hb:∀i,a<=i->i<n->body ((i:Int),F i)=some (.next (((i+1:Nat):Int),F (i+1))))(he:body ((n:Int),F n)=some (.done r)):Loop body ((a:Int),F a)=some r:=by
 obtain⟨r',hr,rfl⟩:=bZ (body:=body) ((a:Int),F a) (fun s=>∃i:Nat,a<=i/\i<=n/\s=((i:Int),F i)) (fun s=>(n-s.1).toNat) (fun r'=>r'=r) ⟨a,Nat.le_refl _,ha,rfl⟩ (by
  rintro s ⟨i,hai,hi,rfl⟩;by_cases hlt:i<n
  ·left
   exact⟨_,hb i hai hlt,⟨i+1,by omega,hlt,rfl⟩,by simp only;omega⟩
  ·right
   have:i=n:=by omega
   subst this;exact⟨_,he,rfl⟩)
 exact hr
def ld(f:Nat->Nat->Rat)(B:Nat):Prop:=∀i j,sz (f i j)<=B
theorem rH{n m:Nat}{f:Nat->Nat->Rat}{a:Nat}{g:Nat->Rat}:(ay n m f).set a ((List.range m).map g)=ay n m (fun i j=>if i=a then g j else f i j):=by
 apply List.ext_getElem
 ·simp[ay]
 ·intro i h1 h2;by_cases ha:i=a
  ·subst ha;rw[List.getElem_set_self];simp[ay]
  ·rw[List.getElem_set_ne (Ne.symm ha)];simp[ay,ha]
def aY(f:Nat->Nat->Rat)(a b:Nat)(i j:Nat):Rat:=if i=b then f a j else if i=a then f b j else f i j
theorem oE{n m:Nat}{f:Nat->Nat->Rat}{a b:Nat}:((ay n m f).set ((a:Int).toNat) ((List.range m).map (f b))).set ((b:Int).toNat) ((List.range m).map (f a))=ay n m (aY f a b):=by
 rw[Int.toNat_natCast,Int.toNat_natCast,rH,rH]
 rfl
variable {n m:Nat} {f:Nat->Nat->Rat} {B:Nat}
theorem tC{row k:Nat}{c:Rat}(hrow:row<n)(hk:k<=m)(hm:m<=30)(hf:ld f B)(hc:sz c<=B)(hB:B<=1000000000):
  Loop (fun(s:Int×(List (List Rat)))=>di (row:Int) (m:Int) c s.1 s.2) ((k:Int),ay n m f)=some (ay n m (fun i j=>if i=row/\k<=j then f row j*c else f i j)):=by
 have hL:=tv (body:=fun(s:Int×(List (List Rat)))=>di (row:Int) (m:Int) c s.1 s.2) k m (fun q=>ay n m (fun i j=>if i=row/\k<=j/\j<q then f row j*c else f i j)) (ay n m (fun i j=>if i=row/\k<=j/\j<m then f row j*c else f i j)) hk (fun q hkq hq=>by
   unfold di;rw[if_pos (decide_eq_true (by omega)),cj hrow,Option.bind_some,Option.bind_some,eO hq,Option.bind_some];rw[if_neg (by omega)];have h1:=hf row q;rw[jL (show dv (f row q)from by unfold dv;omega) (show dv c from by unfold dv;omega),Option.bind_some,Option.bind_some,yv,ct hq (by omega)];rw[dk (g:=fun i j=>if i=row/\k<=j/\j<q+1 then f row j*c else f i j) (fun i j _ _=>by
    by_cases e1:i=row/\j=q
    ·rw[if_pos e1,if_pos (by omega),e1.2]
    ·rw[if_neg e1];by_cases e2:i=row/\k<=j/\j<q
     ·rw[if_pos e2,if_pos (by omega)]
     ·rw[if_neg e2,if_neg (by omega)])]) (by
   unfold di;rw[if_neg (by simp)])
 have e0:ay n m f=ay n m (fun i j=>if i=row/\k<=j/\j<k then f row j*c else f i j):=dk (fun i j _ _=>by rw[if_neg (by omega)]);rw[e0];rw[hL];rw[dk (g:=fun i j=>if i=row/\k<=j then f row j*c else f i j) (fun i j _ hj=>by
  by_cases e2:i=row/\k<=j
  ·rw[if_pos e2,if_pos (by omega)]
  ·rw[if_neg e2,if_neg (by omega)])]
theorem xk{row i0 k:Nat}{c:Rat}(hrow:row<n)(hi:i0<n)(hne:i0≠row)(hk:k<=m)(hm:m<=30)(hf:ld f B)(hc:sz c<=B)(hB:B<=1000000000):
  Loop (fun(s:Int×(List (List Rat)))=>cB (row:Int) (m:Int) (i0:Int) c s.1 s.2) ((k:Int),ay n m f)=some (ay n m (fun i j=>if i=i0/\k<=j then f i0 j-c*f row j else f i j)):=by
 have hL:=tv (body:=fun(s:Int×(List (List Rat)))=>cB (row:Int) (m:Int) (i0:Int) c s.1 s.2) k m (fun q=>ay n m (fun i j=>if i=i0/\k<=j/\j<q then f i0 j-c*f row j else f i j)) (ay n m (fun i j=>if i=i0/\k<=j/\j<m then f i0 j-c*f row j else f i j)) hk (fun q hkq hq=>by
   unfold cB;rw[if_pos (decide_eq_true (by omega)),cj hi,Option.bind_some,Option.bind_some,eO hq,Option.bind_some,cj hrow,Option.bind_some,eO hq,Option.bind_some];rw[if_neg (by omega),if_neg (by omega)];have h1:=hf row q;have h2:=hf i0 q;have h3:=gQ c (f row q);rw[jL (show dv c from by unfold dv;omega) (show dv (f row q)from by unfold dv;omega),Option.bind_some,Di (show dv (f i0 q)from by unfold dv;omega) (show dv (c*f row q)from by unfold dv;omega),Option.bind_some,Option.bind_some,yv,ct hq (by omega)];rw[dk (g:=fun i j=>if i=i0/\k<=j/\j<q+1 then f i0 j-c*f row j else f i j) (fun i j _ _=>by
    by_cases e1:i=i0/\j=q
    ·rw[if_pos e1,if_pos (by omega),e1.2]
    ·rw[if_neg e1];by_cases e2:i=i0/\k<=j/\j<q
     ·rw[if_pos e2,if_pos (by omega)]
     ·rw[if_neg e2,if_neg (by omega)])]) (by
   unfold cB;rw[if_neg (by simp)])
 have e0:ay n m f=ay n m (fun i j=>if i=i0/\k<=j/\j<k then f i0 j-c*f row j else f i j):=dk (fun i j _ _=>by rw[if_neg (by omega)]);rw[e0];rw[hL];rw[dk (g:=fun i j=>if i=i0/\k<=j then f i0 j-c*f row j else f i j) (fun i j _ hj=>by
  by_cases e2:i=i0/\k<=j
  ·rw[if_pos e2,if_pos (by omega)]
  ·rw[if_neg e2,if_neg (by omega)])]
def ft(f:Nat->Nat->Rat)(row k k0:Nat)(i j:Nat):Rat:=if i≠row/\f i k≠0/\k0<=j then f i j-f i k*f row j else f i j
theorem wv{x:Rat}:(Be x !=0)=true↔x≠0:=by rw[bne_iff_ne,Ne,mP]
theorem AZ{row k k0 j:Nat}:ft f row k k0 row j=f row j:=by unfold ft;rw[if_neg (by omega)]
def fO(f:Nat->Nat->Rat)(row k k0 i i' j:Nat):Rat:=if i'<i then ft f row k k0 i' j else f i' j
theorem A1{row k k0 i j:Nat}:fO f row k k0 i row j=f row j:=by unfold fO;split;exact AZ;rfl
theorem pn{row k k0 i j:Nat}:fO f row k k0 i i j=f i j:=by unfold fO;rw[if_neg (by omega)]
theorem ye{row k k0:Nat}(hf:ld f B):ld (ft f row k k0) (3*B+1):=by
 intro i' j;have a1:=hf i' j;unfold ft
 split
 ·have b1:=rz (f i' j) (f i' k*f row j);have b2:=gQ (f i' k) (f row j);have b3:=hf i' k;have b4:=hf row j;omega
 ·omega
theorem Ch{row k k0 i:Nat}(hf:ld f B):ld (fO f row k k0 i) (3*B+1):=by
 intro i' j;have a1:=hf i' j;have a2:=ye (row:=row) (k:=k) (k0:=k0) hf i' j;unfold fO
 split<;>omega
theorem m8{row k k0 i:Nat}(h:i=row\/f i k=0):ay n m (fO f row k k0 i)=ay n m (fO f row k k0 (i+1)):=dk (fun i' j _ _=>by
 unfold fO;by_cases e:i'<i
 ·rw[if_pos e,if_pos (by omega)]
 ·rw[if_neg e];by_cases e2:i'=i
  ·subst e2;rw[if_pos (by omega)];unfold ft;rw[if_neg (by
    rintro⟨h1,h2,_⟩;rcases h with h|h
    ·exact h1 h
    ·exact h2 h)]
  ·rw[if_neg (by omega)])
theorem vh{row k k0 i:Nat}(hrow:row<n)(hi:i<n)(hk0:k0<=m)(hm:m<=30)(hf:ld f B)(hB:3*B+1<=1000000000)(h1:i≠row)(h2:f i k≠0):
  Loop (fun(s:Int×(List (List Rat)))=>cB (row:Int) (m:Int) (i:Int) (f i k) s.1 s.2) ((k0:Int),ay n m (fO f row k k0 i))=some (ay n m (fO f row k k0 (i+1))):=by
 rw[xk hrow hi h1 hk0 hm (Ch hf) (Nat.le_trans (hf i k) (by omega)) hB];rw[dk (g:=fO f row k k0 (i+1)) (fun i' j _ _=>by
  rw[A1,pn];unfold fO;by_cases e:i'=i/\k0<=j
  ·rw[if_pos e,e.1,if_pos (by omega)];unfold ft;rw[if_pos ⟨h1,h2,e.2⟩]
  ·rw[if_neg e];by_cases e2:i'<i
   ·rw[if_pos e2,if_pos (by omega)]
   ·rw[if_neg e2];by_cases e3:i'=i
    ·subst e3;rw[if_pos (by omega)];unfold ft;rw[if_neg (by omega)]
    ·rw[if_neg (by omega)])]
theorem vF{row k k0:Nat}:ay n m (fO f row k k0 n)=ay n m (ft f row k k0):=dk (fun i' j h _=>by unfold fO;rw[if_pos h])
theorem elim_none{row k k0:Nat}:ay n m f=ay n m (fO f row k k0 0):=dk (fun i' j h _=>by unfold fO;rw[if_neg (by omega)])
theorem Hn{row k:Nat}{M0:List (List Rat)}(hM:M0.length=n)(hrow:row<n)(hk:k<m)(hm:m<=30)(hn:n<=30)(hf:ld f B)(hB:3*B+1<=1000000000):
  Loop (fun(s:Int×(List (List Rat)))=>cP (row:Int) (k:Int) (m:Int) M0 s.1 s.2) (0,ay n m f)=some (ay n m (ft f row k k)):=by
 have hL:=dG (body:=fun(s:Int×(List (List Rat)))=>cP (row:Int) (k:Int) (m:Int) M0 s.1 s.2) n (fun i=>ay n m (fO f row k k i)) (ay n m (fO f row k k n)) (fun i hi=>by
   unfold cP;rw[hM,if_pos (decide_eq_true (by omega)),cj hi,Option.bind_some,eO hk,Option.bind_some,pn];by_cases h1:i=row
   ·rw[if_neg (by simp[h1]),Option.bind_some,ct hi (by omega),m8 (.inl h1)]
   ·rw[if_pos (by simp;omega),fm,Option.bind_some];by_cases h2:f i k=0
    ·rw[if_neg (by rw[wv];exact fun h=>h h2),Option.bind_some,ct hi (by omega),m8 (.inr h2)]
    ·rw[if_pos (wv.2 h2),vh hrow hi (by omega) hm hf hB h1 h2,Option.bind_some,Option.bind_some,ct hi (by omega)]) (by
   unfold cP;rw[hM,if_neg (by simp)])
 rw[elim_none (row:=row) (k:=k) (k0:=k)];have:Loop (fun(s:Int×(List (List Rat)))=>cP (row:Int) (k:Int) (m:Int) M0 s.1 s.2) (0,ay n m (fO f row k k 0))=_:=hL;rw[this,vF]
theorem G_{bY:List Int}{k:Nat}(hrow:bY.length<n)(hk:k<m)(hm:m<=30)(hn:n<=30)(hf:ld f B)(hB:3*B+1<=1000000000):
  Loop (fun(s:Int×(List (List Rat)))=>iB (m:Int) (k:Int) bY s.1 s.2) (0,ay n m f)=some (ay n m (ft f bY.length k 0)):=by
 have hL:=dG (body:=fun(s:Int×(List (List Rat)))=>iB (m:Int) (k:Int) bY s.1 s.2) n (fun i=>ay n m (fO f bY.length k 0 i)) (ay n m (fO f bY.length k 0 n)) (fun i hi=>by
   unfold iB;rw[aI,if_pos (decide_eq_true (by omega)),cj hi,Option.bind_some,eO hk,Option.bind_some,pn];by_cases h1:i=bY.length
   ·rw[if_pos (by simp[h1]),Option.bind_some,ct hi (by omega),m8 (.inl h1)]
   ·rw[if_neg (by simp;omega),fm,Option.bind_some];by_cases h2:f i k=0
    ·rw[if_pos (by rw[beq_iff_eq,mP];exact h2),Option.bind_some,ct hi (by omega),m8 (.inr h2)]
    ·rw[if_neg (by rw[beq_iff_eq,mP];exact h2)];have:=vh (row:=bY.length) (k:=k) (k0:=0) hrow hi (Nat.zero_le _) hm hf hB h1 h2;have e:Loop (fun(s:Int×(List (List Rat)))=>rU (m:Int) bY (i:Int) (f i k) s.1 s.2) (0,ay n m (fO f bY.length k 0 i))=some (ay n m (fO f bY.length k 0 (i+1))):=this;rw[e,Option.bind_some,Option.bind_some,ct hi (by omega)]) (by
   unfold iB;rw[aI,if_neg (by simp)])
 rw[elim_none (row:=bY.length) (k:=k) (k0:=0)];have:Loop (fun(s:Int×(List (List Rat)))=>iB (m:Int) (k:Int) bY s.1 s.2) (0,ay n m (fO f bY.length k 0 0))=_:=hL;rw[this,vF]
end Go.Am
namespace Go.Am
variable {n m:Nat} {f:Nat->Nat->Rat} {B:Nat}
def cX(f:Nat->Nat->Rat)(k n i:Nat):Nat:=if i<n then(if f i k=0 then cX f k n (i+1)else i)else i
termination_by n-i
theorem sY{k:Nat}:∀d i,n-i=d->i<=cX f k n i
 |0,i,h=>by unfold cX;rw[if_neg (by omega)];omega
 |d+1,i,h=>by
  unfold cX
  split
  ·split
   ·have:=sY (k:=k) d (i+1) (by omega);omega
   ·omega
  ·omega
theorem pY{k:Nat}:∀d i,n-i=d->cX f k n i<n->f (cX f k n i) k≠0
 |0,i,h,hl=>by
  unfold cX at hl|-;rw[if_neg (by omega)]at hl;omega
 |d+1,i,h,hl=>by
  unfold cX at hl|-;by_cases h1:i<n
  ·rw[if_pos h1]at hl|-;by_cases h2:f i k=0
   ·rw[if_pos h2]at hl|-;exact pY d (i+1) (by omega) hl
   ·rw[if_neg h2];exact h2
  ·omega
theorem oN{k:Nat}:∀d i,n-i=d->¬cX f k n i<n->∀j,i<=j->j<n->f j k=0
 |0,i,h,_,j,h1,h2=>by omega
 |d+1,i,h,hl,j,h1,h2=>by
  unfold cX at hl;rw[if_pos (by omega)]at hl;by_cases h3:f i k=0
  ·rw[if_pos h3]at hl;by_cases e:j=i
   ·subst e;exact h3
   ·exact oN d (i+1) (by omega) hl j (by omega) h2
  ·rw[if_neg h3]at hl;omega
theorem tk{k:Nat}:∀d i,n-i=d->i<=n->cX f k n i<=n
 |0,i,h,hi=>by unfold cX;rw[if_neg (by omega)];omega
 |d+1,i,h,hi=>by
  unfold cX
  split
  ·split
   ·exact tk d (i+1) (by omega) (by omega)
   ·omega
  ·omega
def cu(f:Nat->Nat->Rat)(row:Nat)(c:Rat)(k0 i j:Nat):Rat:=if i=row/\k0<=j then f row j*c else f i j
def je(f:Nat->Nat->Rat)(row k at' k0:Nat):Nat->Nat->Rat:=ft (cu (aY f row at') row (1/aY f row at' row k) k0) row k k0
theorem kI{a b:Nat}(hf:ld f B):ld (aY f a b) B:=by
 intro i j;unfold aY
 split
 ·exact hf _ _
 ·split<;>exact hf _ _
theorem qV{row k0:Nat}{c:Rat}(hf:ld f B)(hc:sz c<=B+1):ld (cu f row c k0) (2*B+1):=by
 intro i j;have:=hf i j;unfold cu
 split
 ·have h1:=gQ (f row j) c;have h2:=hf row j;omega
 ·omega
theorem zn{x:Rat}(h:sz x<=B):sz (1/x)<=B+1:=by
 have h1:=oA 1 x;have h2:sz (1:Rat)<=1:=by decide+kernel
 omega
theorem CX{row k at' k0:Nat}(hf:ld f B):ld (je f row k at' k0) (6*B+4):=by
 have h1:=kI (a:=row) (b:=at') hf;have h2:=ye (row:=row) (k:=k) (k0:=k0) (qV (row:=row) (k0:=k0) h1 (zn (h1 row k)));intro i j;have:=h2 i j;unfold je;omega
theorem n5:fh 1=some 1:=HW
theorem jn{k i:Nat}(h:i<n):cX f k n i=if f i k=0 then cX f k n (i+1)else i:=by
 conv=>lhs;unfold cX
 rw[if_pos h]
theorem ko{k i:Nat}(h:¬i<n):cX f k n i=i:=by unfold cX;rw[if_neg h]
theorem za{k:Nat}(hk:k<m)(hn:n<=30):∀d i,n-i=d->i<=n->Loop (fun(s:Int)=>dK (k:Int) (ay n m f) s) (i:Int)=some ((cX f k n i:Nat):Int)
 |d,i,h,hi=>by
  by_cases hlt:i<n
  ·rw[jn hlt];have hb:dK (k:Int) (ay n m f) (i:Int)=if f i k=0 then some (.next ((i+1:Nat):Int))else some (.done (i:Int)):=by
    unfold dK;rw[aI,if_pos (decide_eq_true (by omega)),cj hlt,Option.bind_some,eO hk,Option.bind_some,fm,Option.bind_some];by_cases h0:f i k=0
    ·rw[if_pos h0,if_pos (by rw[beq_iff_eq,mP];exact h0),ct hlt (by omega)]
    ·rw[if_neg h0,if_neg (by rw[beq_iff_eq,mP];exact h0)]
   by_cases h0:f i k=0
   ·rw[if_pos h0]at hb|-;rw[eQ (body:=fun(s:Int)=>dK (k:Int) (ay n m f) s) hb]
    cases d with
    |zero=>omega
    |succ d=>exact za hk hn d (i+1) (by omega) (by omega)
   ·rw[if_neg h0]at hb|-;exact dQ (body:=fun(s:Int)=>dK (k:Int) (ay n m f) s) hb
  ·rw[ko hlt];refine dQ (body:=fun(s:Int)=>dK (k:Int) (ay n m f) s) ?_;unfold dK;rw[aI,if_neg (by rw[decide_eq_true_eq];omega)]
theorem Fj{row k:Nat}(hrow:row<n)(hk:k<m)(hm:m<=30)(hn:n<=30)(hf:ld f B)(hB:6*B+4<=1000000000)(hp:f row k≠0):
  gw (row:Int) (k:Int) (ay n m f) (m:Int)=some (ay n m (ft (cu f row (1/f row k) k) row k k)):=by
 unfold gw;have h1:=hf row k;rw[n5,Option.bind_some,cj hrow,Option.bind_some,eO hk,Option.bind_some,qP hp (show dv 1 by decide+kernel) (show dv (f row k)by unfold dv;omega),Option.bind_some];have hi:=zn h1;have hs:ld f (B+1):=fun i j=>Nat.le_trans (hf i j) (by omega);rw[tC hrow (by omega) hm hs hi (by omega),Option.bind_some,Option.bind_some];have e:(ay n m fun i j=>if i=row/\k<=j then f row j*(1/f row k)else f i j)=ay n m (cu f row (1/f row k) k):=rfl;rw[e,Hn (by rw[aI]) hrow hk hm hn (qV (k0:=k) hf hi) (by omega),Option.bind_some]
def jr(f:Nat->Nat->Rat)(n row k:Nat):Prop:=∀i j,row<=i->i<n->j<k->f i j=0
theorem qY{row k at':Nat}(hz:jr f n row k)(h1:row<=at')(h2:at'<n){i j:Nat}(hi:row<=i)(cY:i<n)(hj:j<k):aY f row at' i j=0:=by
 unfold aY
 split
 ·exact hz row j (Nat.le_refl _) (by omega) hj
 ·split
  ·exact hz at' j h1 h2 hj
  ·exact hz i j hi cY hj
theorem BC{row k at':Nat}(hz:jr f n row k)(h1:row<=at')(h2:at'<n):ay n m (je f row k at' k)=ay n m (je f row k at' 0):=dk (fun i j hi _=>by
 have z:∀j,j<k->aY f row at' row j=0:=fun j hj=>qY hz h1 h2 (Nat.le_refl _) (by omega) hj;have hs:∀i j,cu (aY f row at') row (1/aY f row at' row k) k i j=cu (aY f row at') row (1/aY f row at' row k) 0 i j:=by
  intro i j;unfold cu;by_cases e:i=row
  ·by_cases e2:k<=j
   ·rw[if_pos ⟨e,e2⟩,if_pos ⟨e,Nat.zero_le _⟩]
   ·rw[if_neg (by omega),if_pos ⟨e,Nat.zero_le _⟩,e,z j (by omega)];grind
  ·rw[if_neg (by omega),if_neg (by omega)]
 have hrow:∀j,j<k->cu (aY f row at') row (1/aY f row at' row k) 0 row j=0:=by
  intro j hj;unfold cu;rw[if_pos ⟨rfl,Nat.zero_le _⟩,z j hj];grind
 unfold je ft;rw[hs,hs,hs];by_cases e:i≠row/\cu (aY f row at') row (1/aY f row at' row k) 0 i k≠0
 ·by_cases e2:k<=j
  ·rw[if_pos ⟨e.1,e.2,e2⟩,if_pos ⟨e.1,e.2,Nat.zero_le _⟩]
  ·rw[if_neg (by omega),if_pos ⟨e.1,e.2,Nat.zero_le _⟩,hrow j (by omega)];grind
 ·rw[if_neg (fun h=>e ⟨h.1,h.2.1⟩),if_neg (fun h=>e ⟨h.1,h.2.1⟩)])
theorem zP{row k at':Nat}(hz:jr f n row k)(h1:row<=at')(h2:at'<n)(hp:f at' k≠0):jr (je f row k at' 0) n (row+1) (k+1):=by
 intro i j hi cY hj;have hne:i≠row:=by omega
 have hpp:aY f row at' row k=f at' k:=by
  unfold aY;by_cases e:row=at'
  ·rw[if_pos e,e]
  ·rw[if_neg e,if_pos rfl]
 have hrk:cu (aY f row at') row (1/aY f row at' row k) 0 row k=1:=by
  unfold cu;rw[if_pos ⟨rfl,Nat.zero_le _⟩,hpp];have:=Rat.div_mul_cancel (a:=1) hp
  grind
 have hsi:∀j,cu (aY f row at') row (1/aY f row at' row k) 0 i j=aY f row at' i j:=fun j=>by unfold cu;rw[if_neg (fun h=>hne h.1)]
 unfold je ft;rw[hsi,hsi];by_cases e:j<k
 ·have z1:aY f row at' i j=0:=qY hz h1 h2 (by omega) cY e;have z2:cu (aY f row at') row (1/aY f row at' row k) 0 row j=0:=by
   unfold cu;rw[if_pos ⟨rfl,Nat.zero_le _⟩,qY hz h1 h2 (Nat.le_refl _) (by omega) e];grind
  rw[z1,z2]
  split<;>grind
 ·have:j=k:=by omega
  subst this;rw[hrk];by_cases e3:aY f row at' i j=0
  ·rw[if_neg (fun h=>h.2.1 e3),e3]
  ·rw[if_pos ⟨hne,e3,Nat.zero_le _⟩];grind
theorem zH{row k:Nat}(hz:jr f n row k)(h:∀i,row<=i->i<n->f i k=0):jr f n row (k+1):=by
 intro i j hi cY hj;by_cases e:j<k
 ·exact hz i j hi cY e
 ·have:j=k:=by omega
  subst this;exact h i hi cY
end Go.Am
namespace Go.Am
variable {n m:Nat}
theorem Cl{f:Nat->Nat->Rat}{B:Nat}{bY:List Int}{k:Nat}(hk:k<m)(hm:m<=30)(hn:n<=30)(hrow:bY.length<n)(hf:ld f B)(hB:6*B+4<=1000000000):∀d i,n-i=d->bY.length<=i->i<=n->
  Loop (fun(s:Int)=>cl (m:Int) (k:Int) (ay n m f) bY s) (i:Int)=some (if cX f k n i<n then(ay n m (je f bY.length k (cX f k n i) k),bY++[(k:Int)])else(ay n m f,bY))
 |d,i,h,hri,hi=>by
  by_cases hlt:i<n
  ·rw[jn hlt];by_cases h0:f i k=0
   ·have hb:cl (m:Int) (k:Int) (ay n m f) bY (i:Int)=some (.next ((i+1:Nat):Int)):=by
     unfold cl;rw[aI,if_pos (decide_eq_true (by omega)),cj hlt,Option.bind_some,eO hk,Option.bind_some,fm,Option.bind_some,if_neg (by rw[wv];exact fun h=>h h0),ct hlt (by omega)]
    rw[if_pos h0,eQ (body:=fun(s:Int)=>cl (m:Int) (k:Int) (ay n m f) bY s) hb]
    cases d with
    |zero=>omega
    |succ d=>exact Cl hk hm hn hrow hf hB d (i+1) (by omega) (by omega) (by omega)
   ·rw[if_neg h0,if_pos hlt];refine dQ (body:=fun(s:Int)=>cl (m:Int) (k:Int) (ay n m f) bY s) ?_;have hp:aY f bY.length i bY.length k≠0:=by
     unfold aY;by_cases e:bY.length=i
     ·rw[if_pos e,e];exact h0
     ·rw[if_neg e,if_pos rfl];exact h0
    unfold cl;rw[aI,if_pos (decide_eq_true (by omega)),cj hlt,Option.bind_some,eO hk,Option.bind_some,fm,Option.bind_some,if_pos (wv.2 h0),Option.bind_some,cj hrow,Option.bind_some,Option.bind_some,Option.bind_some];rw[oE (a:=bY.length) (b:=i),Fj hrow hk hm hn (kI hf) hB hp,Option.bind_some,aG (by simp only[List.length_singleton];omega)]
    rfl
  ·rw[ko hlt,if_neg hlt];refine dQ (body:=fun(s:Int)=>cl (m:Int) (k:Int) (ay n m f) bY s) ?_;unfold cl;rw[aI,if_neg (by rw[decide_eq_true_eq];omega)]
structure F5(C n m:Nat)(g:Nat->Nat->Rat)(bY:List Int):Prop where
 len:bY.length<=n
 sz:ld g (C*8^bY.length)
 JI:∀p∈bY,0<=p/\p<(m:Int)
theorem D7{a b:Nat}(h:a<=b):300*8^a<=300*8^b:=Nat.mul_le_mul_left _ (Nat.pow_le_pow_right (by decide) h)
theorem xm{C a b:Nat}(h:a<=b):C*8^a<=C*8^b:=Nat.mul_le_mul_left _ (Nat.pow_le_pow_right (by decide) h)
theorem F5.JK{C:Nat}{g:Nat->Nat->Rat}{bY:List Int}(h:F5 C n m g bY):ld g (C*8^n):=fun i j=>Nat.le_trans (h.sz i j) (xm h.len)
structure me(n m:Nat)(J:Nat->(Nat->Nat->Rat)->List Int->Prop):Prop where
 step:∀k (f:Nat->Nat->Rat) (bY:List Int) at',k<m->bY.length<n->bY.length<=at'->at'<n->f at' k≠0->jr f n bY.length k->J k f bY->J (k+1) (je f bY.length k at' 0) (bY++[(k:Int)])
 skip:∀k (f:Nat->Nat->Rat) (bY:List Int),k<m->bY.length<n->(∀i,bY.length<=i->i<n->f i k=0)->J k f bY->J (k+1) f bY
theorem nL{J:Nat->(Nat->Nat->Rat)->List Int->Prop}{C:Nat}(kp:me n m J)(hC:2<=C)(hCn:C*8^n<=1000000000)(hm:m<=30)(hn:n<=6):∀d k (f:Nat->Nat->Rat) (bY:List Int),J k f bY->m-k=d->k<=m->bY.length<=n->jr f n bY.length k->ld f (C*8^bY.length)->(∀p∈bY,0<=p/\p<(m:Int))->
  ∃g pv,(∃k',k'<=m/\J k' g pv/\jr g n pv.length k'/\(k'=m\/pv.length=n))/\Loop (fun(s:Int×(List (List Rat))×(List Int))=>br (m:Int) s.1 s.2.1 s.2.2) ((k:Int),ay n m f,bY)=some (pv,ay n m g)/\
   Loop (fun(s:Int×(List (List Rat))×(List Int))=>cK (m:Int) s.1 s.2.1 s.2.2) ((k:Int),ay n m f,bY)=some (ay n m g,pv)/\F5 C n m g pv
 |d,k,f,bY,hJ,h,hk,hp,hz,hf,hr=>by
  have fin:F5 C n m f bY:=⟨hp,hf,hr⟩;by_cases hlt:k<m
  ·by_cases hpl:bY.length<n
   ·have hnext:6*(C*8^bY.length)+4<=C*8^(bY.length+1):=by
     have e:C*8^(bY.length+1)=C*8^bY.length*8:=by rw[Nat.pow_succ,Nat.mul_assoc]
     have:2<=C*8^bY.length:=Nat.le_trans hC (Nat.le_mul_of_pos_right _ (Nat.pow_pos (by decide)));omega
    have hB:6*(C*8^bY.length)+4<=1000000000:=Nat.le_trans hnext (Nat.le_trans (xm (show bY.length+1<=n by omega)) hCn);have he:=Cl (f:=f) (bY:=bY) hlt hm (by omega) hpl hf hB (n-bY.length) bY.length rfl (Nat.le_refl _) (by omega);have hfr:=za (f:=f) hlt (show n<=30 by omega) (n-bY.length) bY.length rfl (by omega);have hge:=sY (f:=f) (k:=k) (n:=n) (n-bY.length) bY.length rfl;by_cases hat:cX f k n bY.length<n
    ·have hne:=pY (f:=f) (k:=k) (n:=n) (n-bY.length) bY.length rfl hat;generalize cX f k n bY.length=at' at*;have hsp:aY f bY.length at' bY.length k≠0:=by
      unfold aY;by_cases e:bY.length=at'
      ·rw[if_pos e,e];exact hne
      ·rw[if_neg e,if_pos rfl];exact hne
     rw[if_pos hat]at he;have hb1:br (m:Int) (k:Int) (ay n m f) bY=some (.next (((k+1:Nat):Int),ay n m (je f bY.length k at' 0),bY++[(k:Int)])):=by
      unfold br;rw[if_pos (decide_eq_true (by omega)),aI,if_pos (decide_eq_true (by omega)),he,Option.bind_some,Option.bind_some,ct hlt (by omega),BC hz hge hat]
     have hb2:cK (m:Int) (k:Int) (ay n m f) bY=some (.next (((k+1:Nat):Int),ay n m (je f bY.length k at' 0),bY++[(k:Int)])):=by
      have hi:=zn (kI (a:=bY.length) (b:=at') hf bY.length k);have hs:ld (aY f bY.length at') (C*8^bY.length+1):=fun i j=>Nat.le_trans (kI (a:=bY.length) (b:=at') hf i j) (by omega);have hsc:=tC (n:=n) (m:=m) (f:=aY f bY.length at') (row:=bY.length) (k:=0) (c:=1/aY f bY.length at' bY.length k) hpl (Nat.zero_le _) hm hs hi (by omega);have hel:=G_ (n:=n) (m:=m) (f:=cu (aY f bY.length at') bY.length (1/aY f bY.length at' bY.length k) 0) (bY:=bY) (k:=k) hpl hlt hm (by omega) (qV (row:=bY.length) (k0:=0) (kI (a:=bY.length) (b:=at') hf) hi) (by omega);have q1:dv (aY f bY.length at' bY.length k):=by
       have:=kI (a:=bY.length) (b:=at') hf bY.length k;unfold dv;omega
      unfold cK;rw[if_pos (decide_eq_true (by omega)),aI,if_pos (decide_eq_true (by omega)),hfr,Option.bind_some,if_neg (by simp;omega),cj hat,Option.bind_some,cj hpl,Option.bind_some,Option.bind_some,Option.bind_some,n5,Option.bind_some];rw[oE (a:=bY.length) (b:=at'),cj hpl,Option.bind_some,eO hlt,Option.bind_some,qP hsp (show dv 1 by decide+kernel) q1,Option.bind_some];have e1:Loop (fun(s:Int×(List (List Rat)))=>rJ (m:Int) bY (1/aY f bY.length at' bY.length k) s.1 s.2) (0,ay n m (aY f bY.length at'))=some (ay n m (cu (aY f bY.length at') bY.length (1/aY f bY.length at' bY.length k) 0)):=hsc;rw[e1,Option.bind_some,Option.bind_some,hel,Option.bind_some,Option.bind_some,aG (by simp only[List.length_singleton];omega),Option.bind_some,ct hlt (by omega)]
      rfl
     rw[eQ (body:=fun(s:Int×(List (List Rat))×(List Int))=>br (m:Int) s.1 s.2.1 s.2.2) hb1,eQ (body:=fun(s:Int×(List (List Rat))×(List Int))=>cK (m:Int) s.1 s.2.1 s.2.2) hb2];have hlen:(bY++[(k:Int)]).length=bY.length+1:=by simp
     cases d with
     |zero=>omega
     |succ d=>
      refine nL kp hC hCn hm hn d (k+1) _ _ (kp.step k f bY at' hlt hpl hge hat hne hz hJ) (by omega) (by omega) (by rw[hlen];omega) (by rw[hlen];exact zP hz hge hat hne) (by
       rw[hlen];exact fun i j=>Nat.le_trans (CX hf i j) hnext) (fun p hpm=>?_)
      rcases List.mem_append.1 hpm with h|h
      ·exact hr p h
      ·rw[List.mem_singleton]at h;omega
    ·have hall:=oN (f:=f) (k:=k) (n:=n) (n-bY.length) bY.length rfl hat;have hle:=tk (f:=f) (k:=k) (n:=n) (n-bY.length) bY.length rfl (by omega);have hnn:cX f k n bY.length=n:=by omega
     rw[if_neg hat]at he;rw[hnn]at hfr;have hb1:br (m:Int) (k:Int) (ay n m f) bY=some (.next (((k+1:Nat):Int),ay n m f,bY)):=by
      unfold br;rw[if_pos (decide_eq_true (by omega)),aI,if_pos (decide_eq_true (by omega)),he,Option.bind_some,Option.bind_some,ct hlt (by omega)]
     have hb2:cK (m:Int) (k:Int) (ay n m f) bY=some (.next (((k+1:Nat):Int),ay n m f,bY)):=by
      unfold cK;rw[if_pos (decide_eq_true (by omega)),aI,if_pos (decide_eq_true (by omega)),hfr,Option.bind_some,if_pos (by simp),Option.bind_some,ct hlt (by omega)]
     rw[eQ (body:=fun(s:Int×(List (List Rat))×(List Int))=>br (m:Int) s.1 s.2.1 s.2.2) hb1,eQ (body:=fun(s:Int×(List (List Rat))×(List Int))=>cK (m:Int) s.1 s.2.1 s.2.2) hb2]
     cases d with
     |zero=>omega
     |succ d=>exact nL kp hC hCn hm hn d (k+1) _ _ (kp.skip k f bY hlt hpl hall hJ) (by omega) (by omega) hp (zH hz hall) hf hr
   ·refine⟨f,bY,⟨k,hk,hJ,hz,.inr (by omega)⟩,dQ (body:=fun(s:Int×(List (List Rat))×(List Int))=>br (m:Int) s.1 s.2.1 s.2.2) ?_,dQ (body:=fun(s:Int×(List (List Rat))×(List Int))=>cK (m:Int) s.1 s.2.1 s.2.2) ?_,fin⟩
    ·show br (m:Int) (k:Int) (ay n m f) bY=_;unfold br;rw[if_pos (decide_eq_true (by omega)),aI,if_neg (by rw[decide_eq_true_eq];omega)]
    ·show cK (m:Int) (k:Int) (ay n m f) bY=_;unfold cK;rw[if_pos (decide_eq_true (by omega)),aI,if_neg (by rw[decide_eq_true_eq];omega)]
  ·refine⟨f,bY,⟨k,hk,hJ,hz,.inl (by omega)⟩,dQ (body:=fun(s:Int×(List (List Rat))×(List Int))=>br (m:Int) s.1 s.2.1 s.2.2) ?_,dQ (body:=fun(s:Int×(List (List Rat))×(List Int))=>cK (m:Int) s.1 s.2.1 s.2.2) ?_,fin⟩
   ·show br (m:Int) (k:Int) (ay n m f) bY=_;unfold br;rw[if_neg (by rw[decide_eq_true_eq];omega)]
   ·show cK (m:Int) (k:Int) (ay n m f) bY=_;unfold cK;rw[if_neg (by rw[decide_eq_true_eq];omega)]
end Go.Am
namespace Go.Am
theorem rh(M:List (List Rat))(hl:M.length<=30)(hr:∀r∈M,r.length<=30):fz M=some M:=by
 unfold fz lE;rw[aG (by omega),Option.bind_some];have hL:=dG (body:=fun(s:Int×(List (List Rat))×(List (List Rat)))=>dU M s.1 s.2.1 s.2.2) M.length (fun i=>(M.drop i,M.take i)) ([],M) (fun i hi=>by
  unfold dU;have ht:(M.take i).length=i:=by rw[List.length_take];omega
  rw[if_pos (decide_eq_true (by simp;omega)),aG (by rw[ht]),List.drop_eq_getElem_cons hi];have e0:ix (M[i]::M.drop (i+1)) 0=some M[i]:=rfl;rw[e0,Option.bind_some];unfold lE;rw[aG (by have:=hr _ (List.getElem_mem hi);omega),Option.bind_some,ct hi (by omega),List.take_succ_eq_append_getElem hi]
  rfl) (by
  unfold dU;rw[if_neg (by simp),List.drop_length,List.take_length])
 have:Loop (fun(s:Int×(List (List Rat))×(List (List Rat)))=>dU M s.1 s.2.1 s.2.2) (0,M,([]:List (List Rat)))=_:=hL;rw[this,Option.bind_some,Option.bind_some];exact aG rfl
theorem vD(M:List (List Rat))(hl:M.length<=30)(hr:∀r∈M,r.length<=30):nf M=some M:=by
 unfold nf;have hL:=dG (body:=fun(s:Int×(List (List Rat)))=>g_ M s.1 s.2) M.length (fun i=>M.take i) M (fun i hi=>by
  unfold g_;have ht:(M.take i).length=i:=by rw[List.length_take];omega
  rw[if_pos (decide_eq_true (by omega)),dT hi,Option.bind_some,aG (by have:=hr _ (List.getElem_mem hi);omega),aG (by rw[ht];omega),ct hi (by omega),List.take_succ_eq_append_getElem hi]) (by
  unfold g_;rw[if_neg (by simp),List.take_length])
 have:Loop (fun(s:Int×(List (List Rat)))=>g_ M s.1 s.2) (0,([]:List (List Rat)))=_:=hL;rw[this,Option.bind_some,Option.bind_some]
theorem kA{n m:Nat}{f:Nat->Nat->Rat}:right (ay n m f)=true:=by
 refine ur (fun i hi=>?_);have h0:0<(ay n m f).length:=by omega
 rw[xw h0];simp[ay]
theorem lY{n m:Nat}{f:Nat->Nat->Rat}(h:0<n):aJ (ay n m f)=m:=by
 rw[xw (by rw[aI];exact h)];simp[ay]
theorem sR{J:Nat->(Nat->Nat->Rat)->List Int->Prop}(n m:Nat)(f:Nat->Nat->Rat){C:Nat}(kp:me n m J)(hJ:J 0 f [])(hC:2<=C)(hCn:C*8^n<=1000000000)(hn:n<=6)(hm:m<=30)(h0:n=0->m=0)(hf:ld f C):
  ∃g pv,(∃k',k'<=m/\J k' g pv/\jr g n pv.length k'/\(k'=m\/pv.length=n))/\eU (ay n m f)=some (ay n m g,pv)/\uA (ay n m f)=some (ay n m g,pv)/\F5 C n m g pv:=by
 have hc:aJ (ay n m f)=m:=by
  by_cases h:n=0
  ·subst h;rw[h0 rfl];rfl
  ·exact lY (by omega)
 obtain⟨g,pv,h0',h1,h2,h3⟩:=nL (n:=n) (m:=m) kp hC hCn hm hn m 0 f [] hJ rfl (Nat.zero_le _) (Nat.zero_le _) (fun i j _ _ hj=>by omega) (by simpa using hf) (fun p hp=>by cases hp);refine⟨g,pv,h0',?_,?_,h3⟩
 ·unfold eU;rw[dO _ (by rw[aI];omega),Option.bind_some,hc];have:Loop (fun(s:Int×(List (List Rat))×(List Int))=>br (m:Int) s.1 s.2.1 s.2.2) (0,ay n m f,([]:List Int))=_:=h1;simp only;rw[this];rfl
 ·unfold uA;rw[vD _ (by rw[aI];omega) (fun r hr=>by rw[oF hr];omega),Option.bind_some,CC _ (by rw[aI];omega),kA,if_pos rfl,Option.bind_some,hc];have:Loop (fun(s:Int×(List (List Rat))×(List Int))=>cK (m:Int) s.1 s.2.1 s.2.2) (0,ay n m f,([]:List Int))=_:=h2;simp only;rw[this];rfl
theorem rP(pv:List Int)(x:Int)(hl:pv.length<=30):fj pv x=some (decide (x∈pv)):=by
 obtain⟨r,hr,hp⟩:=bZ (body:=fun(s:Int)=>gq pv x s) 0 (fun s=>∃i:Nat,i<=pv.length/\s=(i:Int)/\∀k (hk:k<pv.length),k<i->pv[k]≠x) (fun s=>(pv.length-s).toNat)
  (fun r=>(x∈pv/\∃j:Int,0<=j/\r=Ex.ret j)\/(x∉pv/\r=Ex.cp ())) ⟨0,Nat.zero_le _,rfl,fun k _ hk=>by omega⟩ (by
  rintro s ⟨i,hi,rfl,hall⟩;unfold gq;by_cases hlt:i<pv.length
  ·rw[if_pos (decide_eq_true (by omega)),dT hlt,Option.bind_some];by_cases hq:pv[i]=x
   ·right
    rw[if_pos (by simpa using hq.symm)];exact⟨_,rfl,.inl ⟨hq▸List.getElem_mem hlt,_,by omega,rfl⟩⟩
   ·left
    rw[if_neg (by simpa using fun h=>hq h.symm),ct hlt (by omega)];refine⟨_,rfl,⟨i+1,hlt,rfl,fun k hk hki=>?_⟩,by omega⟩;by_cases e:k=i
    ·subst e;exact hq
    ·exact hall k hk (by omega)
  ·right
   rw[if_neg (by rw[decide_eq_true_eq];omega)];refine⟨_,rfl,.inr ⟨fun hx=>?_,rfl⟩⟩;obtain⟨k,hk,e⟩:=List.getElem_of_mem hx;exact hall k hk (by omega) e)
 unfold fj lH;rw[hr];rcases hp with⟨h1,j,hj,rfl⟩|⟨h1,rfl⟩
 ·simp[h1,hj]
 ·simp[h1]
end Go.Am
namespace Go.Am
def bK:List Nat->(Nat->Rat)->Rat
 |[],_=>0
 |a::l,g=>g a+bK l g
theorem bw{g h:Nat->Rat}:∀{l:List Nat},(∀a∈l,g a=h a)->bK l g=bK l h
 |[],_=>rfl
 |a::l,k=>by
  unfold bK;rw[k a (List.mem_cons_self),bw (fun b hb=>k b (List.mem_cons_of_mem _ hb))]
theorem iM{g h:Nat->Rat}:∀{l:List Nat},bK l (fun a=>g a+h a)=bK l g+bK l h
 |[]=>by unfold bK;grind
 |a::l=>by unfold bK;rw[iM];grind
theorem fS{c:Rat}{g:Nat->Rat}:∀{l:List Nat},bK l (fun a=>c*g a)=c*bK l g
 |[]=>by unfold bK;grind
 |a::l=>by unfold bK;rw[fS];grind
theorem gK{g:Nat->Rat}{l:List Nat}(h:∀a∈l,g a=0):bK l g=0:=by
 rw[bw (h:=fun _=>0*0) (fun a ha=>by rw[h a ha];grind),fS];grind
theorem i6{l:List Nat}(hn:l.Nodup){i:Nat}(hi:i∈l){g:Nat->Rat}(h:∀j∈l,j≠i->g j=0):bK l g=g i:=by
 induction l with
 |nil=>cases hi
 |cons a l ih=>
  rw[List.nodup_cons]at hn;by_cases e:a=i
  ·subst e;unfold bK;rw[gK (fun j hj=>h j (List.mem_cons_of_mem _ hj) (fun e=>hn.1 (e▸hj)))];grind
  ·have hi':i∈l:=(List.mem_cons.1 hi).elim (fun h=>absurd h.symm e) id;unfold bK;rw[h a List.mem_cons_self e,ih hn.2 hi' (fun j hj=>h j (List.mem_cons_of_mem _ hj))];grind
def rY(f:Nat->Nat->Rat)(i j:Nat):Rat:=f (i+1) (j+1)-f (i+1) 0/f 0 0*f 0 (j+1)
def kh:Nat->(Nat->Nat->Rat)->Rat
 |0,_=>1
 |n+1,f=>if f 0 0≠0 then f 0 0*kh n (rY f)else if cX f 0 (n+1) 0<n+1 then-(f (cX f 0 (n+1) 0) 0)*kh n (rY (aY f 0 (cX f 0 (n+1) 0)))else 0
theorem rT{f g:Nat->Nat->Rat}{k n:Nat}(h:∀i,i<n->f i k=g i k):∀d i,n-i=d->cX f k n i=cX g k n i
 |0,i,e=>by rw[ko (by omega),ko (by omega)]
 |d+1,i,e=>by
  rw[jn (f:=f) (show i<n by omega),jn (f:=g) (show i<n by omega),h i (by omega),rT h d (i+1) (by omega)]
theorem pA:∀{n:Nat} {f g:Nat->Nat->Rat},(∀i j,i<n->j<n->f i j=g i j)->kh n f=kh n g
 |0,_,_,_=>rfl
 |n+1,f,g,h=>by
  have hs:∀{f g:Nat->Nat->Rat},(∀i j,i<n+1->j<n+1->f i j=g i j)->kh n (rY f)=kh n (rY g):=fun h=>pA fun i j hi hj=>by
   unfold rY;rw[h _ _ (by omega) (by omega),h _ _ (by omega) (by omega),h _ _ (by omega) (by omega),h _ _ (by omega) (by omega)]
  unfold kh;rw[h 0 0 (by omega) (by omega),hs h,rT (fun i hi=>h i 0 hi (by omega)) (n+1) 0 rfl]
  split
  ·rfl
  ·split
   ·rename_i h1;rw[h _ 0 h1 (by omega),hs (f:=aY f 0 (cX g 0 (n+1) 0)) (g:=aY g 0 (cX g 0 (n+1) 0)) (fun i j hi hj=>by
     unfold aY;rw[h _ _ (by omega) hj,h _ _ h1 hj,h _ _ hi hj])]
   ·rfl
end Go.Am
namespace Go.Am
open Go.RowKit
theorem oV{z:Array Value}(h:∀u∈z.toList,u.oneCell'=true)(n:Nat):∀u∈(Builtin.zeroCells z n).toList,u.oneCell'=true:=by
 intro u hu;unfold Builtin.zeroCells at hu;rw[Array.toList_map]at hu;obtain⟨j,hj,rfl⟩:=List.mem_map.1 hu;have hj':j<n*z.size:=by simpa using hj
 have hz:0<z.size:=Nat.pos_of_ne_zero fun e=>by rw[e]at hj';simp at hj'
 have hlt:j%z.size<z.size:=Nat.mod_lt _ hz;rw[getElem!_pos z _ hlt];exact h _ (by simp)
theorem Bh{P:Program}(w:World)(t tx ty e:TypeId)(i:TypeInfo)(zv:Value)(k:IntKind)(ht:P.underlying t=some (.slice e))(htx:P.underlying tx=some (.int k))(hi:P.info? e=some i)(hz:i.zero=some zv)(hzs:zv.cells.size=i.size)(h1:∀u∈zv.cells.toList,u.oneCell'=true)(hm0:0<i.size)
  (n:Nat)(hn:(n:Int)<=9223372036854775807)(hb:n*i.bytes<=281474976710656):
  (n=0->(Builtin.append_ #[t,tx] ty #[.slice none 0 0,.int .i64 n]).run P w=.ok (.slice none 0 0) w)/\
  (∀g n' cap (cur:Array Value),w.heap[g]?=some (.cells cur e (0,0))->n'+n<=cap->n'*i.size+n*i.size<=cur.size->(Builtin.append_ #[t,tx] ty #[.slice (some ⟨g,0,none⟩) n' cap,.int .i64 n]).run P w=.ok (.slice (some ⟨g,0,none⟩) (n'+n) cap) (w.setRow g (cur.toList.take (n'*i.size)++(Builtin.zeroCells zv.cells n).toList++cur.toList.drop (n'*i.size+n*i.size)).toArray))/\
  (∀base sLen sCap (olds:List Value),(Builtin.firstCells i.size sLen (.slice base sLen sCap)).run P w.drew=.ok olds.toArray w.drew->sCap<sLen+n->((sLen+n:Nat):Int)<=9223372036854775807->Builtin.nextslicecap (sLen+n) sCap*i.bytes<=281474976710656->
   (Builtin.append_ #[t,tx] ty #[.slice base sLen sCap,.int .i64 n]).run P w=.ok (.slice (some ⟨w.heap.size,0,none⟩) (sLen+n) (grownCap w (sLen+n) sCap e)) (w.drew.alloc (.cells ((olds++(Builtin.zeroCells zv.cells n).toList).toArray++Builtin.zeroCells zv.cells (grownCap w (sLen+n) sCap e-(sLen+n))) e))):=by
 have hw:IntKind.i64.wrap (n:Int)=n:=by rw[IntKind.wrap_i64];omega
 have hneg:¬((n:Int)<0):=by omega
 have h48i:¬(281474976710656<(n:Int)*(i.bytes:Int)):=by
  rw[←Int.natCast_mul];omega
 have hzl:(Builtin.zeroCells zv.cells n).toList.length=n*i.size:=by rw[Array.length_toList,size_zeroCells,hzs]
 have hz1:∀u∈(Builtin.zeroCells zv.cells n).toList,u.oneCell'=true:=oV h1 n;refine⟨fun h0=>?_,fun g n' cap cur hg hroom hfit=>?_,fun base sLen sCap olds hold hg h63 hfit=>?_⟩
 ·subst h0;have hw0:IntKind.i64.wrap 0=0:=by decide
  simp[Builtin.append_,run_underlying ht,run_underlying htx,sizeOf,typeInfo,hi,asInt,asIntOf,hw0]
 ·have hst:=run_storeCells_at P g (n'*i.size) e (Builtin.zeroCells zv.cells n).toList 0 cur w hg (by rw[hzl];simpa using hfit) hz1;simp only[Nat.add_zero,hzl]at hst;by_cases h0:n=0
  ·subst h0;have hs0:(Builtin.zeroCells zv.cells 0).toList=[]:=List.eq_nil_of_length_eq_zero (by simpa using hzl);rw[hs0]at hst|-;have hr:(n'<=cap):=hroom;have hw0:IntKind.i64.wrap 0=0:=by decide
   simp[Builtin.append_,run_underlying ht,run_underlying htx,sizeOf,typeInfo,hi,asInt,asIntOf,hw0,hr,Addr.add_lit]at hst|-;rw[hst];rfl
  ·have hnm:¬(n*i.size=0):=Nat.ne_of_gt (Nat.mul_pos (by omega) hm0);simp[Builtin.append_,run_underlying ht,run_underlying htx,sizeOf,typeInfo,zeroValue,hi,hz,asInt,asIntOf,hw,hneg,h48i,hroom,Addr.add_lit,hnm]at hst|-;rw[hst];rfl
 ·have hn0:n≠0\/n=0:=by omega
  have hnr:¬(sLen+n<=sCap):=by omega
  have h63':¬(9223372036854775807<((sLen:Int)+(n:Int))):=by omega
  have h48':¬(281474976710656<Builtin.nextslicecap (sLen+n) sCap*i.bytes):=by omega
  by_cases h0:n=0
  ·subst h0;have hw0:IntKind.i64.wrap 0=0:=by decide
   have hs0:(Builtin.zeroCells zv.cells 0)=#[]:=by apply Array.eq_empty_of_size_eq_zero;simpa using hzl
   simp[Builtin.append_,run_underlying ht,run_underlying htx,sizeOf,typeInfo,zeroValue,hi,hz,asInt,asIntOf,hw0,Question.forced,hold,newRow,grownCap,hs0]at hnr h63' h48'|-;rw[if_neg (by omega),if_neg (by omega),if_neg (by omega)]
  ·have hnm:¬(n*i.size=0):=Nat.ne_of_gt (Nat.mul_pos (by omega) hm0);simp[Builtin.append_,run_underlying ht,run_underlying htx,sizeOf,typeInfo,zeroValue,hi,hz,asInt,asIntOf,hw,hneg,h48i,hnr,h63',h48',Question.forced,hold,newRow,grownCap,hnm]
   congr 2
   apply Array.ext';simp[List.append_assoc]
section
variable {P:Program} {os:List Oper} {c:Ctx} {T T':List (Nat×D)} {H H':List (Nat×Hp)} {sps:List Spec}
variable {ops:Array Oper} {dst:Option Nat} {ty:TypeId} {pos:String} {aft:Array Edge}
theorem yH{t tx:TypeId}{x y:Operand}{r:Nat}(a:Act)(w w':World){v:Value}(h:(Builtin.append_ #[t,tx] ty #[a.eval x,a.eval y]).run P w=.ok v w'):
  (execOp a.eval ⟨some r,.call {callee:=.builtin .append,args:=#[x,y],argTypes:=#[t,tx]},ty,pos,aft,none⟩).run P w=.ok (.value v) w':=by
 simp only[execOp,resolve,Sem.run_bind,Sem.run_pure,Result.andThen_ok,invoke,builtin,List.map_toArray,List.map_cons,List.map_nil,h]
theorem cd.JU{α:Type}{e:ak α}{T0:Nat->Option D}{H0:Nat->Option Hp}{a:Act}{w:World}{ε:Env}{φ:Nat->ck}(hs:cd c T0 H0 a w ε φ){t tx te:TypeId}{r1 r bt:Nat}{xs:List α}{zl:List D}{k:Nat}(a0:α)(hh:H0 r1=some (aR e te xs))(hm:oj P t=some (te,e.n,bt,zl))(hk:P.underlying tx=some (.int .i64))(hz:si zl (e.c a0))
  (hb:(xs.length+k)*bt<=140737488355328)(hmax:xs.length+k<=9223372036854775807)(hf:H0 r=none):
  ∃v' w' ε' φ',(Builtin.append_ #[t,tx] ty #[ε r1,.int .i64 k]).run P w=.ok v' w'/\cd c T0 (bf H0 [(r1,.dead),(r,aR e te (xs++List.replicate k a0))]) a w' ε' φ'/\ε' r=v'/\v'.oneCell'=true:=by
 obtain⟨i,v,hu,hinf,hzv,hsz,hbz,ez,hv1,hvs,hm0⟩:=gh hm;have hbk:k*i.bytes<=281474976710656:=by
  rw[hbz];have:k*bt<=(xs.length+k)*bt:=Nat.mul_le_mul_right _ (by omega);omega
 obtain⟨z1,z2,z3⟩:=Bh (P:=P) w t tx ty te i v .i64 hu hk hinf hzv (by rw[hvs,hsz]) hv1 (by omega) k (by omega) hbk;have hzl:(Builtin.zeroCells v.cells k).toList.length=k*e.n:=by rw[Array.length_toList,size_zeroCells,hvs]
 have hall:bN ε w (Am.al c H0 φ) (flat e (List.replicate k a0)) (Builtin.zeroCells v.cells k).toList:=by
  have e1:Builtin.zeroCells v.cells k=madeCells v.cells (k*e.n):=by rw[←hvs];rfl
  rw[e1,eZ hvs hm0 k,tl e a0 k];refine(hz.rep k).all ?_;rw[ez];exact fI (jb _ _ _ _) k
 obtain⟨v',w',ε',φ',hrun,hS,ev',ho⟩:=hs.HZ (P:=P) (ty:=ty) (tx:=tx) (x:=.int .i64 k) hm (r:=r) (n2:=k) (hl:=dN e (xs++List.replicate k a0)) hh hf (bp e xs) (by rw[bp,List.length_replicate]) (dN e _) (nZ e xs _).symm hzl (oV hv1 k) hall
  z1 (fun g n' cap cur hg hroom hfit=>by have:=z2 g n' cap cur hg hroom (by rw[hsz];rw[hzl]at hfit;exact hfit);rw[hsz]at this;rw[hzl];exact this)
  (fun i' zv' e1 e2 e3 e4 e5 base sLen sCap olds ho hc h63 hfit=>by
   have e6:i'=i:=by rw[hinf]at e2;injection e2 with e2;exact e2.symm
   subst e6;have e7:zv'=v:=by rw[hzv]at e3;injection e3 with e3;exact e3.symm
   subst e7;exact z3 base sLen sCap olds ho hc h63 (by rw[hbz];exact hfit)) hb hmax
 exact⟨v',w',ε',φ',hrun,hS,ev',ho.1⟩
end
end Go.Am
namespace Go.Am
open Go.RowKit
set_option maxRecDepth 100000
noncomputable section
def uu(v8:Int)(v9:List (List Rat))(v18:Int):Option (St Int Int):=(if(decide (v18<(v9.length:Int)))=true then(ix v9 v18).bind fun v24=>(ix v24 v8).bind fun v26=>(fm v26).bind fun v28=>(if(v28==0)=true then some (St.next (IntKind.i64.wrap (v18+1)))else some (St.done v18))else some (St.done v18))
def pE(v8:Int)(v54:Int)(v71:Rat)(v73:Int)(v74:List (List Rat)):Option (St (Int×(List (List Rat))) (List (List Rat))):=(if(decide (v73<(v74.length:Int)))=true then(ix v74 v54).bind fun v80=>(ix v74 v54).bind fun v82=>(ix v82 v73).bind fun v84=>(ix v74 v8).bind fun v86=>(ix v86 v73).bind fun v88=>(eJ v71 v88).bind fun v90=>(kH v84 v90).bind fun v92=>(ix v80 v73).bind fun v94=>some (St.next ((IntKind.i64.wrap (v73+1)),(v74.set v54.toNat (v80.set v73.toNat v92))))else some (St.done v74))
def kU(v8:Int)(v54:Int)(v55:List (List Rat)):Option (St (Int×(List (List Rat))) (List (List Rat))):=(if(decide (v54<(v55.length:Int)))=true then((ix v55 v54).bind fun v63=>(ix v63 v8).bind fun v65=>(ix v55 v8).bind fun v67=>(ix v67 v8).bind fun v69=>(gR v65 v69).bind fun v71=>(Loop (fun(s:Int×(List (List Rat)))=>pE v8 v54 v71 s.1 s.2) (v8,v55)).bind fun v96=>some (v96)).bind fun v97=>some (St.next ((IntKind.i64.wrap (v54+1)),v97))else some (St.done v55))
def cI(v8:Int)(v9:List (List Rat))(v10:Rat):Option (St (Int×(List (List Rat))×Rat) (Ex Rat Rat)):=(if(decide (v8<(v9.length:Int)))=true then((Loop (fun(s:Int)=>uu v8 v9 s) v8).bind fun v31=>(if(v31==(v9.length:Int))=true then some (Ex.ret 0)else((if(v31 !=v8)=true then(ix v9 v31).bind fun v36=>(ix v9 v8).bind fun v38=>(ix v9 v8).bind fun v40=>(ix v9 v31).bind fun v42=>(uf v10).bind fun v44=>some ((((v9.set v8.toNat v36).set v31.toNat v40),v44))else some ((v9,v10)))).bind fun(v46,v47)=>(ix v46 v8).bind fun v48=>(ix v48 v8).bind fun v50=>(eJ v47 v50).bind fun v52=>(Loop (fun(s:Int×(List (List Rat)))=>kU v8 s.1 s.2) ((IntKind.i64.wrap (v8+1)),v46)).bind fun v98=>some (Ex.cp (v98,v52)))).bind fun o16=>(match o16 with|Ex.cp (v99,v100)=>some (St.next ((IntKind.i64.wrap (v8+1)),v99,v100))|Ex.ret r101=>some (St.done (Ex.ret r101)))else some (St.done (Ex.cp v10)))
def xf(a1:List (List Rat)):Option Rat:=(nf a1).bind fun v2=>(fh 1).bind fun v4=>((Loop (fun(s:Int×(List (List Rat))×Rat)=>cI s.1 s.2.1 s.2.2) (0,v2,v4)).bind fun o11=>(match o11 with|Ex.cp v102=>some (Ex.cp v102)|Ex.ret r103=>some (Ex.ret r103))).bind fun o6=>(match o6 with|Ex.cp v104=>some v104|Ex.ret r105=>some r105)
def f_(a1:List (List Rat))(v4:Int)(v5:List (List Rat)):Option (St (Int×(List (List Rat))) (List (List Rat))):=(if(decide (v4<(a1.length:Int)))=true then(ix a1 v4).bind fun v11=>bO (v11.length*64<=140737488355328/\v11.length<=9223372036854775807) (bO ((0:Int)<=(a1.length:Int)/\(v11.length+(a1.length:Int).toNat)*64<=140737488355328/\v11.length+(a1.length:Int).toNat<=9223372036854775807) ((fh 1).bind fun v15=>(ix (v11++List.replicate (a1.length:Int).toNat (0:Rat)) (IntKind.i64.wrap ((a1.length:Int)+v4))).bind fun v17=>bO ((v5.length+1)*24<=140737488355328/\v5.length+1<=9223372036854775807) (some (St.next ((IntKind.i64.wrap (v4+1)),(v5++[((v11++List.replicate (a1.length:Int).toNat (0:Rat)).set (IntKind.i64.wrap ((a1.length:Int)+v4)).toNat v15)]))))))else some (St.done v5))
def fk(a1:List (List Rat))(v22:List (List Rat))(v34:Int)(v35:List (List Rat)):Option (St (Int×(List (List Rat))) (List (List Rat))):=(if(decide (v34<(v22.length:Int)))=true then(ix v22 v34).bind fun v41=>bO ((0:Int)<=(a1.length:Int)/\((a1.length:Int):Int)<=(v41.length:Int)) (bO ((List.drop (a1.length:Int).toNat v41).length*64<=140737488355328/\(List.drop (a1.length:Int).toNat v41).length<=9223372036854775807) (bO ((v35.length+1)*24<=140737488355328/\v35.length+1<=9223372036854775807) (some (St.next ((IntKind.i64.wrap (v34+1)),(v35++[(List.drop (a1.length:Int).toNat v41)]))))))else some (St.done v35))
def lg(a1:List (List Rat)):Option ((List (List Rat))×Bool):=((Loop (fun(s:Int×(List (List Rat)))=>f_ a1 s.1 s.2) (0,([]:List (List Rat)))).bind fun v20=>some (v20)).bind fun v21=>(uA v21).bind fun(v22,v23)=>((if(decide ((v23.length:Int)<(a1.length:Int)))=true then some (Ex.ret ([],false))else(if(decide ((a1.length:Int)>0))=true then(ix v23 (IntKind.i64.wrap ((a1.length:Int)-1))).bind fun v29=>(if(v29 !=(IntKind.i64.wrap ((a1.length:Int)-1)))=true then some (Ex.ret ([],false))else some (Ex.cp ()))else some (Ex.cp ())))).bind fun o25=>(match o25 with|Ex.cp ()=>((Loop (fun(s:Int×(List (List Rat)))=>fk a1 v22 s.1 s.2) (0,([]:List (List Rat)))).bind fun v46=>some (v46)).bind fun v47=>some (v47,true)|Ex.ret (r48,r49)=>some (r48,r49))
end
end Go.Am
namespace Go.Am
open Go.RowKit
def G1(m lo:Nat):Value->Value
 |.slice A n c=>.slice (if c=lo then A else A.map (·.add (lo*m))) (n-lo) (c-lo)
 |v=>v
def D.mv(s k lo m:Nat):D where
 p:=fun ε _ _ v=>v.oneCell'=true/\∃(vs:Array Value) (u:Value),ε s=.agg vs/\vs[k]?=some u/\u.oneCell'=true/\v=G1 m lo u
 nm:=[s]
 sh:=.one
 mono:=fun h he _=>by rw[he _ (by simp)];exact h
 ji:=fun h=>h.1
theorem wx.mv{ρ:Nat->Nat}{s k lo m:Nat}:wx ρ (.mv (ρ s) k lo m) (.mv s k lo m):=⟨fun _ _ _ _ h=>h,fun r' hr'=>by simp[D.mv]at hr'|-;rw[hr']⟩
section
variable {P:Program} {os:List Oper} {c:Ctx} {T T':List (Nat×D)} {H H':List (Nat×Hp)} {sps:List Spec}
variable {ops:Array Oper} {dst:Option Nat} {ty:TypeId} {pos:String} {aft:Array Edge}
variable {α:Type} {e:ak α} {te tr:TypeId} {r s:Nat} {M X:List (List α)}
theorem ai.IS{t:TypeId}{x y:Operand}{k m:Nat}{kd:IntKind}{z:Int}{xs:List α}(hx:ev T x=some (.mr s k))(hy:ev T y=some (.int kd z))(hh:af H s=some (.store e tr M))(hM:M[k]?=some xs)(ht:sle P t=some m)(h0:0<=z)(h1:z<=xs.length)(hm:Nat.blt 0 e.n=true)
  (hr:ai P ops c os (bg T dst (.mv s k z.toNat m)) H sps T' H'):
  ai P ops c (⟨dst,.slice t x (some y) none none,ty,pos,aft,none⟩::os) T H (AX [(x,.mr s k),(y,.int kd z)] s (.store e tr M) (.mv s k z.toNat m)::sps) T' H':=
 .ask rfl (two hx hy) hh (fun r' hr'=>.inl (by simpa [D.mv]using hr')) (fun ε w S a F ha hp=>by
  have h2:=ha (x,.mr s k) (by simp);have h3:a.eval y=.int kd z:=ha (y,.int kd z) (by simp);obtain⟨G,hrow⟩:=oL hM hp h2;obtain⟨A,cap,hb,hA⟩:=wB (by simpa using hm) hrow;obtain⟨_,vs,e1,e2⟩:=h2;dsimp only at hb e2;obtain⟨e',he,hs⟩:=mQ ht;refine⟨G1 m z.toNat (a.eval x),?_,?_,vs,_,e1,e2,by rw[hb];rfl,rfl⟩
  ·simp only[execOp,Instr.sliceAt,run_underlying he,Sem.run_bind,Result.andThen_ok,Instr.slice,hb,Option.map_some,Option.map_none,Instr.sliceBounds,fi _ kd z xs.length _ h0 h1 h3,Sem.run_pure,hs];rfl
  ·rw[hb];rfl) hr
theorem ai.Iz{xt yt:TypeId}{x y:Operand}{k lo m:Nat}{xs:List α}(ht:isSlice P xt=true)(hx:ev T x=some (.mv s k lo m))(hy:ev T y=some .nil)(hh:af H s=some (.store e tr M))(hM:M[k]?=some xs)(hm:Nat.blt 0 e.n=true)
  (hr:ai P ops c os (bg T dst (.HQ (xs=[]))) H sps T' H'):
  ai P ops c (⟨dst,.binOp .eql xt x y yt,ty,pos,aft,none⟩::os) T H (AX [(x,.mv s k lo m),(y,.nil)] s (.store e tr M) (.HQ (xs=[]))::sps) T' H':=
 .ask rfl (two hx hy) hh (fun r' hr'=>by cases hr') (fun ε w S a F ha hp=>by
  obtain⟨h1,vs,u,e1,e2,hu1,e3⟩:=ha (x,.mv s k lo m) (by simp);have h2:a.eval y=.slice none 0 0:=ha (y,.nil) (by simp);obtain⟨G,hrow⟩:=oL hM hp (v:=u) ⟨hu1,vs,e1,e2⟩;obtain⟨A,cap,hb,hA⟩:=wB (by simpa using hm) hrow;unfold isSlice at ht
  split at ht<;>try cases ht
  rename_i e' he;subst hb;refine⟨.bool A.isNone,?_,A.isNone,rfl,fun h=>?_⟩
  ·have hv:∃B n' c',a.eval x=.slice B n' c'/\B.isNone=A.isNone:=by
    dsimp only at e3;rw[e3];refine⟨_,_,_,rfl,?_⟩
    split<;>cases A<;>rfl
   obtain⟨B,n',c',hv,hB⟩:=hv;have hq:(Op.equal xt (.slice B n' c') (.slice none 0 0)).run P w=.ok A.isNone w:=by
    simp only[Op.equal,Op.maxDepth];rw[←hB];exact np w 9999 B n' c' he
   simp only[execOp,hv,h2,vG,Sem.run_bind,Sem.run_pure,Result.andThen_ok];simp[binOp,hq]
  ·cases A with
   |some ad=>cases h
   |none=>
    have:=hA
    cases xs with
    |nil=>rfl
    |cons y ys=>exact absurd (hA (by simp)) (by simp)) hr
theorem Gn{ε:Env}{w:World}{S:ck}{F:ck}{v:Value}{k lo m:Nat}{xs:List α}(hp:(Hp.store e tr M).p ε w S (ε s) F)(hM:M[k]?=some xs)(hmn:m=e.n)(hm0:0<m)(hlo:lo<=xs.length)(hv:(D.mv s k lo m).p ε w S v):
  ∃A cap2 vs,v=.slice A (xs.length-lo) cap2/\(xs.length-lo=0\/∃b o,A=some ⟨b,o,none⟩/\∀(j:Nat) u,vs[j]?=some u->w.cell? ⟨b,o+j,none⟩=some u)/\(∀u∈vs,u.oneCell'=true)/\bN ε w S (flat e (xs.drop lo)) vs:=by
 subst hmn;obtain⟨h1,ws,u,e1,e2,hu1,e3⟩:=hv;obtain⟨G,hrow⟩:=oL hM hp (v:=u) ⟨hu1,ws,e1,e2⟩;rcases hrow with⟨h0,hb,_⟩|⟨g,n,cap,cs,rest,hb,_,hg,hc1,hcap,_,hln,hcs⟩
 ·have h0':xs=[]:=by
   have:=bp e xs;rw[h0]at this;have:xs.length*e.n=0:=this.symm;exact List.eq_nil_of_length_eq_zero ((Nat.mul_eq_zero.1 this).resolve_right (by omega))
  subst h0';subst hb;have:lo=0:=by simpa using hlo
  subst this;refine⟨none,0,[],by rw[e3];simp[G1],.inl rfl,fun u hu=>by(cases hu),?_⟩;rw[List.drop_nil];exact trivial
 ·have hn:n=xs.length:=by
   have:=bp e xs;rw[hln]at this;exact Nat.eq_of_mul_eq_mul_right hm0 this
  subst hn;have hcl:cs.length=xs.length*e.n:=by rw[aL hcs,bp]
  refine⟨_,_,cs.drop (lo*e.n),by rw[e3,hb];rfl,?_,fun u hu=>hc1 u (List.mem_of_mem_drop hu),by rw[←oq];exact fl _ hcs⟩;by_cases h0:xs.length-lo=0
  ·exact .inl h0
  ·have hle:xs.length*e.n<=cap*e.n:=by rw[←hcap,List.length_append];omega
   have hle2:xs.length<=cap:=Nat.le_of_mul_le_mul_right hle hm0;refine .inr ⟨g,0+lo*e.n,by rw[if_neg (by omega),Option.map_some,Addr.add_lit],fun j u hj=>?_⟩;rw[List.getElem?_drop]at hj;rw[iL hg,Nat.zero_add,List.getElem?_append_left (List.getElem?_eq_some_iff.1 hj).1];exact hj
theorem ai.I0{t te:TypeId}{x y:Operand}{r1 r m bt k lo:Nat}{xs ys:List α}{z:List D}{dx dy:D}(hx:ev T x=some dx)(hdx:Le dx (.own r1))(hy:ev T y=some dy)(hdy:Le dy (.mv s k lo m))(hh:af H r1=some (aR e te ys))(hk:af H s=some (.store e tr M))(hM:M[k]?=some xs)(hlo:lo<=xs.length)(hm:oj P t=some (te,m,bt,z))(hmn:m=e.n)
  (hb:(ys.length+(xs.length-lo))*bt<=140737488355328)(hmax:ys.length+(xs.length-lo)<=9223372036854775807)(hf:af H r=none)
  (hr:ai P ops c os ((r,.own r)::T) ((r1,.dead)::(r,aR e te (ys++xs.drop lo))::H) sps T' H'):
  ai P ops c (⟨some r,.call {callee:=.builtin .append,args:=#[x,y],argTypes:=#[t,t]},ty,pos,aft,none⟩::os) T H
   (apps x dx y dy r1 r [(r1,aR e te ys),(s,.store e tr M)] (aR e te (ys++xs.drop lo))::sps) T' H':=by
 refine .cons (sp:=apps x dx y dy r1 r [(r1,aR e te ys),(s,.store e tr M)] (aR e te (ys++xs.drop lo))) ?_ (aU.2 ⟨(aw hx).1,(aw hy).1⟩) ⟨hh,hk,trivial⟩ ⟨hf,trivial⟩ hr;intro hd T0 H0 hi cY hnew a w ⟨ε,φ,hs⟩ Q K hK;rw[if_pos (a_ rfl _)];obtain⟨hi1,hi2⟩:=aU.1 hi;obtain⟨_,_,_,_,_,_,_,_,_,_,hm0⟩:=gh hm;have h1:a.eval x=ε r1:=(hdx.1 _ _ _ _ (hs.ev hi1 (aw hx).2).1).1;obtain⟨A,cap2,vs,h2,hvA,hv1,hv⟩:=Gn (hs.h s _ cY.2.1) hM hmn hm0 hlo (hdy.1 _ _ _ _ (hs.ev hi2 (aw hy).2).1);subst hmn;obtain⟨v',w',ε',φ',hrun,hS,ev',ho⟩:=hs.app (ty:=ty) hm (r:=r) (n2:=xs.length-lo) (hl:=dN e (ys++xs.drop lo)) cY.1 hnew.1 (bp e ys) (by rw[bp,List.length_drop]) (dN e (xs.drop lo)) (nZ e ys (xs.drop lo)).symm hvA hv1 hv hb hmax (cap2:=cap2);have hrun':(Builtin.append_ #[t,t] ty #[a.eval x,a.eval y]).run P w=.ok v' w':=by rw[h1,h2];exact hrun
 simp only[Oper.wp,m6 a w w' hrun',Oper.upon];refine hK _ _ ⟨ε',φ',hS.put (d:=.own r) (cU hd) ⟨ev'.symm,ho⟩ (fun r' hr'=>?_)⟩;have:r'=r:=by simpa [D.own]using hr'
 subst this;show bf H0 [(r1,.dead),(r',aR e te (ys++xs.drop lo))] r'≠none;rw[gl];have hne:r'≠r1:=fun e=>by subst e;have:=cY.1;have h0:=hnew.1;rw[h0]at this;cases this
 rw[aB _ _ hne,aq];simp
theorem xK{ε:Env}{w:World}{S:ck}{F1:ck}{xs:List α}{vs:Array Value}{G:Nat->ck}{v:Value}{z:Nat}(hz:z<M.length)(h1:vs.size=M.length)(h2:∀k xs v,M[k]?=some xs->vs[k]?=some v->k≠z->(aR e tr xs).p ε w S v (G k))(h3:∀k k',k<M.length->k'<M.length->k≠k'->∀i,G k i->¬G k' i)(hx:(aR e tr xs).p ε w S v F1)(hd:∀k,k<M.length->∀i,G k i->¬F1 i):
  ((vs.set z v (by omega)).size=(M.set z xs).length)/\(∀k ys u,(M.set z xs)[k]?=some ys->(vs.set z v (by omega))[k]?=some u->(aR e tr ys).p ε w S u (db G z F1 k))/\(∀k k',k<(M.set z xs).length->k'<(M.set z xs).length->k≠k'->∀i,db G z F1 k i->¬db G z F1 k' i)/\(∀k,k<(M.set z xs).length->∀i,db G z F1 k i->(k<M.length/\G k i)\/F1 i):=by
 have gn:db G z F1 z=F1:=aq _ _ _;have gk:∀k,k≠z->db G z F1 k=G k:=fun k hk=>aB _ _ hk;refine⟨by simp[h1],fun k ys u hy hu=>?_,fun k k' hk hk' hne i hi=>?_,fun k hk i hi=>?_⟩
 ·by_cases hk:k=z
  ·subst hk;rw[gn];rw[List.getElem?_set_self hz]at hy;injection hy with hy;subst hy;have:(vs.set k v (by omega))[k]?=some v:=by simp[h1,hz]
   rw[this]at hu;injection hu with hu;subst hu;exact hx
  ·rw[gk k hk];rw[List.getElem?_set_ne (Ne.symm hk)]at hy;have hu:vs[k]?=some u:=by rw[←hu];simp[Array.getElem?_set,Ne.symm hk]
   exact h2 k ys u hy hu hk
 ·rw[List.length_set]at hk hk';by_cases a1:k=z
  ·subst a1;rw[gn]at hi;rw[gk k' (Ne.symm hne)];exact fun h=>hd k' hk' i h hi
  ·rw[gk k a1]at hi;by_cases a2:k'=z
   ·subst a2;rw[gn];exact hd k hk i hi
   ·rw[gk k' a2];exact h3 k k' hk hk' hne i hi
 ·rw[List.length_set]at hk;by_cases a1:k=z
  ·subst a1;rw[gn]at hi;exact .inr hi
  ·rw[gk k a1]at hi;exact .inl ⟨hk,hi⟩
theorem ya{t:TypeId}{x y:Operand}{r1 s2 m:Nat}{z:Int}{xs:List α}{hp:Hp}{l:List D}(hrow:∀ε w S A,hp.p ε w S (ε r) A->(∃vs:Array Value,ε s=.agg vs/\vs.size=M.length)->kP 1 te l ε w S (ε r) A)(hll:l.length=M.length)(hl:∀d,l.set z.toNat d=(b_ s M.length).set z.toNat d)(hz:z.toNat<M.length)(h:ev T x=some (.ref r (z.toNat*m)))(hy:ev T y=some (.own r1))(hh:af H r=some hp)(hk:af H s=some (.store e tr M))(h1:af H r1=some (aR e tr xs))(hf:af H s2=none)
  (hne:r≠s/\r≠r1/\s≠r1)(hm:m=1)(ht:lay P t=some none)
  (hr:ai P ops c os (bg T dst .any) ((r,.cg e te s2 [])::(s2,.store e tr (M.set z.toNat xs))::(s,.dead)::(r1,.dead)::H) sps T' H'):
  ai P ops c (⟨dst,.store t x y,ty,pos,aft,none⟩::os) T H (CI x (.ref r (z.toNat*m)) y (.own r1) [(r,hp),(s,.store e tr M),(r1,aR e tr xs)] [(r,.cg e te s2 []),(s2,.store e tr (M.set z.toNat xs)),(s,.dead),(r1,.dead)] [s2]::sps) T' H':=by
 subst hm;refine .cons (sp:=CI x (.ref r (z.toNat*1)) y (.own r1) [(r,hp),(s,.store e tr M),(r1,aR e tr xs)] [(r,.cg e te s2 []),(s2,.store e tr (M.set z.toNat xs)),(s,.dead),(r1,.dead)] [s2]) ?_ (aU.2 ⟨(aw h).1,(aw hy).1⟩) ⟨hh,hk,h1,trivial⟩ ⟨hf,trivial⟩ hr;intro hdst T0 H0 hi cY hnew a w ⟨ε,φ,hs⟩ Q K hK;rw[if_pos (a_ rfl _)];obtain⟨hi1,hi2⟩:=aU.1 hi;have hx:a.eval x=.pointer (some ⟨j3 (ε r),z.toNat*1,none⟩):=(hs.ev hi1 (aw h).2).1;obtain⟨hye,hyo⟩:=(hs.ev hi2 (aw hy).2).1;obtain⟨hr0,hs0,hr10,_⟩:=cY;obtain⟨vs,G,e1,e2,_⟩:=hs.h s _ hs0;have hro:=hrow ε w _ _ (hs.h r _ hr0) ⟨vs,e1,e2⟩;obtain⟨w',hst,hS⟩:=hs.Cn (P:=P) (z:=z.toNat) (d:=D.lit (ε r1)) (v:=ε r1) hr0 hro (by rw[hll];exact hz) (hye▸hyo) rfl (fun q hq=>by
  rw[hl]at hq;obtain⟨d,hd,hq'⟩:=bG.1 hq;rcases List.mem_or_eq_of_mem_set hd with hd|rfl
  ·rw[qJ (bG.2 ⟨d,hd,hq'⟩),hs0];simp
  ·cases hq')
 have hrun:(execOp a.eval ⟨dst,.store t x y,ty,pos,aft,none⟩).run P w=.ok .skip w':=by
  have hcl:(a.eval y).cells=#[ε r1]:=by
   have:(ε r1).oneCell'=true:=hye▸hyo;rw[hye];exact tW this
  rw[Nat.mul_one]at hx;simp only[execOp,Instr.storeAt,hx,Instr.sureAddr,Sem.run_bind,Sem.run_pure,Result.andThen_ok,storeVar,(iT ht w).2,hcl];simp[hst]
 simp only[Oper.wp,hrun,Oper.upon];rw[hl]at hS;have u1:bf H0 [(r,.dY 1 te ((b_ s M.length).set z.toNat (D.lit (ε r1))))] s=some (.store e tr M):=by rw[bu,aB _ _ (Ne.symm hne.1)];exact hs0
 have u2:bf H0 [(r,.dY 1 te ((b_ s M.length).set z.toNat (D.lit (ε r1))))] r1=some (aR e tr xs):=by rw[bu,aB _ _ (Ne.symm hne.2.1)];exact hr10
 have u3:bf H0 [(r,.dY 1 te ((b_ s M.length).set z.toNat (D.lit (ε r1))))] r=some (.dY 1 te ((b_ s M.length).set z.toNat (D.lit (ε r1)))):=by rw[bu,aq]
 have u4:bf H0 [(r,.dY 1 te ((b_ s M.length).set z.toNat (D.lit (ε r1))))] s2=none:=by
  rw[bu,aB _ _ (fun e=>by rw[←e,hnew.1]at hr0;cases hr0)];exact hnew.1
 obtain⟨vs',G',f1,f2,f3,f4,f5⟩:=hS.h s _ u1;rw[e1]at f1;injection f1 with f1;subst f1;have hzv:z.toNat<vs.size:=by rw[f2];exact hz
 obtain⟨g1,g2,g3,g4⟩:=xK hz f2 (fun k xs v hx hv _=>f3 k xs v hx hv) f4 (hS.h r1 _ u2) (fun k hk i hi hi'=>hS.dj s r1 (by rw[u1];simp) (by rw[u2];simp) hne.2.2 i ((f5 i).2 ⟨k,hk,hi⟩) hi');have cZ:kP 1 te (bT (vs.set z.toNat (ε r1) hzv).toList++([]:List (List α)).map (an e)) ε w' (Am.al c (bf H0 [(r,.dY 1 te ((b_ s M.length).set z.toNat (D.lit (ε r1))))]) φ) (ε r) (φ r):=by
  rw[List.map_nil,List.append_nil,sW];rcases(show kP 1 te _ ε w' _ (ε r) (φ r)from hS.h r _ u3)with⟨h0,_,_⟩|⟨g,n,cap,cs,rest,b1,b2,b3,b4,b5,b6,b7,b8⟩
  ·have:=congrArg List.length h0;rw[List.length_set,bC,List.length_nil]at this;omega
  ·refine .inr ⟨g,n,cap,cs,rest,b1,b2,b3,b4,b5,b6,?_,?_⟩
   ·rw[←b7,List.length_set,List.length_set,bC,mL,Array.length_toList,f2]
   ·rw[List.length_set,bC]at b7;have hcs:cs=vs.toList.set z.toNat (ε r1):=by
     have hl1:=aL b8;rw[List.length_set,bC]at hl1;apply List.ext_getElem
     ·rw[hl1,List.length_set];simpa using f2.symm
     ·intro k k1 k2;have hkl:k<M.length:=by omega
      by_cases hkz:k=z.toNat
      ·subst hkz;rw[List.getElem_set_self];obtain⟨v,hv,hp⟩:=fP b8 (show((b_ s M.length).set z.toNat (D.lit (ε r1)))[z.toNat]?=some (D.lit (ε r1))by rw[List.getElem?_set_self (by rw[bC];exact hz)]);rw[List.getElem?_eq_getElem k1]at hv;injection hv with hv;rw[hv];exact hp
      ·rw[List.getElem_set_ne (Ne.symm hkz)];obtain⟨v,hv,_,vs',e1',e2'⟩:=fP b8 (show((b_ s M.length).set z.toNat (D.lit (ε r1)))[k]?=some (D.mr s k)by rw[List.getElem?_set_ne (Ne.symm hkz),sS hkl]);rw[e1]at e1';injection e1' with e1';subst e1';rw[List.getElem?_eq_getElem k1]at hv;injection hv with hv;rw[hv];obtain⟨h3,h4⟩:=Array.getElem?_eq_some_iff.1 e2';simp[←h4]
    rw[hcs,←sW vs (ε r1) z.toNat hzv];exact jT.2 (by simp)
 have hG:=hS.wk (r:=r) (te:=te) (X:=[]) (s2:=s2) (e:=e) (tr:=tr) (M:=M.set z.toNat xs) [s,r1] (fun q hq=>by
   simp only[List.mem_cons,List.not_mem_nil,or_false]at hq;rcases hq with rfl|rfl
   ·rw[u1];simp
   ·rw[u2];simp) u4 (by rw[u3];simp) (by simp[hne.1,hne.2.1]) (vs.set z.toNat (ε r1) hzv) _ g1 g2 g3 (fun k hk i hi=>(g4 k hk i hi).elim (fun h=>⟨s,by simp,(f5 i).2 ⟨k,h.1,h.2⟩⟩) (fun h=>⟨r1,by simp,h⟩)) cZ
 rw[qS (by simp[af])]at hG;obtain⟨ε2,φ2,hG⟩:=hG;exact hK _ _ ⟨ε2,φ2,hG.put (d:=.any) (cU hdst) trivial (fun _ h=>by cases h)⟩
theorem ai.I3{t:TypeId}{x y:Operand}{r1 s2 m:Nat}{z:Int}{xs:List α}(hz:z.toNat<M.length)(h:ev T x=some (.ref r (z.toNat*m)))(hy:ev T y=some (.own r1))(hh:af H r=some (.cg e te s []))(hk:af H s=some (.store e tr M))(h1:af H r1=some (aR e tr xs))(hf:af H s2=none)
  (hne:r≠s/\r≠r1/\s≠r1)(hm:m=1)(ht:lay P t=some none)
  (hr:ai P ops c os (bg T dst .any) ((r,.cg e te s2 [])::(s2,.store e tr (M.set z.toNat xs))::(s,.dead)::(r1,.dead)::H) sps T' H'):
  ai P ops c (⟨dst,.store t x y,ty,pos,aft,none⟩::os) T H (CI x (.ref r (z.toNat*m)) y (.own r1) [(r,.cg e te s []),(s,.store e tr M),(r1,aR e tr xs)] [(r,.cg e te s2 []),(s2,.store e tr (M.set z.toNat xs)),(s,.dead),(r1,.dead)] [s2]::sps) T' H':=
 ya (l:=b_ s M.length) (fun ε w S A hA ⟨vs,e1,e2⟩=>by
  obtain⟨vs',e1',h⟩:=hA;rw[e1]at e1';injection e1' with e1';subst e1';rw[List.map_nil,List.append_nil,e2]at h;exact h) (bC _ _) (fun _=>rfl) hz h hy hh hk h1 hf hne hm ht hr
end
end Go.Am
namespace Go.Am
open Go.RowKit
section
variable {P:Program} {os:List Oper} {c:Ctx} {T T':List (Nat×D)} {H H':List (Nat×Hp)} {sps:List Spec}
variable {ops:Array Oper} {dst:Option Nat} {ty:TypeId} {pos:String} {aft:Array Edge}
variable {α:Type} {e:ak α} {te tr:TypeId} {r s:Nat} {M X:List (List α)}
theorem cd.split{T0:Nat->Option D}{H0:Nat->Option Hp}{a:Act}{w:World}{ε:Env}{φ:Nat->ck}(hs:cd c T0 H0 a w ε φ){z:Nat}{xs:List α}(hr:H0 r=some (.cg e te s []))(hk:H0 s=some (.store e tr M))(hM:M[z]?=some xs){s2 r1:Nat}(hs2:H0 s2=none)(hr1:H0 r1=none)(hne:s2≠r1)(hrs:r≠s):
  ∃ε' φ',cd c T0 (bf H0 [(r,.dY 1 te ((b_ s2 M.length).set z .any)),(s2,.store e tr (M.set z [])),(s,.dead),(r1,aR e tr xs)]) a w ε' φ'/\(∃vs:Array Value,ε s=.agg vs/\vs[z]?=some (ε' r1)):=by
 have hz:=(List.getElem?_eq_some_iff.1 hM).1;obtain⟨vs,G,e1,e2,e3,e4,e5⟩:=hs.h s _ hk;obtain⟨vs0,e1',hrow⟩:=hs.h r _ hr;rw[e1]at e1';injection e1' with e1';subst e1';rw[List.map_nil,List.append_nil,e2]at hrow;have hzv:z<vs.size:=by omega
 have n1:r≠s2:=fun e=>by rw[e,hs2]at hr;cases hr
 have n2:r≠r1:=fun e=>by rw[e,hr1]at hr;cases hr
 have n3:s≠s2:=fun e=>by rw[e,hs2]at hk;cases hk
 have n4:s≠r1:=fun e=>by rw[e,hr1]at hk;cases hk
 let L:List (Nat×Hp):=[(r,.dY 1 te ((b_ s2 M.length).set z .any)),(s2,.store e tr (M.set z [])),(s,.dead),(r1,aR e tr xs)]
 have beq_ne:∀{q p:Nat},q≠p->Nat.beq q p=false:=fun{q p} h=>by
  cases hb:Nat.beq q p with
  |false=>rfl
  |true=>exact absurd (Nat.eq_of_beq_eq_true hb) h
 have gL:∀q,af L q=if q=r then some (.dY 1 te ((b_ s2 M.length).set z .any))else if q=s2 then some (.store e tr (M.set z []))else if q=s then some .dead else if q=r1 then some (aR e tr xs)else none:=by
  intro q;have step:∀(p:Nat) (x:Hp) (K:List (Nat×Hp)),af ((p,x)::K) q=if q=p then some x else af K q:=by
   intro p x K;show(match Nat.beq q p with|true=>some x|false=>af K q)=_;by_cases h:q=p
   ·subst h;simp
   ·rw[beq_ne h,if_neg h]
  show af [(r,_),(s2,_),(s,_),(r1,_)] q=_;rw[step,step,step,step]
  rfl
 let ε':Env:=db (db ε s2 (.agg (vs.set z (.slice none 0 0) hzv))) r1 vs[z]
 have v1:ε' r1=vs[z]:=aq _ _ _;have v2:ε' s2=.agg (vs.set z (.slice none 0 0) hzv):=by show db _ _ _ _=_;rw[aB _ _ hne,aq]
 have v3:∀q,H0 q≠none->ε' q=ε q:=fun q hq=>by
  show db _ _ _ _=_;rw[aB _ _ (show q≠r1 from fun e=>hq (by rw[e];exact hr1)),aB _ _ (show q≠s2 from fun e=>hq (by rw[e];exact hs2))]
 let φ':Nat->ck:=fun q=>if q=s2 then(fun i=>∃j,j<M.length/\j≠z/\G j i)else if q=s then noBlocks else if q=r1 then G z else φ q
 have p1:φ' s2=fun i=>∃j,j<M.length/\j≠z/\G j i:=by simp[φ']
 have p2:φ' s=noBlocks:=by simp[φ',n3]
 have p3:φ' r1=G z:=by simp[φ',Ne.symm hne,Ne.symm n4]
 have p4:∀q,q≠s2->q≠s->q≠r1->φ' q=φ q:=fun q h1 h2 h3=>by simp[φ',h1,h2,h3]
 have p5:φ' r=φ r:=p4 r n1 hrs n2;have cls:∀q,af L q≠none->q=r\/q=s2\/q=s\/q=r1:=fun q h=>by
  rw[gL]at h;by_cases h1:q=r
  ·exact .inl h1
  ·by_cases h2:q=s2
   ·exact .inr (.inl h2)
   ·by_cases h3:q=s
    ·exact .inr (.inr (.inl h3))
    ·by_cases h4:q=r1
     ·exact .inr (.inr (.inr h4))
     ·simp[h1,h2,h3,h4]at h
 have lr:af L r≠none:=by rw[gL];simp
 have ls:af L s≠none:=by rw[gL];simp[Ne.symm hrs,n3]
 have ls2:af L s2≠none:=by rw[gL];simp[Ne.symm n1]
 have hrG:∀j,j<M.length->∀i,G j i->¬φ r i:=fun j hj i hg hf=>hs.dj s r (by rw[hk];simp) (by rw[hr];simp) (Ne.symm hrs) i ((e5 i).2 ⟨j,hj,hg⟩) hf;have hg:=hs.wm (L:=L) (ε':=ε') (φ':=φ') v3 (fun q hq=>?_) (fun q k hq hk'=>?_) (fun q q' hq hq' hqq k hk1=>?_) (fun q x hq=>?_) (fun q x hq q' hq'=>?_)
 ·refine⟨ε',φ',hg.1,vs,e1,?_⟩;rw[v1];simp[hzv]
 ·rw[gL]at hq;refine p4 q (fun e=>?_) (fun e=>?_) (fun e=>?_)
  ·rw[e]at hq;simp[Ne.symm n1]at hq
  ·rw[e]at hq;simp[Ne.symm hrs,n3]at hq
  ·rw[e]at hq;simp[Ne.symm n2,Ne.symm hne,Ne.symm n4]at hq
 ·rcases cls q hq with rfl|rfl|rfl|rfl
  ·rw[p5]at hk';exact⟨_,by rw[hr];simp,lr,hk'⟩
  ·rw[p1]at hk';obtain⟨j,hj,_,hg⟩:=hk';exact⟨s,by rw[hk];simp,ls,(e5 k).2 ⟨j,hj,hg⟩⟩
  ·rw[p2]at hk';exact hk'.elim
  ·rw[p3]at hk';exact⟨s,by rw[hk];simp,ls,(e5 k).2 ⟨z,hz,hk'⟩⟩
 ·rcases cls q hq with rfl|rfl|rfl|rfl
  ·rw[p5]at hk1;rcases cls q' hq' with rfl|rfl|rfl|rfl
   ·exact absurd rfl hqq
   ·rw[p1];rintro⟨j,hj,_,hg⟩;exact hrG j hj k hg hk1
   ·rw[p2];exact fun h=>h
   ·rw[p3];exact fun h=>hrG z hz k h hk1
  ·rw[p1]at hk1;obtain⟨j,hj,hjz,hg⟩:=hk1;rcases cls q' hq' with rfl|rfl|rfl|rfl
   ·rw[p5];exact hrG j hj k hg
   ·exact absurd rfl hqq
   ·rw[p2];exact fun h=>h
   ·rw[p3];exact e4 j z hj hz hjz k hg
  ·rw[p2]at hk1;exact hk1.elim
  ·rw[p3]at hk1;rcases cls q' hq' with rfl|rfl|rfl|rfl
   ·rw[p5];exact hrG z hz k hk1
   ·rw[p1];rintro⟨j,hj,hjz,hg⟩;exact e4 j z hj hz hjz k hg hk1
   ·rw[p2];exact fun h=>h
   ·exact absurd rfl hqq
 ·have hS:∀k,Am.al c H0 φ k->Am.al c (bf H0 L) φ' k:=fun k hk'=>by
   refine⟨hk'.1,fun q' hq' hf=>?_⟩;by_cases h1:q'=s2
   ·rw[h1,p1]at hf;obtain⟨j,hj,_,hg⟩:=hf;exact hk'.2 s (by rw[hk];simp) ((e5 k).2 ⟨j,hj,hg⟩)
   ·by_cases h2:q'=s
    ·rw[h2,p2]at hf;exact hf
    ·by_cases h3:q'=r1
     ·rw[h3,p3]at hf;exact hk'.2 s (by rw[hk];simp) ((e5 k).2 ⟨z,hz,hf⟩)
     ·rw[p4 q' h1 h2 h3]at hf;by_cases h4:q'=r
      ·rw[h4]at hf;exact hk'.2 r (by rw[hr];simp) hf
      ·refine hk'.2 q' (fun h0=>hq' ?_) hf;simp only[bf];rw[gL,if_neg h4,if_neg h1,if_neg h2,if_neg h3];exact h0
  have hS':∀k,Am.al c H0 φ k->k<w.heap.size->Am.al c (bf H0 L) φ' k/\w.heap[k]?=w.heap[k]?:=fun k hk' _=>⟨hS k hk',rfl⟩;rw[gL]at hq;by_cases h1:q=r
  ·subst h1;rw[if_pos rfl]at hq;injection hq with hq;subst hq;rw[p5,v3 q (by rw[hr];simp)];show kP 1 te ((b_ s2 M.length).set z .any) ε' w _ _ _;rcases hrow with⟨h0,_,_⟩|⟨g,n,cap,cs,rest,b1,b2,b3,b4,b5,b6,b7,b8⟩
   ·have:=congrArg List.length h0;rw[bC,List.length_nil]at this;omega
   ·refine .inr ⟨g,n,cap,cs,rest,b1,b2,b3,b4,b5,b6,by rw[←b7,List.length_set,bC,bC],?_⟩;have hcs:=lJ e1 (by rw[e2];exact b8);subst hcs;have hm:=qh (w:=w) (S:=Am.al c (bf H0 L) φ') v2 (fun v hv=>by
     rw[Array.toList_set]at hv;rcases List.mem_or_eq_of_mem_set hv with h|rfl
     ·exact b4 v h
     ·rfl)
    rw[Array.size_set,e2,Array.toList_set]at hm;have:=uE (d:=D.any) (v:=vs[z]) (ε:=ε') (w:=w) (S:=Am.al c (bf H0 L) φ') trivial z hm;rw[List.set_set]at this;have e6:vs.toList.set z vs[z]=vs.toList:=by
     have:vs[z]=vs.toList[z]'(by simpa using hzv):=by simp
     rw[this,List.set_getElem_self]
    rw[e6]at this;exact this
  ·rw[if_neg h1]at hq;by_cases h2:q=s2
   ·subst h2;rw[if_pos rfl]at hq;injection hq with hq;subst hq;rw[p1,v2];have gz:db G z noBlocks z=noBlocks:=aq _ _ _;have gn:∀k,k≠z->db G z noBlocks k=G k:=fun k hk=>aB _ _ hk;obtain⟨g1,g2,g3,g4⟩:=xK (e:=e) (tr:=tr) (M:=M) (ε:=ε') (w:=w) (S:=Am.al c (bf H0 L) φ') (F1:=noBlocks) (xs:=[]) (vs:=vs) (G:=G) (v:=.slice none 0 0) hz e2 (fun k xs v hx hv _=>(aR e tr xs).mono (e3 k xs v hx hv) (fun q' hq'=>by cases hq') hS' (fun _ _=>rfl)) e4 (.inl ⟨rfl,rfl,rfl⟩) (fun _ _ _ _ h=>h);refine⟨_,db G z noBlocks,rfl,g1,g2,g3,fun i=>⟨fun⟨j,hj,hjz,hg⟩=>⟨j,by rw[List.length_set];exact hj,by rw[gn j hjz];exact hg⟩,fun⟨j,hj,hg⟩=>?_⟩⟩;rw[List.length_set]at hj;by_cases hjz:j=z
    ·subst hjz;rw[gz]at hg;exact hg.elim
    ·rw[gn j hjz]at hg;exact⟨j,hj,hjz,hg⟩
   ·rw[if_neg h2]at hq;by_cases h3:q=s
    ·subst h3;rw[if_pos rfl]at hq;injection hq with hq;subst hq;rw[p2];rfl
    ·rw[if_neg h3]at hq;by_cases h4:q=r1
     ·subst h4;rw[if_pos rfl]at hq;injection hq with hq;subst hq;rw[p3,v1];exact(aR e tr xs).mono (e3 z xs vs[z] hM (by simp[hzv])) (fun q' hq'=>by cases hq') hS' (fun _ _=>rfl)
     ·rw[if_neg h4]at hq;cases hq
 ·rw[gL]at hq;by_cases h1:q=r
  ·rw[if_pos h1]at hq;injection hq with hq;subst hq
   right
   have hq2:q'∈bD ((b_ s2 M.length).set z .any):=hq';obtain⟨d,hd,hq3⟩:=bG.1 hq2;rcases List.mem_or_eq_of_mem_set hd with hd|rfl
   ·rw[qJ (bG.2 ⟨d,hd,hq3⟩)];exact ls2
   ·cases hq3
  ·rw[if_neg h1]at hq;by_cases h2:q=s2
   ·rw[if_pos h2]at hq;injection hq with hq;subst hq;cases hq'
   ·rw[if_neg h2]at hq;by_cases h3:q=s
    ·rw[if_pos h3]at hq;injection hq with hq;subst hq;cases hq'
    ·rw[if_neg h3]at hq;by_cases h4:q=r1
     ·rw[if_pos h4]at hq;injection hq with hq;subst hq;cases hq'
     ·rw[if_neg h4]at hq;cases hq
theorem ai.IG{t tx:TypeId}{x y:Operand}{d s2 r1 m bt k:Nat}{xs:List α}{zl:List D}{n:Int}(a0:α)(hx:ev T x=some (.mr s k))(hy:ev T y=some (.int .i64 n))(hh:af H r=some (.cg e te s []))(hk:af H s=some (.store e tr M))(hM:M[k]?=some xs)(hm:oj P t=some (tr,m,bt,zl))(hu:P.underlying tx=some (.int .i64))(hmn:m=e.n)(hz:si zl (e.c a0))
  (h0:0<=n)(hb:(xs.length+n.toNat)*bt<=140737488355328)(hmax:xs.length+n.toNat<=9223372036854775807)(hf:af H d=none)(hf2:af H s2=none)(hf1:af H r1=none)(hne:s2≠r1/\r≠s/\d≠s2/\d≠r1)
  (hr:ai P ops c os ((d,.own d)::T) ((r,.dY 1 te ((b_ s2 M.length).set k .any))::(s2,.store e tr (M.set k []))::(s,.dead)::(r1,.dead)::(d,aR e tr (xs++List.replicate n.toNat a0))::H) sps T' H'):
  ai P ops c (⟨some d,.call {callee:=.builtin .append,args:=#[x,y],argTypes:=#[t,tx]},ty,pos,aft,none⟩::os) T H
   ({ins:=eN x (.mr s k)++eN y (.int .i64 n),cY:=[(r,.cg e te s []),(s,.store e tr M)],out:=.own d,cZ:=[(r,.dY 1 te ((b_ s2 M.length).set k .any)),(s2,.store e tr (M.set k [])),(s,.dead),(r1,.dead),(d,aR e tr (xs++List.replicate n.toNat a0))],news:=[d,s2,r1]}::sps) T' H':=by
 subst hmn;refine .cons (sp:={ins:=eN x (.mr s k)++eN y (.int .i64 n),cY:=[(r,.cg e te s []),(s,.store e tr M)],out:=.own d,cZ:=[(r,.dY 1 te ((b_ s2 M.length).set k .any)),(s2,.store e tr (M.set k [])),(s,.dead),(r1,.dead),(d,aR e tr (xs++List.replicate n.toNat a0))],news:=[d,s2,r1]}) ?_ (aU.2 ⟨(aw hx).1,(aw hy).1⟩) ⟨hh,hk,trivial⟩ ⟨hf,hf2,hf1,trivial⟩ hr;intro hd T0 H0 hi cY hnew a w ⟨ε,φ,hs⟩ Q K hK;rw[if_pos (a_ rfl _)];obtain⟨hi1,hi2⟩:=aU.1 hi;obtain⟨hnd,hn2,hn1,_⟩:=hnew;obtain⟨_,vs,ev1,ev2⟩:=(hs.ev hi1 (aw hx).2).1;have h2:a.eval y=.int .i64 n:=(hs.ev hi2 (aw hy).2).1;obtain⟨j,rfl⟩:∃j:Nat,n=j:=⟨n.toNat,by omega⟩;rw[Int.toNat_natCast]at hb hmax;simp only[Int.toNat_natCast]at hK;obtain⟨ε1,φ1,hS,vs',f1,f2⟩:=hs.split (te:=te) cY.1 cY.2.1 hM hn2 hn1 hne.1 hne.2.1;rw[ev1]at f1;injection f1 with f1;subst f1;have h1:a.eval x=ε1 r1:=by rw[ev2]at f2;injection f2
 have un:∀{q p:Nat},q≠p->Nat.beq q p=false:=fun{q p} h=>by
  cases hb:Nat.beq q p with
  |false=>rfl
  |true=>exact absurd (Nat.eq_of_beq_eq_true hb) h
 have dr:d≠r:=fun e=>by subst e;have:=cY.1;rw[hnd]at this;cases this
 have ds:d≠s:=fun e=>by subst e;have:=cY.2.1;rw[hnd]at this;cases this
 have r1r:r1≠r:=fun e=>by subst e;have:=cY.1;rw[hn1]at this;cases this
 have r1s:r1≠s:=fun e=>by subst e;have:=cY.2.1;rw[hn1]at this;cases this
 have g1:bf H0 [(r,Hp.dY 1 te ((b_ s2 M.length).set k .any)),(s2,.store e tr (M.set k [])),(s,.dead),(r1,aR e tr xs)] r1=some (aR e tr xs):=by
  simp only[bf,af,un r1r,un (Ne.symm hne.1),un r1s,Nat.beq_refl]
 have gd:bf H0 [(r,Hp.dY 1 te ((b_ s2 M.length).set k .any)),(s2,.store e tr (M.set k [])),(s,.dead),(r1,aR e tr xs)] d=none:=by
  simp only[bf,af,un dr,un hne.2.2.1,un ds,un hne.2.2.2];exact hnd
 obtain⟨v',w',ε',φ',hrun,hS2,ev',ho⟩:=hS.JU (P:=P) (ty:=ty) (r:=d) (k:=j) a0 g1 hm hu hz hb hmax gd;have hrun':(Builtin.append_ #[t,tx] ty #[a.eval x,a.eval y]).run P w=.ok v' w':=by rw[h1,h2];exact hrun
 simp only[Oper.wp,yH a w w' hrun',Oper.upon];have eH:bf (bf H0 [(r,Hp.dY 1 te ((b_ s2 M.length).set k .any)),(s2,.store e tr (M.set k [])),(s,.dead),(r1,aR e tr xs)]) [(r1,.dead),(d,aR e tr (xs++List.replicate j a0))]=bf H0 [(r,Hp.dY 1 te ((b_ s2 M.length).set k .any)),(s2,.store e tr (M.set k [])),(s,.dead),(r1,.dead),(d,aR e tr (xs++List.replicate j a0))]:=by
  funext q
  simp only[bf,af]
  cases h5:Nat.beq q r1 with
  |true=>
   have e5:=Nat.eq_of_beq_eq_true h5;subst e5;simp only[un r1r,un (Ne.symm hne.1),un r1s]
  |false=>
   cases h6:Nat.beq q d with
   |true=>
    have e6:=Nat.eq_of_beq_eq_true h6;subst e6;simp only[un dr,un hne.2.2.1,un ds]
   |false=>cases Nat.beq q r<;>cases Nat.beq q s2<;>cases Nat.beq q s<;>rfl
 rw[eH]at hS2;refine hK _ _ ⟨ε',φ',hS2.put (d:=.own d) (cU hd) ⟨ev'.symm,ho⟩ (fun r' hr'=>?_)⟩;have:r'=d:=by simpa [D.own]using hr'
 subst this;simp only[bf,af,un dr,un hne.2.2.1,un ds,un hne.2.2.2,Nat.beq_refl];simp
theorem ai.IF{t:TypeId}{x y:Operand}{r1 s2 m:Nat}{z:Int}{xs:List α}(hz:z.toNat<M.length)(h:ev T x=some (.ref r (z.toNat*m)))(hy:ev T y=some (.own r1))(hh:af H r=some (.dY 1 te ((b_ s M.length).set z.toNat .any)))(hk:af H s=some (.store e tr (M.set z.toNat [])))(h1:af H r1=some (aR e tr xs))(hf:af H s2=none)
  (hne:r≠s/\r≠r1/\s≠r1)(hm:m=1)(ht:lay P t=some none)
  (hr:ai P ops c os (bg T dst .any) ((r,.cg e te s2 [])::(s2,.store e tr (M.set z.toNat xs))::(s,.dead)::(r1,.dead)::H) sps T' H'):
  ai P ops c (⟨dst,.store t x y,ty,pos,aft,none⟩::os) T H (CI x (.ref r (z.toNat*m)) y (.own r1) [(r,.dY 1 te ((b_ s M.length).set z.toNat .any)),(s,.store e tr (M.set z.toNat [])),(r1,aR e tr xs)] [(r,.cg e te s2 []),(s2,.store e tr ((M.set z.toNat []).set z.toNat xs)),(s,.dead),(r1,.dead)] [s2]::sps) T' H':=by
 have hl:(M.set z.toNat []).length=M.length:=List.length_set ..;refine ya (M:=M.set z.toNat []) (l:=(b_ s M.length).set z.toNat .any) (fun ε w S A hA _=>hA) (by rw[List.length_set,bC,hl]) (fun d=>by rw[hl,List.set_set]) (by rw[hl];exact hz) h hy hh hk h1 hf hne hm ht ?_;rw[List.set_set];exact hr
end
end Go.Am
namespace Go.Am
open Go.RowKit
set_option maxRecDepth 100000
def uc(M:List (List Rat))(k lo:Nat):Option (List Rat):=M[k]?.bind fun xs=>bO (lo<=xs.length/\xs.length<=1000000000) (some (xs.drop lo))
theorem Dn{M:List (List Rat)}{k lo:Nat}{r:List Rat}(h:uc M k lo=some r):aW PP 204 [(400,Hp.store ak.rat 28 M)] [D.mv 400 k lo 3] [(400,Hp.store ak.rat 28 M),(7,aR ak.rat 28 r)] (D.own 7):=by
 obtain⟨xs,hM,h⟩:=bind_some h;obtain⟨hl,h⟩:=ax h;injection h with h;subst h;refine .of Go.Proofs.Tryz.func204 rfl (by kernel_rfl) rfl rfl rfl rfl rfl rfl (fun A w0 L b=>?_);show Ok PP _ [(0,D.mv 400 k lo 3),(1000400,D.pinned 400 (b 400))] [(400,Hp.store ak.rat 28 M)] _ _;refine .al (.ao rfl<|.nil) rfl (.sq ?_);refine .al (.mv rfl<|.Iz cr rfl rfl rfl hM rfl<|.nil) rfl ?_;refine .cQ rfl (fun h=>?_) (.skip (Ok.on ?_))
 ·subst h;refine .al (.ao rfl<|.nil) rfl ?_;refine .gT ak.rat 2 7 28 rfl rfl ?_;refine .aN (fun _ _ hb=>hb) rfl (.cons (.tmp rfl) .nil) (.refl _) (.of rfl) ⟨⟨_,rfl,.refl _⟩,⟨_,by rw[List.drop_nil];rfl,.refl _⟩,trivial⟩
 ·refine .al (.G4 ak.rat bM rfl rfl<|.mv rfl<|.I0 (xs:=xs) (lo:=lo) (s:=400) rfl (.refl _) rfl (.refl _) rfl rfl hM hl.1 bM rfl (by simp only[List.length_nil];omega) (by simp only[List.length_nil];omega) rfl<|.ao rfl<|.nil) rfl ?_;refine .aN (fun _ _ hb=>hb) rfl (.cons (.tmp rfl) .nil) (.refl _) (.of rfl) (.of rfl)
end Go.Am
namespace Go.Am
open Go.RowKit
set_option maxRecDepth 100000
noncomputable section
def nJ(v3:Int)(v14:Int)(v15:List (List Rat))(v24:Int):Option (St Int Int):=(if(decide (v24<v3))=true then(ix v15 v24).bind fun v30=>(ix v30 v14).bind fun v32=>(fm v32).bind fun v34=>(if(v34==0)=true then some (St.next (IntKind.i64.wrap (v24+1)))else some (St.done v24))else some (St.done v24))
def kM(v3:Int)(v14:Int)(v60:Int)(v77:Rat)(v79:Int)(v80:List (List Rat)):Option (St (Int×(List (List Rat))) (List (List Rat))):=(if(decide (v79<v3))=true then(ix v80 v60).bind fun v86=>(ix v80 v60).bind fun v88=>(ix v88 v79).bind fun v90=>(ix v80 v14).bind fun v92=>(ix v92 v79).bind fun v94=>(eJ v77 v94).bind fun v96=>(kH v90 v96).bind fun v98=>(ix v86 v79).bind fun v100=>some (St.next ((IntKind.i64.wrap (v79+1)),(v80.set v60.toNat (v86.set v79.toNat v98))))else some (St.done v80))
def h_(v3:Int)(v14:Int)(v60:Int)(v61:List (List Rat)):Option (St (Int×(List (List Rat))) (List (List Rat))):=(if(decide (v60<v3))=true then((ix v61 v60).bind fun v69=>(ix v69 v14).bind fun v71=>(ix v61 v14).bind fun v73=>(ix v73 v14).bind fun v75=>(gR v71 v75).bind fun v77=>(Loop (fun(s:Int×(List (List Rat)))=>kM v3 v14 v60 v77 s.1 s.2) (v14,v61)).bind fun v102=>some (v102)).bind fun v103=>some (St.next ((IntKind.i64.wrap (v60+1)),v103))else some (St.done v61))
def dp(v3:Int)(v8:List (List Rat))(v14:Int)(v15:List (List Rat))(v16:Rat):Option (St (Int×(List (List Rat))×Rat) (Ex Rat (Rat×Int))):=(if(decide (v14<(v8.length:Int)))=true then((Loop (fun(s:Int)=>nJ v3 v14 v15 s) v14).bind fun v37=>(if(v37==v3)=true then some (Ex.ret (0,0))else((if(v37 !=v14)=true then(ix v15 v14).bind fun v42=>(ix v15 v37).bind fun v44=>(ix v15 v37).bind fun v46=>(ix v15 v14).bind fun v48=>(uf v16).bind fun v50=>some ((((v15.set v37.toNat v42).set v14.toNat v46),v50))else some ((v15,v16)))).bind fun(v52,v53)=>(ix v52 v14).bind fun v54=>(ix v54 v14).bind fun v56=>(eJ v53 v56).bind fun v58=>(Loop (fun(s:Int×(List (List Rat)))=>h_ v3 v14 s.1 s.2) ((IntKind.i64.wrap (v14+1)),v52)).bind fun v104=>some (Ex.cp (v104,v58)))).bind fun o22=>(match o22 with|Ex.cp (v105,v106)=>some (St.next ((IntKind.i64.wrap (v14+1)),v105,v106))|Ex.ret (r107,r108)=>some (St.done (Ex.ret (r107,r108))))else some (St.done (Ex.cp v16)))
def j5(a1:List (List Rat)):Option (Rat×Int):=(dA a1).bind fun(v2,v3,v4)=>(if(!v4)=true then some (0,2)else(if(v2 !=v3)=true then some (0,2)else(fz a1).bind fun v8=>(fh 1).bind fun v10=>((Loop (fun(s:Int×(List (List Rat))×Rat)=>dp v3 v8 s.1 s.2.1 s.2.2) (0,v8,v10)).bind fun o17=>(match o17 with|Ex.cp v109=>some (Ex.cp v109)|Ex.ret (r110,r111)=>some (Ex.ret (r110,r111)))).bind fun o12=>(match o12 with|Ex.cp v112=>some (v112,0)|Ex.ret (r113,r114)=>some (r113,r114))))
theorem DY{a1:List (List Rat)}{r115:Rat}{r116:Int}(h:j5 a1=some (r115,r116)):aW PP 131 [] [an (ak.slice ak.rat) a1] [] (D.gV [qD r115,D.int .i64 r116]):=by
 unfold j5 at h;refine .of Go.Proofs.Tryz.func131 rfl (by kernel_rfl) rfl rfl rfl rfl rfl rfl (fun A w0 L b=>?_);show Ok PP _ [(0,an (ak.slice ak.rat) a1)] [] _ _;refine .al (.fW (qC (0)) az ⟨k8,k_,kZ,trivial⟩ rfl<|.ao rfl<|.nil) rfl ?_;obtain⟨⟨v2,v3,v4⟩,e5,h⟩:=bind_some h;refine .al (.mv rfl<|.ah (fy e5) ⟨rfl,trivial⟩ trivial trivial<|.mv rfl<|.ext rfl rfl<|.ext rfl rfl<|.ext rfl rfl<|.ao rfl<|.ao rfl<|.ao rfl<|.nil) rfl ?_;refine .sq ?_;by_cases c6:(!v4)=true
 ·replace h:=ab c6 h;refine .al (.mv rfl<|.not rfl<|.mv rfl<|.gk c6<|.gk c6<|.gk c6<|.bm rfl c6 rfl<|.nil) rfl ?_;refine .cq rfl rfl ?_;refine .al (.pC (qC (0)) [] az cw trivial trivial ⟨k8,k_,kZ,trivial⟩<|.cH (qC (0)) rfl rfl rfl aa rfl rfl rfl<|.ao rfl<|.nil) rfl ?_;cases h;refine .aN (fun _ _ hb=>hb) rfl (.cons (.agg rfl rfl aa rfl) (.t1 (.tmp rfl))) (.refl _) trivial trivial
 ·replace h:=ae c6 h;refine .al (.mv rfl<|.not rfl<|.mv rfl<|.gz c6<|.mv rfl<|.gz c6<|.mv rfl<|.gz c6<|.cm rfl rfl rfl<|.bh rfl c6 rfl<|.nil) rfl ?_;by_cases c7:(v2 !=v3)=true
  ·replace h:=ab c7 h;refine .cq rfl c7 ?_;refine .al (.pC (qC (0)) [] az cw trivial trivial ⟨k8,k_,kZ,trivial⟩<|.cH (qC (0)) rfl rfl rfl aa rfl rfl rfl<|.ao rfl<|.nil) rfl ?_;cases h;refine .aN (fun _ _ hb=>hb) rfl (.cons (.agg rfl rfl aa rfl) (.t1 (.tmp rfl))) (.refl _) trivial trivial
  ·replace h:=ae c7 h;refine .cA rfl c7 ?_;refine .skip (Ok.on ?_);obtain⟨v8,e9,h⟩:=bind_some h;refine .al (.mv rfl<|.ah (Hi:=[]) (Ho:=[(29,Hp.cg ak.rat 68 3000029 ([])),(3000029,Hp.store ak.rat 28 v8)]) (d:=D.own 29) (ds:=[an (ak.slice ak.rat) a1]) (.B5 (mW e9) (fun r=>match r with|6=>29|4000006=>3000029|r=>r) (fun r=>match r with|29=>6|3000029=>4000006|r=>r) rfl trivial rfl ⟨.refl rfl,trivial⟩ (.p rfl (.cg (s:=3000029))<|.r rfl rfl<|trivial) rfl (.own (r:=29)) rfl rfl rfl rfl rfl) ⟨rfl,trivial⟩ trivial ⟨rfl,rfl,trivial⟩<|.ao rfl<|.nil) rfl ?_;obtain⟨v10,e11,h⟩:=bind_some h;refine .al (.ah (i5 e11) ⟨rfl,trivial⟩ trivial trivial<|.fW (qC (0)) az ⟨k8,k_,kZ,trivial⟩ rfl<|.cH (qC (v10)) rfl rfl rfl aa rfl rfl rfl<|.nil) rfl ?_;obtain⟨o12,hp13,h⟩:=bind_some h;refine .cz (fun i=>o12=Ex.cp i) (fun(i:Rat)=>[(2,D.ref 2 0),(8,D.ref 8 0)]) (fun(i:Rat)=>[(2,Hp.box 28 (qC (0))),(8,Hp.box 28 (qC (i)))]) ?_ ?_
   ·have ho1:=h;have h:=hp13;refine .l4 7 rfl rfl rfl ?_;refine .al (.mv rfl<|.Hc rfl bn<|.mv rfl<|.nil) rfl ?_;obtain⟨o17,hl18,h⟩:=bind_some h;have ho2:=h;refine .block (.cc (fun(s:Int×(List (List Rat))×Rat)=>[(2,D.ref 2 0),(5,D.int .i64 v3),(7,D.own 29),(8,D.ref 8 0),(32,D.int .i64 (v8.length:Int)),(33,D.int .i64 s.1)]) (fun(s:Int×(List (List Rat))×Rat)=>[(2,Hp.box 28 (qC (0))),(29,Hp.cg ak.rat 68 3000029 ([])),(3000029,Hp.store ak.rat 28 s.2.1),(8,Hp.box 28 (qC (s.2.2)))]) hl18 (.k rfl<|.k rfl<|.p rfl .sl<|.k rfl<|.k rfl<|.k rfl<|trivial) (.of rfl) rfl rfl ?_);rintro⟨v14,v15,v16⟩ st19 hb20;have h:dp v3 v8 v14 v15 v16=some st19:=hb20;unfold dp at h
    try dsimp only
    refine .al (.cm rfl rfl rfl<|.nil) rfl ?_;refine .sq ?_;by_cases c21:(decide (v14<(v8.length:Int)))=true
    ·replace h:=ab c21 h;refine .cq rfl c21 ?_;refine .skip (Ok.on ?_);obtain⟨o22,hp23,h⟩:=bind_some h;refine .cz (fun i=>o22=Ex.cp i) (fun(i:(List (List Rat))×Rat)=>[(2,D.ref 2 0),(5,D.int .i64 v3),(7,D.own 29),(8,D.ref 8 0),(32,D.int .i64 (v8.length:Int)),(33,D.int .i64 v14)]) (fun(i:(List (List Rat))×Rat)=>[(2,Hp.box 28 (qC (0))),(29,Hp.cg ak.rat 68 4000029 ([])),(4000029,Hp.store ak.rat 28 i.1),(8,Hp.box 28 (qC (i.2)))]) ?_ ?_
     ·have ho3:=h;have h:=hp23;refine .block ?_;refine .al (.mv rfl<|.ao rfl<|.nil) rfl ?_;refine .al (.mv rfl<|.ao rfl<|.nil) rfl ?_;obtain⟨v37,hl26,h⟩:=bind_some h;refine .cz (fun i=>v37=i) (fun(i:Int)=>[(2,D.ref 2 0),(5,D.int .i64 v3),(7,D.own 29),(8,D.ref 8 0),(9,D.int .i64 v14),(10,D.int .i64 i),(32,D.int .i64 (v8.length:Int)),(33,D.int .i64 v14)]) (fun(i:Int)=>[(2,Hp.box 28 (qC (0))),(29,Hp.cg ak.rat 68 3000029 ([])),(3000029,Hp.store ak.rat 28 v15),(8,Hp.box 28 (qC (v16)))]) ?_ ?_
      ·have ho4:=h;refine .block (.cc (fun(s:Int)=>[(2,D.ref 2 0),(5,D.int .i64 v3),(7,D.own 29),(8,D.ref 8 0),(9,D.int .i64 v14),(10,D.int .i64 s),(32,D.int .i64 (v8.length:Int)),(33,D.int .i64 v14)]) (fun(s:Int)=>[(2,Hp.box 28 (qC (0))),(29,Hp.cg ak.rat 68 3000029 ([])),(3000029,Hp.store ak.rat 28 v15),(8,Hp.box 28 (qC (v16)))]) hl26 (.of rfl) (.of rfl) rfl rfl ?_);rintro v24 st27 hb28;have h:nJ v3 v14 v15 v24=some st27:=hb28;unfold nJ at h
       try dsimp only
       refine .sq ?_;refine .l4 7 rfl rfl rfl ?_;by_cases c29:(decide (v24<v3))=true
       ·replace h:=ab c29 h;obtain⟨v30,e31,h⟩:=bind_some h;obtain⟨v32,e33,h⟩:=bind_some h;obtain⟨v34,e35,h⟩:=bind_some h;refine .al (.mv rfl<|.mv rfl<|.cm rfl rfl rfl<|.mv rfl<|.gy c29<|.mv rfl<|.gy c29<|.mv rfl<|.gy c29<|.pF rfl rfl aC (ag e31).1 (by have:=jh e31;simpa using this)<|.gy c29<|.sE (cO e31) rfl rfl rfl rfl aH<|.gy c29<|.mv rfl<|.gy c29<|.xj rfl rfl rfl (ag e31).2 aT (ag e33).1 (jh e33) rfl<|.gy c29<|.qq rfl rfl (ag e31).2 (ag e33).2 aa rfl rfl<|.gy c29<|.ah (pz e35) ⟨rfl,trivial⟩ trivial trivial<|.gy c29<|.cm rfl rfl rfl<|.bm rfl c29 rfl<|.nil) rfl ?_;by_cases c36:(v34==0)=true
        ·replace h:=ab c36 h;refine .cq rfl c36 ?_;refine .skip (Ok.on ?_);refine .block ?_;refine .region (.mv rfl<|.ar rfl rfl rfl<|.ao rfl<|.nil) rfl (fun _ _ hs=>⟨(IntKind.i64.wrap (v24+1)),(sj h),hs.sub (.k rfl<|.k rfl<|.p rfl .sl<|.k rfl<|.k rfl<|.k rfl<|.k rfl<|.k rfl<|trivial) (.of rfl) rfl rfl⟩)
        ·replace h:=ae c36 h;refine .cA rfl c36 ?_;refine .exit (fun _ _ hs=>⟨_,(sj h),fun e=>⟨v24,e.symm,hs.sub (.k rfl<|.k rfl<|.p rfl .sl<|.k rfl<|.k rfl<|.k rfl<|.k rfl<|.k rfl<|trivial) (.of rfl) rfl rfl⟩⟩)
       ·replace h:=ae c29 h;refine .al (.mv rfl<|.mv rfl<|.cm rfl rfl rfl<|.mv rfl<|.gm c29<|.gm c29<|.gm c29<|.gm c29<|.gm c29<|.gm c29<|.gm c29<|.gm c29<|.gm c29<|.bh rfl c29 rfl<|.nil) rfl ?_;refine .cA rfl (by decide) ?_;refine .exit (fun _ _ hs=>⟨_,(sj h),fun e=>⟨v24,e.symm,hs.sub (.k rfl<|.k rfl<|.p rfl .sl<|.k rfl<|.k rfl<|.k rfl<|.k rfl<|.k rfl<|trivial) (.of rfl) rfl rfl⟩⟩)
      ·rintro _ rfl
       try dsimp only
       refine .sq ?_;refine .al (.mv rfl<|.mv rfl<|.cm rfl rfl rfl<|.nil) rfl ?_;by_cases c38:(v37==v3)=true
       ·replace h:=ab c38 h;refine .cq rfl c38 ?_;refine .al (.pC (qC (0)) [] az cw trivial trivial ⟨k8,k_,kZ,trivial⟩<|.cH (qC (0)) rfl rfl rfl aa rfl rfl rfl<|.ao rfl<|.nil) rfl ?_;cases h;have h:=ho3;refine .aN (Hi:=[]) (Ho:=[]) (b:=b) (fn:=Go.Proofs.Tryz.f131) (d:=D.gV [qD 0,D.int .i64 0]) (fun _ _ hb=>by exact⟨_,(sj h),fun e=>by subst e;have h:=ho2;cases h;have h:=ho1;cases h;exact hb⟩) rfl (.cons (.agg rfl rfl aa rfl) (.t1 (.tmp rfl))) (.refl _) trivial trivial
       ·replace h:=ae c38 h;refine .cA rfl c38 ?_;refine .skip (Ok.on ?_);obtain⟨o39,hp40,h⟩:=bind_some h;refine .cz (fun i=>o39=i) (fun(i:(List (List Rat))×Rat)=>[(2,D.ref 2 0),(5,D.int .i64 v3),(7,D.own 29),(8,D.ref 8 0),(9,D.int .i64 v14),(32,D.int .i64 (v8.length:Int)),(33,D.int .i64 v14)]) (fun(i:(List (List Rat))×Rat)=>[(2,Hp.box 28 (qC (0))),(29,Hp.cg ak.rat 68 4000029 ([])),(4000029,Hp.store ak.rat 28 i.1),(8,Hp.box 28 (qC (i.2)))]) ?_ ?_
        ·have ho4:=h;have h:=hp40;refine .al (.mv rfl<|.mv rfl<|.cm rfl rfl rfl<|.nil) rfl ?_;by_cases c41:(v37 !=v14)=true
         ·replace h:=ab c41 h;refine .cq rfl c41 ?_;refine .l4 7 rfl rfl rfl ?_;obtain⟨v42,e43,h⟩:=bind_some h;obtain⟨v44,e45,h⟩:=bind_some h;obtain⟨v46,e47,h⟩:=bind_some h;obtain⟨v48,e49,h⟩:=bind_some h;refine .dh cn (.mv rfl<|.mv rfl<|.mv rfl<|.mv rfl<|.mv rfl<|.mv rfl<|.pF rfl rfl aC (ag e43).1 (by have:=jh e43;simpa using this)<|.sE (cO e43) rfl rfl rfl rfl aH<|.mv rfl<|.mv rfl<|.pF rfl rfl aC (ag e45).1 (by have:=jh e45;simpa using this)<|.sE (cO e45) rfl rfl rfl rfl aH<|.pF rfl rfl aC (ag e47).1 (by have:=jh e47;simpa using this)<|.Jn (cO e47) rfl rfl rfl rfl rfl aH<|.pF rfl rfl aC (ag e49).1 (by have:=jh e49;simpa using this)<|.I8 (by have:=cO e49;simpa using this) rfl rfl rfl rfl rfl aH<|.nil) rfl (by kernel_rfl) ?_;refine .FU (r:=29) (s:=3000029) (i:=v37) (k:=v14) 4000029 rfl rfl rfl rfl (ag e47).2 (ag e43).2 ?_;obtain⟨v50,e51,h⟩:=bind_some h;refine .region (.cb (qC (v16)) rfl rfl aa rfl rfl<|.ah (F8 e51) ⟨rfl,trivial⟩ trivial trivial<|.cH (qC (v50)) rfl rfl rfl aa rfl rfl rfl<|.nil) rfl (fun _ _ hs=>⟨(((v15.set v37.toNat v42).set v14.toNat v46),v50),(sj h),hs.sub (.k rfl<|.k rfl<|.p rfl .sl<|.k rfl<|.k rfl<|.k rfl<|.k rfl<|trivial) (.of rfl) rfl rfl⟩)
         ·replace h:=ae c41 h;refine .cA rfl c41 ?_;refine .skip (fun _ _ hs=>⟨(v15,v16),(sj h),hs.l7 (fun r=>match r with|4000029=>3000029|r=>r) (.p rfl (.ref (r:=2))<|.r rfl rfl<|.p rfl (.own (r:=29))<|.p rfl (.ref (r:=8))<|.r rfl rfl<|.r rfl rfl<|.r rfl rfl<|trivial) (.r rfl rfl<|.p rfl (.cg (s:=4000029))<|.r rfl rfl<|.r rfl rfl<|trivial) rfl rfl rfl⟩)
        ·rintro⟨v52,v53⟩ rfl
         try dsimp only
         refine .l4 7 rfl rfl rfl ?_;obtain⟨v54,e55,h⟩:=bind_some h;obtain⟨v56,e57,h⟩:=bind_some h;obtain⟨v58,e59,h⟩:=bind_some h;refine .dh cn (.cb (qC (v53)) rfl rfl aa rfl rfl<|.mv rfl<|.mv rfl<|.pF rfl rfl aC (ag e55).1 (by have:=jh e55;simpa using this)<|.sE (cO e55) rfl rfl rfl rfl aH<|.mv rfl<|.xj rfl rfl rfl (ag e55).2 aT (ag e57).1 (jh e57) rfl<|.qq rfl rfl (ag e55).2 (ag e57).2 aa rfl rfl<|.ah (lA e59) ⟨rfl,rfl,trivial⟩ trivial trivial<|.cH (qC (v58)) rfl rfl rfl aa rfl rfl rfl<|.nil) rfl (by kernel_rfl) ?_;refine .al (.mv rfl<|.ar rfl rfl rfl<|.ao rfl<|.nil) rfl ?_;obtain⟨o62,hl63,h⟩:=bind_some h;have ho4:=h;refine .block (.cc (fun(s:Int×(List (List Rat)))=>[(2,D.ref 2 0),(5,D.int .i64 v3),(7,D.own 29),(8,D.ref 8 0),(9,D.int .i64 v14),(11,D.int .i64 s.1),(32,D.int .i64 (v8.length:Int)),(33,D.int .i64 v14)]) (fun(s:Int×(List (List Rat)))=>[(2,Hp.box 28 (qC (0))),(29,Hp.cg ak.rat 68 4000029 ([])),(4000029,Hp.store ak.rat 28 s.2),(8,Hp.box 28 (qC (v58)))]) hl63 (.k rfl<|.k rfl<|.p rfl .sl<|.k rfl<|.k rfl<|.k rfl<|.k rfl<|.k rfl<|trivial) (.of rfl) rfl rfl ?_);rintro⟨v60,v61⟩ st64 hb65;have h:h_ v3 v14 v60 v61=some st64:=hb65;unfold h_ at h
         try dsimp only
         refine .sq ?_;refine .al (.mv rfl<|.mv rfl<|.cm rfl rfl rfl<|.nil) rfl ?_;by_cases c66:(decide (v60<v3))=true
         ·replace h:=ab c66 h;refine .cq rfl c66 ?_;refine .skip (Ok.on ?_);obtain⟨v103,hp68,h⟩:=bind_some h;refine .cz (fun i=>v103=i) (fun(i:(List (List Rat)))=>[(2,D.ref 2 0),(5,D.int .i64 v3),(7,D.own 29),(8,D.ref 8 0),(9,D.int .i64 v14),(11,D.int .i64 v60),(32,D.int .i64 (v8.length:Int)),(33,D.int .i64 v14)]) (fun(i:(List (List Rat)))=>[(2,Hp.box 28 (qC (0))),(29,Hp.cg ak.rat 68 4000029 ([])),(4000029,Hp.store ak.rat 28 i),(8,Hp.box 28 (qC (v58)))]) ?_ ?_
          ·have ho5:=h;have h:=hp68;refine .block ?_;refine .l4 7 rfl rfl rfl ?_;obtain⟨v69,e70,h⟩:=bind_some h;obtain⟨v71,e72,h⟩:=bind_some h;obtain⟨v73,e74,h⟩:=bind_some h;obtain⟨v75,e76,h⟩:=bind_some h;obtain⟨v77,e78,h⟩:=bind_some h;refine .dh cn (.mv rfl<|.mv rfl<|.pF rfl rfl aC (ag e70).1 (by have:=jh e70;simpa using this)<|.sE (cO e70) rfl rfl rfl rfl aH<|.mv rfl<|.xj rfl rfl rfl (ag e70).2 aT (ag e72).1 (jh e72) rfl<|.qq rfl rfl (ag e70).2 (ag e72).2 aa rfl rfl<|.mv rfl<|.mv rfl<|.pF rfl rfl aC (ag e74).1 (by have:=jh e74;simpa using this)<|.sE (cO e74) rfl rfl rfl rfl aH<|.mv rfl<|.xj rfl rfl rfl (ag e74).2 aT (ag e76).1 (jh e76) rfl<|.qq rfl rfl (ag e74).2 (ag e76).2 aa rfl rfl<|.ah (nX e78) ⟨rfl,rfl,trivial⟩ trivial trivial<|.fW (qC (0)) az ⟨k8,k_,kZ,trivial⟩ rfl<|.cH (qC (v77)) rfl rfl rfl aa rfl rfl rfl<|.nil) rfl (by kernel_rfl) ?_;refine .al (.mv rfl<|.ao rfl<|.nil) rfl ?_;obtain⟨o81,hl82,h⟩:=bind_some h;have ho6:=h;refine .block (.cc (fun(s:Int×(List (List Rat)))=>[(2,D.ref 2 0),(5,D.int .i64 v3),(7,D.own 29),(8,D.ref 8 0),(9,D.int .i64 v14),(11,D.int .i64 v60),(12,D.ref 12 0),(13,D.int .i64 s.1),(32,D.int .i64 (v8.length:Int)),(33,D.int .i64 v14)]) (fun(s:Int×(List (List Rat)))=>[(2,Hp.box 28 (qC (0))),(29,Hp.cg ak.rat 68 4000029 ([])),(4000029,Hp.store ak.rat 28 s.2),(8,Hp.box 28 (qC (v58))),(12,Hp.box 28 (qC (v77)))]) hl82 (.k rfl<|.k rfl<|.p rfl .sl<|.k rfl<|.k rfl<|.k rfl<|.k rfl<|.k rfl<|.k rfl<|.k rfl<|trivial) (.of rfl) rfl rfl ?_);rintro⟨v79,v80⟩ st83 hb84;have h:kM v3 v14 v60 v77 v79 v80=some st83:=hb84;unfold kM at h
           try dsimp only
           refine .sq ?_;refine .al (.mv rfl<|.mv rfl<|.cm rfl rfl rfl<|.nil) rfl ?_;by_cases c85:(decide (v79<v3))=true
           ·replace h:=ab c85 h;refine .cq rfl c85 ?_;refine .skip (Ok.on ?_);refine .sq ?_;refine .block ?_;refine .l4 7 rfl rfl rfl ?_;obtain⟨v86,e87,h⟩:=bind_some h;obtain⟨v88,e89,h⟩:=bind_some h;obtain⟨v90,e91,h⟩:=bind_some h;obtain⟨v92,e93,h⟩:=bind_some h;obtain⟨v94,e95,h⟩:=bind_some h;obtain⟨v96,e97,h⟩:=bind_some h;obtain⟨v98,e99,h⟩:=bind_some h;obtain⟨v100,e101,h⟩:=bind_some h;refine .de cn (.mv rfl<|.mv rfl<|.pF rfl rfl aC (ag e87).1 (by have:=jh e87;simpa using this)<|.sE (cO e87) rfl rfl rfl rfl aH<|.mv rfl<|.mv rfl<|.mv rfl<|.pF rfl rfl aC (ag e89).1 (by have:=jh e89;simpa using this)<|.sE (cO e89) rfl rfl rfl rfl aH<|.mv rfl<|.xj rfl rfl rfl (ag e89).2 aT (ag e91).1 (jh e91) rfl<|.qq rfl rfl (ag e89).2 (ag e91).2 aa rfl rfl<|.cb (qC (v77)) rfl rfl aa rfl rfl<|.mv rfl<|.mv rfl<|.pF rfl rfl aC (ag e93).1 (by have:=jh e93;simpa using this)<|.sE (cO e93) rfl rfl rfl rfl aH<|.mv rfl<|.xj rfl rfl rfl (ag e93).2 aT (ag e95).1 (jh e95) rfl<|.qq rfl rfl (ag e93).2 (ag e95).2 aa rfl rfl<|.ah (lA e97) ⟨rfl,rfl,trivial⟩ trivial trivial<|.ah (tK e99) ⟨rfl,rfl,trivial⟩ trivial trivial<|.xj rfl rfl rfl (ag e87).2 aT (ag e101).1 (jh e101) rfl<|.E0 v98 rfl rfl rfl (ag e87).2 (cO e101) aa rfl rfl rfl<|.nil) rfl (by kernel_rfl) (Ok.on ?_);refine .region (.mv rfl<|.ar rfl rfl rfl<|.ao rfl<|.nil) rfl (fun _ _ hs=>⟨((IntKind.i64.wrap (v79+1)),(v80.set v60.toNat (v86.set v79.toNat v98))),(sj h),hs.sub (.k rfl<|.k rfl<|.p rfl .sl<|.k rfl<|.k rfl<|.k rfl<|.k rfl<|.k rfl<|.k rfl<|.k rfl<|trivial) (.of rfl) rfl rfl⟩)
           ·replace h:=ae c85 h;refine .cA rfl c85 ?_;refine .exit (fun a w hs=>⟨_,(sj h),fun e=>by subst e;have h:=ho6;exact aZ (⟨v80,(sj h),hs.sub (.of rfl) (.of rfl) rfl rfl⟩)⟩)
          ·rintro _ rfl
           try dsimp only
           refine .region (.mv rfl<|.ar rfl rfl rfl<|.ao rfl<|.nil) rfl (fun _ _ hs=>⟨((IntKind.i64.wrap (v60+1)),v103),(sj h),hs.sub (.of rfl) (.of rfl) rfl rfl⟩)
         ·replace h:=ae c66 h;refine .cA rfl c66 ?_;refine .exit (fun a w hs=>⟨_,(sj h),fun e=>by subst e;have h:=ho4;exact aZ (⟨(v61,v58),(sj h),hs.sub (.of rfl) (.of rfl) rfl rfl⟩)⟩)
     ·rintro⟨v105,v106⟩ rfl
      try dsimp only
      refine .region (.ar rfl rfl rfl<|.mv rfl<|.nil) rfl (fun _ _ hs=>⟨((IntKind.i64.wrap (v14+1)),v105,v106),(sj h),hs.l7 (fun r=>match r with|3000029=>4000029|r=>r) (.p rfl (.ref (r:=2))<|.r rfl rfl<|.p rfl (.own (r:=29))<|.p rfl (.ref (r:=8))<|.r rfl rfl<|.r rfl rfl<|trivial) (.r rfl rfl<|.p rfl (.cg (s:=3000029))<|.r rfl rfl<|.r rfl rfl<|trivial) rfl rfl rfl⟩)
    ·replace h:=ae c21 h;refine .cA rfl c21 ?_;refine .exit (fun a w hs=>⟨_,(sj h),fun e=>by subst e;have h:=ho2;exact aZ (⟨v16,(sj h),hs.sub (.of rfl) (.of rfl) rfl rfl⟩)⟩)
   ·rintro v112 rfl
    try dsimp only
    refine .al (.cb (qC (v112)) rfl rfl aa rfl rfl<|.cH (qC (v112)) rfl rfl rfl aa rfl rfl rfl<|.ao rfl<|.nil) rfl ?_;cases h;refine .aN (fun _ _ hb=>hb) rfl (.cons (.agg rfl rfl aa rfl) (.t1 (.tmp rfl))) (.refl _) trivial trivial
def fF(v3:Int)(v8:List (List Rat))(v12:Int)(v13:List (List Rat)):Option (St (Int×(List (List Rat))) (List (List Rat))):=(if(decide (v12<(v8.length:Int)))=true then(ix v13 v12).bind fun v19=>bO ((0:Int)<=v3/\(v19.length+v3.toNat)*56<=140737488355328/\v19.length+v3.toNat<=9223372036854775807) ((ix (v13.set v12.toNat (v19++List.replicate v3.toNat (0:Rat))) v12).bind fun v22=>(fh 1).bind fun v24=>(ix v22 (IntKind.i64.wrap (v3+v12))).bind fun v26=>some (St.next ((IntKind.i64.wrap (v12+1)),((v13.set v12.toNat (v19++List.replicate v3.toNat (0:Rat))).set v12.toNat (v22.set (IntKind.i64.wrap (v3+v12)).toNat v24)))))else some (St.done v13))
def eX(v3:Int)(v39:List (List Rat))(v42:Int)(v43:List (List Rat)):Option (St (Int×(List (List Rat))) (List (List Rat))):=(if(decide (v42<(v39.length:Int)))=true then(ix v43 v42).bind fun v49=>bO ((0:Int)<=v3/\(v3:Int)<=(v49.length:Int)) ((uc v43 v42.toNat v3.toNat).bind fun v52=>(ix v43 v42).bind fun v54=>some (St.next ((IntKind.i64.wrap (v42+1)),(v43.set v42.toNat v52))))else some (St.done v43))
def gF(a1:List (List Rat)):Option ((List (List Rat))×Int):=(dA a1).bind fun(v2,v3,v4)=>(if(!v4)=true then some ([],(2:Int))else(if(v2 !=v3)=true then some ([],(2:Int))else(fz a1).bind fun v8=>((Loop (fun(s:Int×(List (List Rat)))=>fF v3 v8 s.1 s.2) (0,v8)).bind fun v28=>some (v28)).bind fun v29=>((eU v29).bind fun(v32,v33)=>(if(decide (v3>0))=true then(ix v33 (IntKind.i64.wrap (v3-1))).bind fun v36=>(if(v36 !=(IntKind.i64.wrap (v3-1)))=true then some (Ex.ret ([],(8:Int)))else some (Ex.cp v32))else some (Ex.cp v32))).bind fun o30=>(match o30 with|Ex.cp v39=>((Loop (fun(s:Int×(List (List Rat)))=>eX v3 v39 s.1 s.2) (0,v39)).bind fun v56=>some (v56)).bind fun v57=>some (v57,(0:Int))|Ex.ret (r58,r59)=>some (r58,r59))))
theorem Bc{a1:List (List Rat)}{r60:List (List Rat)}{r61:Int}(h:gF a1=some (r60,r61)):aW PP 132 [] [an (ak.slice ak.rat) a1] [] (D.gV [an (ak.slice ak.rat) r60,D.int .i64 r61]):=by
 unfold gF at h;refine .of Go.Proofs.Tryz.func132 rfl (by kernel_rfl) rfl rfl rfl rfl rfl rfl (fun A w0 L b=>?_);show Ok PP _ [(0,an (ak.slice ak.rat) a1)] [] _ _;refine .al (.ao rfl<|.ao rfl<|.nil) rfl ?_;obtain⟨⟨v2,v3,v4⟩,e5,h⟩:=bind_some h;refine .al (.mv rfl<|.ah (fy e5) ⟨rfl,trivial⟩ trivial trivial<|.mv rfl<|.ext rfl rfl<|.ext rfl rfl<|.ext rfl rfl<|.ao rfl<|.ao rfl<|.ao rfl<|.nil) rfl ?_;refine .sq ?_;by_cases c6:(!v4)=true
 ·replace h:=ab c6 h;refine .al (.mv rfl<|.not rfl<|.mv rfl<|.gk c6<|.gk c6<|.gk c6<|.bm rfl c6 rfl<|.nil) rfl ?_;refine .cq rfl rfl ?_;refine .al (.ao rfl<|.ao rfl<|.nil) rfl ?_;cases h;refine .aN (fun _ _ hb=>hb) rfl (.cons (.tmp rfl) (.t1 (.tmp rfl))) (.gV ⟨.gT _,.refl _,trivial⟩) trivial trivial
 ·replace h:=ae c6 h;refine .al (.mv rfl<|.not rfl<|.mv rfl<|.gz c6<|.mv rfl<|.gz c6<|.mv rfl<|.gz c6<|.cm rfl rfl rfl<|.bh rfl c6 rfl<|.nil) rfl ?_;by_cases c7:(v2 !=v3)=true
  ·replace h:=ab c7 h;refine .cq rfl c7 ?_;refine .al (.ao rfl<|.ao rfl<|.nil) rfl ?_;cases h;refine .aN (fun _ _ hb=>hb) rfl (.cons (.tmp rfl) (.t1 (.tmp rfl))) (.gV ⟨.gT _,.refl _,trivial⟩) trivial trivial
  ·replace h:=ae c7 h;refine .cA rfl c7 ?_;refine .skip (Ok.on ?_);obtain⟨v8,e9,h⟩:=bind_some h;refine .al (.mv rfl<|.ah (Hi:=[]) (Ho:=[(25,Hp.cg ak.rat 68 3000025 ([])),(3000025,Hp.store ak.rat 28 v8)]) (d:=D.own 25) (ds:=[an (ak.slice ak.rat) a1]) (.B5 (mW e9) (fun r=>match r with|6=>25|4000006=>3000025|r=>r) (fun r=>match r with|25=>6|3000025=>4000006|r=>r) rfl trivial rfl ⟨.refl rfl,trivial⟩ (.p rfl (.cg (s:=3000025))<|.r rfl rfl<|trivial) rfl (.own (r:=25)) rfl rfl rfl rfl rfl) ⟨rfl,trivial⟩ trivial ⟨rfl,rfl,trivial⟩<|.ao rfl<|.nil) rfl ?_;obtain⟨v29,hp11,h⟩:=bind_some h;refine .cz (fun i=>v29=i) (fun(i:(List (List Rat)))=>[(5,D.int .i64 v3),(7,D.own 25)]) (fun(i:(List (List Rat)))=>[(25,Hp.cg ak.rat 68 3000025 ([])),(3000025,Hp.store ak.rat 28 i)]) ?_ ?_
   ·have ho1:=h;have h:=hp11;refine .l4 7 rfl rfl rfl ?_;refine .al (.mv rfl<|.Hc rfl bn<|.mv rfl<|.nil) rfl ?_;obtain⟨o14,hl15,h⟩:=bind_some h;have ho2:=h;refine .block (.cc (fun(s:Int×(List (List Rat)))=>[(5,D.int .i64 v3),(7,D.own 25),(27,D.int .i64 (v8.length:Int)),(28,D.int .i64 s.1)]) (fun(s:Int×(List (List Rat)))=>[(25,Hp.cg ak.rat 68 3000025 ([])),(3000025,Hp.store ak.rat 28 s.2)]) hl15 (.k rfl<|.p rfl .sl<|.k rfl<|.k rfl<|trivial) (.of rfl) rfl rfl ?_);rintro⟨v12,v13⟩ st16 hb17;have h:fF v3 v8 v12 v13=some st16:=hb17;unfold fF at h
    try dsimp only
    refine .al (.cm rfl rfl rfl<|.nil) rfl ?_;refine .sq ?_;by_cases c18:(decide (v12<(v8.length:Int)))=true
    ·replace h:=ab c18 h;refine .cq rfl c18 ?_;refine .skip (Ok.on ?_);refine .sq ?_;refine .block ?_;refine .al (.mv rfl<|.ao rfl<|.nil) rfl ?_;refine .l4 7 rfl rfl rfl ?_;obtain⟨v19,e20,h⟩:=bind_some h;obtain⟨k21,h⟩:=ax h;refine .al (.mv rfl<|.mv rfl<|.mv rfl<|.mv rfl<|.pF rfl rfl aC (ag e20).1 (by have:=jh e20;simpa using this)<|.sE (cO e20) rfl rfl rfl rfl aH<|.mv rfl<|.IG (s2:=3000038) (r1:=6000038) (r:=25) 0 rfl rfl rfl rfl (ag e20).2 bM (by kernel_rfl) rfl ⟨k8,k_,kZ,trivial⟩ k21.1 k21.2.1 k21.2.2 rfl rfl rfl ⟨by decide,by decide,by decide,by decide⟩<|.pF rfl rfl aC (ag e20).1 (by have:=jh e20;simpa using this)<|.IF (M:=v13) (s2:=4000025) (cO e20) rfl rfl rfl rfl rfl rfl ⟨by decide,by decide,by decide⟩ rfl aH<|.nil) rfl ?_;obtain⟨v22,e23,h⟩:=bind_some h;obtain⟨v24,e25,h⟩:=bind_some h;obtain⟨v26,e27,h⟩:=bind_some h;refine .de cn (.mv rfl<|.mv rfl<|.pF rfl rfl aC (ag e23).1 (by have:=jh e23;simpa using this)<|.sE (cO e23) rfl rfl rfl rfl aH<|.mv rfl<|.mv rfl<|.ar rfl rfl rfl<|.ah (i5 e25) ⟨rfl,trivial⟩ trivial trivial<|.xj rfl rfl rfl (ag e23).2 aT (ag e27).1 (jh e27) rfl<|.E0 v24 rfl rfl rfl (ag e23).2 (cO e27) aa rfl rfl rfl<|.nil) rfl (by kernel_rfl) (Ok.on ?_);refine .region (.ar rfl rfl rfl<|.mv rfl<|.nil) rfl (fun _ _ hs=>⟨((IntKind.i64.wrap (v12+1)),((v13.set v12.toNat (v19++List.replicate v3.toNat (0:Rat))).set v12.toNat (v22.set (IntKind.i64.wrap (v3+v12)).toNat v24))),(sj h),hs.l7 (fun r=>match r with|3000025=>4000025|r=>r) (.r rfl rfl<|.p rfl (.GD (r:=25))<|.r rfl rfl<|.r rfl rfl<|trivial) (.p rfl (.cg (s:=3000025))<|.r rfl rfl<|trivial) rfl rfl rfl⟩)
    ·replace h:=ae c18 h;refine .cA rfl c18 ?_;refine .exit (fun a w hs=>⟨_,(sj h),fun e=>by subst e;have h:=ho2;exact aZ (⟨v13,(sj h),hs.sub (.of rfl) (.of rfl) rfl rfl⟩)⟩)
   ·rintro _ rfl
    try dsimp only
    obtain⟨o30,hp31,h⟩:=bind_some h;refine .cz (fun i=>o30=Ex.cp i) (fun(i:(List (List Rat)))=>[(5,D.int .i64 v3),(7,D.own 25)]) (fun(i:(List (List Rat)))=>[(25,Hp.cg ak.rat 68 3000051 ([])),(3000051,Hp.store ak.rat 28 i)]) ?_ ?_
    ·have ho1:=h;have h:=hp31;refine .l4 7 rfl rfl rfl ?_;obtain⟨⟨v32,v33⟩,e34,h⟩:=bind_some h;refine .al (.mv rfl<|.ah (Hi:=[(25,Hp.cg ak.rat 68 3000025 ([])),(3000025,Hp.store ak.rat 28 v29)]) (Ho:=[(25,Hp.cg ak.rat 68 3000051 ([])),(3000051,Hp.store ak.rat 28 v32),(3000025,Hp.dead)]) (d:=an (ak.int .i64) v33) (ds:=[D.sl 25 v29.length]) (.B5 (m7 e34) (fun r=>match r with|0=>25|400=>3000025|700=>3000051|r=>r) (fun r=>match r with|25=>0|3000025=>400|3000051=>700|r=>r) rfl (.p rfl (.cg (s:=400))<|.r rfl rfl<|trivial) rfl ⟨.GD (r:=0),trivial⟩ (.p rfl (.cg (s:=3000051))<|.r rfl rfl<|.r rfl rfl<|trivial) rfl (.refl rfl) rfl rfl rfl rfl rfl) ⟨rfl,trivial⟩ ⟨rfl,rfl,trivial⟩ ⟨rfl,trivial⟩<|.ao rfl<|.nil) rfl ?_;by_cases c35:(decide (v3>0))=true
     ·replace h:=ab c35 h;obtain⟨v36,e37,h⟩:=bind_some h;refine .al (.mv rfl<|.cm rfl rfl rfl<|.mv rfl<|.gy c35<|.mv rfl<|.gy c35<|.mv rfl<|.gy c35<|.ar rfl rfl rfl<|.gy c35<|.kX rfl rfl dI (ag e37).1 (ag e37).2<|.gy c35<|.iJ rfl dw<|.gy c35<|.mv rfl<|.gy c35<|.ar rfl rfl rfl<|.gy c35<|.cm rfl rfl rfl<|.bm rfl c35 rfl<|.nil) rfl ?_;by_cases c38:(v36 !=(IntKind.i64.wrap (v3-1)))=true
      ·replace h:=ab c38 h;refine .cq rfl c38 ?_;refine .al (.ao rfl<|.ao rfl<|.nil) rfl ?_;cases h;have h:=ho1;cases h;refine .aN (fun _ _ hb=>hb) rfl (.cons (.tmp rfl) (.t1 (.tmp rfl))) (.gV ⟨.gT _,.refl _,trivial⟩) trivial trivial
      ·replace h:=ae c38 h;refine .cA rfl c38 ?_;refine .skip (fun _ _ hs=>⟨v32,(sj h),hs.sub (.k rfl<|.p rfl .sl<|trivial) (.of rfl) rfl rfl⟩)
     ·replace h:=ae c35 h;refine .al (.mv rfl<|.cm rfl rfl rfl<|.mv rfl<|.gm c35<|.gm c35<|.gm c35<|.gm c35<|.gm c35<|.gm c35<|.gm c35<|.gm c35<|.bh rfl c35 rfl<|.nil) rfl ?_;refine .cA rfl (by decide) ?_;refine .skip (fun _ _ hs=>⟨v32,(sj h),hs.sub (.k rfl<|.p rfl .sl<|trivial) (.of rfl) rfl rfl⟩)
    ·rintro v39 rfl
     try dsimp only
     obtain⟨v57,hp41,h⟩:=bind_some h;refine .cz (fun i=>v57=i) (fun(i:(List (List Rat)))=>[(7,D.own 25)]) (fun(i:(List (List Rat)))=>[(25,Hp.cg ak.rat 68 3000051 ([])),(3000051,Hp.store ak.rat 28 i)]) ?_ ?_
     ·have ho1:=h;have h:=hp41;refine .l4 7 rfl rfl rfl ?_;refine .al (.mv rfl<|.Hc rfl bn<|.mv rfl<|.nil) rfl ?_;obtain⟨o44,hl45,h⟩:=bind_some h;have ho2:=h;refine .block (.cc (fun(s:Int×(List (List Rat)))=>[(5,D.int .i64 v3),(7,D.own 25),(65,D.int .i64 (v39.length:Int)),(66,D.int .i64 s.1)]) (fun(s:Int×(List (List Rat)))=>[(25,Hp.cg ak.rat 68 3000051 ([])),(3000051,Hp.store ak.rat 28 s.2)]) hl45 (.k rfl<|.p rfl .sl<|.k rfl<|.k rfl<|trivial) (.of rfl) rfl rfl ?_);rintro⟨v42,v43⟩ st46 hb47;have h:eX v3 v39 v42 v43=some st46:=hb47;unfold eX at h
      try dsimp only
      refine .al (.cm rfl rfl rfl<|.nil) rfl ?_;refine .sq ?_;by_cases c48:(decide (v42<(v39.length:Int)))=true
      ·replace h:=ab c48 h;refine .cq rfl c48 ?_;refine .skip (Ok.on ?_);refine .sq ?_;refine .block ?_;refine .al (.mv rfl<|.ao rfl<|.nil) rfl ?_;refine .l4 7 rfl rfl rfl ?_;obtain⟨v49,e50,h⟩:=bind_some h;obtain⟨k51,h⟩:=ax h;obtain⟨v52,e53,h⟩:=bind_some h;obtain⟨v54,e55,h⟩:=bind_some h;refine .region (.mv rfl<|.mv rfl<|.mv rfl<|.mv rfl<|.pF rfl rfl aC (ag e50).1 (by have:=jh e50;simpa using this)<|.sE (cO e50) rfl rfl rfl rfl aH<|.mv rfl<|.IS rfl rfl rfl (ag e50).2 aT k51.1 k51.2 rfl<|.ah (Hi:=[(3000051,Hp.store ak.rat 28 v43)]) (Ho:=[(3000051,Hp.store ak.rat 28 v43),(77,aR ak.rat 28 v52)]) (d:=D.own 77) (ds:=[D.mv 3000051 v42.toNat v3.toNat 3]) (.B5 (Dn e53) (fun r=>match r with|400=>3000051|7=>77|r=>r) (fun r=>match r with|3000051=>400|77=>7|r=>r) rfl (.r rfl rfl trivial) rfl ⟨.mv (s:=400),trivial⟩ (.r rfl rfl<|.r rfl rfl<|trivial) rfl (.own (r:=77)) rfl rfl rfl rfl rfl) ⟨rfl,trivial⟩ ⟨rfl,trivial⟩ ⟨rfl,trivial⟩<|.pF rfl rfl aC (ag e55).1 (by have:=jh e55;simpa using this)<|.I3 (M:=v43) (s2:=3000025) (cO e55) rfl rfl rfl rfl rfl rfl ⟨by decide,by decide,by decide⟩ rfl aH<|.nil) rfl (Ok.on ?_);refine .region (.ar rfl rfl rfl<|.mv rfl<|.nil) rfl (fun _ _ hs=>⟨((IntKind.i64.wrap (v42+1)),(v43.set v42.toNat v52)),(sj h),hs.l7 (fun r=>match r with|3000051=>3000025|r=>r) (.r rfl rfl<|.p rfl (.GD (r:=25))<|.r rfl rfl<|.r rfl rfl<|trivial) (.p rfl (.cg (s:=3000051))<|.r rfl rfl<|trivial) rfl rfl rfl⟩)
      ·replace h:=ae c48 h;refine .cA rfl c48 ?_;refine .exit (fun a w hs=>⟨_,(sj h),fun e=>by subst e;have h:=ho2;exact aZ (⟨v43,(sj h),hs.sub (.of rfl) (.of rfl) rfl rfl⟩)⟩)
     ·rintro _ rfl
      try dsimp only
      refine .l4 7 rfl rfl rfl ?_;refine .al (.mv rfl<|.ao rfl<|.ao rfl<|.nil) rfl ?_;refine .uF 2 (.own 25) rfl .sl ?_;refine .CB 2 rfl rfl rfl rfl rfl ?_;cases h;refine .aN (fun _ _ hb=>hb) rfl (.cons (.tmp rfl) (.t1 (.tmp rfl))) (.refl _) trivial trivial
end
end Go.Am
