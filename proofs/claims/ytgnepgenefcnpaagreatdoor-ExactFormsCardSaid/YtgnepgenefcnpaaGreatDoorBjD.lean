/- Part 4 of 6 of what the laws of layer 1 share: contracts of functions of the program, each for every argument of its description; no condition beyond it. -/
import Derived.Test.YtgnepgenefcnpaaGreatDoorBjC
set_option linter.unusedVariables false
set_option linter.unusedSimpArgs false
namespace Go.Am
open Go.RowKit
theorem bX(s n:Nat):(dD s n).length=n:=by simp[dD]
theorem Cf{m:Nat}{te:TypeId}{l:List D}{n:Nat}{ε:Env}{w:World}{S:ca}{b:Value}{F:ca}(hm:0<m)(hl:l.length=n*m)(h:lj m te l ε w S b F):∃A cap,b=.slice A n cap/\(0<n->A=some ⟨jj b,0,none⟩):=by
 rcases h with⟨h0,hb,_⟩|⟨g,n',cap,cs,rest,hb,_,_,_,_,_,hln,_⟩
 ·subst h0;have:n=0:=by rcases Nat.mul_eq_zero.1 (show n*m=0 from hl.symm)with h|h<;>omega
  subst this;exact⟨none,0,hb,fun h=>by omega⟩
 ·have:=Nat.eq_of_mul_eq_mul_right hm (hln.symm.trans hl);subst this;exact⟨some ⟨g,0,none⟩,cap,hb,fun _=>by rw[hb];rfl⟩
section
variable {P:Program} {os:List Oper} {c:Ctx} {T T':List (Nat×D)} {H H':List (Nat×Hp)} {sps:List Spec}
variable {ops:Array Oper} {dst:Option Nat} {ty:TypeId} {pos:String} {aft:Array Edge}
variable {α:Type} {e:an α} {te tr:TypeId} {r s:Nat} {M X:List (List α)}
theorem py{ε:Env}{w:World}{S:ca}{b:Value}{F F':ca}(h1:(Hp.dF e te s X).p ε w S b F)(h2:(Hp.store e tr M).p ε w S (ε s) F'):lj 1 te (dD s M.length++X.map (al e)) ε w S b F:=by
 obtain⟨vs,e1,h1⟩:=h1;obtain⟨vs',G,e2,e3,_⟩:=h2;rw[e1]at e2;injection e2 with e2;subst e2
 rwa [e3]at h1
theorem ua{a:Act}{w:World}{ε:Env}{φ:Nat->ca}{t:Nat}{d:D}{K:Nat->Option Hp}(hs:cc c (aG T) K a w ε φ)(hp:d.p ε w (Am.ak c K φ) (a.tmps.getD t undef))(hn:∀r∈d.nm,K r≠none):cc c (aG ((t,d)::T)) K a w ε φ:=by
 refine{hs with t:=?_,tn:=?_}
 ·intro t' d' hd;simp only[aG]at hd
  cases hb:Nat.beq t' t with
  |true=>rw[hb]at hd;injection hd with hd;subst hd;rw[Nat.eq_of_beq_eq_true hb];exact hp
  |false=>rw[hb]at hd;exact hs.t t' d' hd
 ·intro t' d' hd r hr;simp only[aG]at hd
  cases hb:Nat.beq t' t with
  |true=>rw[hb]at hd;injection hd with hd;subst hd;exact hn r hr
  |false=>rw[hb]at hd;exact hs.tn t' d' hd r hr
theorem Ok.Cx{x:Code}{Q:Exit->Act->World->Prop}(t:Nat)(ht:aG T t=some (.own r))(hh:af H r=some (.dF e te s X))(hk:af H s=some (.store e tr M))
  (h:Ok P c ((t,.sl r (M.length+X.length))::T) H x Q):Ok P c T H x Q:=by
 intro a w ⟨ε,φ,hs⟩;have hv:a.tmps.getD t undef=ε r:=(hs.t t _ ht).1;have hrow:=py (hs.h r _ hh) (hs.h s _ hk);obtain⟨A,cap,h1,h2⟩:=Cf (n:=M.length+X.length) (by decide) (by simp[bX]) hrow;refine h a w ⟨ε,φ,ua hs ⟨hv,A,cap,by rw[hv,h1],h2⟩ (fun r' hr'=>?_)⟩;have:r'=r:=by simpa [D.sl]using hr'
 subst this;rw[hh];simp
def DN(xs:List (Operand×D))(r:Nat)(h:Hp)(s:Nat)(k:Hp)(out:D):Spec:={ins:=xs.flatMap fun x=>eL x.1 x.2,dg:=[(r,h),(s,k)],out:=out,cK:=[],news:=[]}
theorem ai.EV{o:Oper}{xs:List (Operand×D)}{h k:Hp}{d:D}(hg:o.guard=none)(he:∀x∈xs,ev T x.1=some x.2)(hh:af H r=some h)(hk:af H s=some k)(hnm:∀r'∈d.nm,r'=r\/r'=s)
  (hrun:∀(ε:Env) (w:World) (S:ca) (a:Act) (F F':ca),(∀x∈xs,x.2.p ε w S (a.eval x.1))->h.p ε w S (ε r) F->k.p ε w S (ε s) F'->∃v,(execOp a.eval o).run P w=.ok (.value v) w/\d.p ε w S v)
  (hr:ai P ops c os (a_ T o.dst d) H sps T' H'):ai P ops c (o::os) T H (DN xs r h s k d::sps) T' H':=by
 refine .cons (sp:=DN xs r h s k d) ?_ (dV he) ⟨hh,hk,trivial⟩ trivial hr;intro hd T0 H0 hi dg _ a w ⟨ε,φ,hs⟩ Q K hK;rw[if_pos (aX hg _)];have hxs:=cl hi;obtain⟨v,hv,hp⟩:=hrun ε w (Am.ak c H0 φ) a (φ r) (φ s) (fun x hx=>(hs.ev (hxs x hx) (aw (he x hx)).2).1) (hs.h r h dg.1) (hs.h s k dg.2.1);simp only[Oper.wp,hv,Oper.upon];refine hK _ _ ⟨ε,φ,hs.put (d:=d) (cI hd) hp (fun r' hr'=>?_)⟩;rcases hnm r' hr' with rfl|rfl
 ·show H0 _≠none;rw[dg.1];simp
 ·show H0 _≠none;rw[dg.2.1];simp
theorem vd{t:TypeId}{z m:Nat}{x:Operand}{d:D}(hd:(dD s M.length++X.map (al e))[z]?=some d)(hm:m=1)(ht:lay P t=some none)(h:ev T x=some (.ref r (z*m)))(hh:af H r=some (.dF e te s X))(hk:af H s=some (.store e tr M))(hnm:∀r'∈d.nm,r'=r\/r'=s)
  (hr:ai P ops c os (a_ T dst d) H sps T' H'):ai P ops c (⟨dst,.load t x,ty,pos,aft,none⟩::os) T H (DN [(x,.ref r (z*m))] r (.dF e te s X) s (.store e tr M) d::sps) T' H':=
 .EV rfl (by simpa using h) hh hk hnm (fun ε w S a F F' ha h1 h2=>by
  subst hm;have hrow:=py h1 h2;have hx:a.eval x=.pointer (some ⟨jj (ε r),z*1,none⟩):=ha (x,.ref r (z*1)) (by simp);rw[Nat.mul_one]at hx;rcases hrow with⟨h,_,_⟩|⟨g,n',cap,cs,rest,hb,_,hg,_,_,_,_,hc⟩
  ·rw[h]at hd;simp at hd
  ·obtain⟨v,hv,hp⟩:=fz hc hd;have hlt:=(List.getElem?_eq_some_iff.1 hv).1;refine⟨v,?_,hp⟩;rw[hb]at hx;simp only[execOp,hx,jj,Instr.loadAt,Instr.sureAddr,Sem.run_bind,Sem.run_pure,Result.andThen_ok,loadVar,(iN ht w).1,Bool.false_eq_true,if_false,run_load,gb hg,List.getElem?_append_left hlt,hv]) hr
theorem ai.rn{t:TypeId}{z:Int}{m:Nat}{x:Operand}(hz:z.toNat<M.length)(h:ev T x=some (.ref r (z.toNat*m)))(hh:af H r=some (.dF e te s X))(hk:af H s=some (.store e tr M))(hm:m=1)(ht:lay P t=some none)
  (hr:ai P ops c os (a_ T dst (.mr s z.toNat)) H sps T' H'):ai P ops c (⟨dst,.load t x,ty,pos,aft,none⟩::os) T H (DN [(x,.ref r (z.toNat*m))] r (.dF e te s X) s (.store e tr M) (.mr s z.toNat)::sps) T' H':=
 vd (by rw[List.getElem?_append_left (by rw[bX];exact hz)];simp[dD,hz]) hm ht h hh hk (fun r' hr'=>.inr (by simpa [D.mr]using hr')) hr
theorem ai.F5{t:TypeId}{z:Int}{m:Nat}{x:Operand}{xs:List α}(hz:M.length<=z.toNat)(hX:X[z.toNat-M.length]?=some xs)(h:ev T x=some (.ref r (z.toNat*m)))(hh:af H r=some (.dF e te s X))(hk:af H s=some (.store e tr M))(hm:m=1)(ht:lay P t=some none)
  (hr:ai P ops c os (a_ T dst (al e xs)) H sps T' H'):ai P ops c (⟨dst,.load t x,ty,pos,aft,none⟩::os) T H (DN [(x,.ref r (z.toNat*m))] r (.dF e te s X) s (.store e tr M) (al e xs)::sps) T' H':=
 vd (by rw[List.getElem?_append_right (by rw[bX];exact hz),bX,List.getElem?_map,hX];rfl) hm ht h hh hk (fun r' hr'=>by cases hr') hr
theorem oy{k:Nat}{xs:List α}{ε:Env}{w:World}{S:ca}{F:ca}{v:Value}(hM:M[k]?=some xs)(h:(Hp.store e tr M).p ε w S (ε s) F)(hv:(D.mr s k).p ε w S v):∃G,(aS e tr xs).p ε w S v G:=by
 obtain⟨_,vs,e1,e2⟩:=hv;obtain⟨vs',G,e3,_,e4,_⟩:=h;rw[e1]at e3;injection e3 with e3;subst e3;exact⟨G k,e4 k xs v hM e2⟩
theorem ai.tY{t:TypeId}{x y:Operand}{k m:Nat}{kd:IntKind}{z:Int}{xs:List α}(hx:ev T x=some (.mr s k))(hy:ev T y=some (.int kd z))(hh:af H s=some (.store e tr M))(hM:M[k]?=some xs)(ht:sle P t=some m)(h0:0<=z)(h1:z<xs.length)(hm:Nat.blt 0 e.n=true)
  (hr:ai P ops c os (a_ T dst (.mc s k (z.toNat*m))) H sps T' H'):
  ai P ops c (⟨dst,.indexAddr t x y,ty,pos,aft,none⟩::os) T H (xr [(x,.mr s k),(y,.int kd z)] s (.store e tr M) (.mc s k (z.toNat*m))::sps) T' H':=
 .ask rfl (two hx hy) hh (fun r' hr'=>.inl (by simpa [D.mc]using hr')) (fun ε w S a F ha hp=>by
  have h2:=ha (x,.mr s k) (by simp);have h3:a.eval y=.int kd z:=ha (y,.int kd z) (by simp);obtain⟨G,hrow⟩:=oy hM hp h2;obtain⟨A,cap,hb,hA⟩:=we (by simpa using hm) hrow;obtain⟨_,vs,e1,e2⟩:=h2;have hA':=hA (by omega);subst hA';dsimp only at hb e2;refine⟨.pointer (some ⟨jj (a.eval x),z.toNat*m,none⟩),?_,vs,_,e1,e2,rfl⟩;generalize jj (a.eval x)=g at hb;simp only[execOp,hb,h3,Sem.run_bind,jS ht g 0 xs.length cap kd z h0 h1 w,Result.andThen_ok,Nat.zero_add]
  rfl) hr
theorem ai.m1{t:TypeId}{x:Operand}{k m n:Nat}{z:Int}{xs:List α}{u:α}(h:ev T x=some (.mc s k (z.toNat*m)))(hh:af H s=some (.store e tr M))(hM:M[k]?=some xs)(hu:xs[z.toNat]?=some u)(ht:lay P t=some (some n))(hm:m=e.n)(hn:n=e.n)
  (hr:ai P ops c os (a_ T dst (.agg (e.c u))) H sps T' H'):ai P ops c (⟨dst,.load t x,ty,pos,aft,none⟩::os) T H (xr [(x,.mc s k (z.toNat*m))] s (.store e tr M) (.agg (e.c u))::sps) T' H':=
 .ask rfl (by simpa using h) hh (fun r' hr'=>by rw[show(D.agg (e.c u)).nm=bz (e.c u)from rfl,e.nm]at hr';cases hr') (fun ε w S a F ha hp=>by
  subst hm;subst hn;obtain⟨vs,v,e1,e2,e3⟩:=ha (x,.mc s k (z.toNat*e.n)) (by simp);obtain⟨vs',G,e4,_,e5,_⟩:=hp;rw[e1]at e4;injection e4 with e4;subst e4;have hrow:=e5 k xs v hM e2;dsimp only at e3;rcases hrow with⟨h,_,_⟩|⟨g,n',cap,cs,rest,hb,_,hg,h1,_,_,_,hc⟩
  ·have h0:=l3 e hu;rw[h]at h0;have h1:(e.c u)=[]:=by rw[←h0];simp
   have h2:e.n=0:=by rw[←e.len u,h1];rfl
   refine⟨.agg #[],?_,[],rfl,(fun u hu=>by cases hu),by rw[h1];trivial⟩;simp only[execOp,e3,Instr.loadAt,Instr.sureAddr,Sem.run_bind,Sem.run_pure,Result.andThen_ok,loadVar,(eo ht w).1,(eo ht w).2,if_true,h2,loadCells,loadCellsFrom]
  ·have hlen:=aF hc;have hlt:=(List.getElem?_eq_some_iff.1 hu).1;have hle:=Nat.mul_le_mul_right e.n (Nat.succ_le_of_lt hlt);rw[bh]at hlen;rw[Nat.succ_mul]at hle;have hq:((cs.drop (z.toNat*e.n)).take e.n).length=e.n:=by simp;omega
   rw[hb]at e3;have hld:=run_loadCells_list (P:=P) w ⟨g,z.toNat*e.n,none⟩ ((cs.drop (z.toNat*e.n)).take e.n) (fun j v hv=>by
    have hj:j<e.n:=by have:=(List.getElem?_eq_some_iff.1 hv).1;omega
    rw[fS,gb hg];rw[List.getElem?_take_of_lt hj,List.getElem?_drop]at hv;rw[List.getElem?_append_left (List.getElem?_eq_some_iff.1 hv).1];exact hv)
   rw[hq]at hld;refine⟨.agg ((cs.drop (z.toNat*e.n)).take e.n).toArray,?_,(cs.drop (z.toNat*e.n)).take e.n,rfl,fun u hu=>h1 u (List.mem_of_mem_drop (List.mem_of_mem_take hu)),?_⟩
   ·simp only[execOp,e3,jj,Instr.loadAt,Instr.sureAddr,Sem.run_bind,Sem.run_pure,Result.andThen_ok,loadVar,(eo ht w).1,(eo ht w).2,if_true,hld]
   ·have:=dO (n:=e.n) (dY (n:=z.toNat*e.n) hc)
    rwa [l3 e hu]at this) hr
theorem B0{te:TypeId}{w:World}{ε:Env}{S:ca}{b:Value}{F:ca}{xs:List α}{u:α}{j:Nat}{vs:List Value}(hp:(aS e te xs).p ε w S b F)(hj:j<xs.length)(hS:∀k,S k->¬F k)(hv1:∀v∈vs,v.oneCell'=true)(hvs:bI ε w S (e.c u) vs)(hn:0<e.n):
  ∃w',(storeCells (⟨jj b,j*e.n,none⟩:Addr) vs).run P w=.ok () w'/\w'.heap.size=w.heap.size/\w'.os=w.os/\w'.tape=w.tape/\w'.output=w.output/\(∀k,¬F k->w'.heap[k]?=w.heap[k]?)/\(aS e te (xs.set j u)).p ε w' S b F:=by
 have hvl:vs.length=e.n:=by rw[aF hvs,e.len]
 have hle:=Nat.mul_le_mul_right e.n (Nat.succ_le_of_lt hj);rw[Nat.succ_mul]at hle;rcases hp with⟨e0,_,_⟩|⟨g,n',cap,cs,rest,hb,eF,hg,h1,hcap,hmax,hln,hcs⟩
 ·have:=bh e xs;rw[e0]at this;have h0:xs.length*e.n=0:=this.symm;omega
 ·have hlen:=aF hcs;rw[bh]at hlen;have hst:=run_storeCells_at (P:=P) g (j*e.n) te vs 0 (cs++rest).toArray w hg (by simp;omega) hv1;simp only[Nat.add_zero,hvl]at hst;have hsplit:(cs++rest).take (j*e.n)++vs++(cs++rest).drop (j*e.n+e.n)=(cs.take (j*e.n)++vs++cs.drop (j*e.n+e.n))++rest:=by
   rw[List.take_append_of_le_length (by omega),List.drop_append_of_le_length (by omega)];simp[List.append_assoc]
  rw[hsplit]at hst;have hfar:∀k,¬F k->(w.setRow g ((cs.take (j*e.n)++vs++cs.drop (j*e.n+e.n))++rest).toArray).heap[k]?=w.heap[k]?:=fun k hk=>eU _ _ _ _ (fun e'=>hk (by rw[eF,e'];rfl));refine⟨w.setRow g ((cs.take (j*e.n)++vs++cs.drop (j*e.n+e.n))++rest).toArray,(by rw[hb];exact hst),by simp[World.setRow],rfl,rfl,rfl,hfar,.inr ⟨g,n',cap,cs.take (j*e.n)++vs++cs.drop (j*e.n+e.n),rest,hb,eF,setRow_heap w g (cs++rest).toArray _ te _ hg,?_,?_,hmax,?_,?_⟩⟩
  ·intro u hu;simp only[List.mem_append]at hu;rcases hu with(hu|hu)|hu
   ·exact h1 u (List.mem_of_mem_take hu)
   ·exact hv1 u hu
   ·exact h1 u (List.mem_of_mem_drop hu)
  ·rw[←hcap];simp;omega
  ·rw[bh,List.length_set,←hln,bh]
  ·rw[←uK e hj u];exact bC (fun k hk _=>⟨hk,hfar k (hS k hk)⟩) (bL (bL (dO _ hcs) hvs) (dY _ hcs)) (fun _ _=>rfl)
theorem ai.CI{t:TypeId}{x y:Operand}{k m n:Nat}{z:Int}{xs:List α}(u:α)(h:ev T x=some (.mc s k (z.toNat*m)))(hy:ev T y=some (.agg (e.c u)))(hh:af H s=some (.store e tr M))(hM:M[k]?=some xs)(hz:z.toNat<xs.length)(ht:lay P t=some (some n))(hm:m=e.n)(hn:n=e.n)(hn0:Nat.blt 0 e.n=true)
  (hr:ai P ops c os (a_ T dst .any) ((s,.store e tr (M.set k (xs.set z.toNat u)))::H) sps T' H'):
  ai P ops c (⟨dst,.store t x y,ty,pos,aft,none⟩::os) T H (ws x (.mc s k (z.toNat*m)) y (.agg (e.c u)) s (.store e tr M) (.store e tr (M.set k (xs.set z.toNat u)))::sps) T' H':=by
 subst hm;subst hn;refine .cons (sp:=ws x (.mc s k (z.toNat*e.n)) y (.agg (e.c u)) s (.store e tr M) (.store e tr (M.set k (xs.set z.toNat u)))) ?_ (aW.2 ⟨(aw h).1,(aw hy).1⟩) ⟨hh,trivial⟩ trivial hr;intro hdst T0 H0 hi dg _ a w ⟨ε,φ,hs⟩ Q K hK;rw[if_pos (aX rfl _)];obtain⟨hi1,hi2⟩:=aW.1 hi;obtain⟨vs,v,e1,e2,hx⟩:=(hs.ev hi1 (aw h).2).1;obtain⟨⟨us,hus,hu1,hua⟩,_⟩:=hs.ev hi2 (aw hy).2;obtain⟨vs',G,e4,e5,e6,e7,e8⟩:=hs.h s _ dg.1;rw[e1]at e4;injection e4 with e4;subst e4;have hk:k<M.length:=(List.getElem?_eq_some_iff.1 hM).1;have hSF:∀i,Am.ak c H0 φ i->¬φ s i:=fun i hi=>hi.2 s (by simp[dg.1]);obtain⟨w',r1,r2,r3,r4,r5,r6,r7⟩:=B0 (P:=P) (u:=u) (e6 k xs v hM e2) hz (fun i hi hg=>hSF i hi ((e8 i).2 ⟨k,hk,hg⟩)) hu1 hua (by simpa using hn0);have hrun:(execOp a.eval ⟨dst,.store t x y,ty,pos,aft,none⟩).run P w=.ok .skip w':=by
  have hsize:(a.eval y).cells.size=e.n:=by rw[hus];simp only[Value.cells];rw[List.size_toArray,aF hua,e.len]
  have hcl:(a.eval y).cells.toList=us:=by rw[hus];simp[Value.cells]
  simp only[execOp,Instr.storeAt,hx,Instr.sureAddr,Sem.run_bind,Sem.run_pure,Result.andThen_ok,storeVar,(eo ht w).2,hsize,ne_eq,not_true_eq_false,if_false,hcl,r1]
 simp only[Oper.wp,hrun,Oper.upon];have hS:=hs.qA (w':=w') (y:=.store e tr (M.set k (xs.set z.toNat u))) dg.1 r2 r3 r4 r5 (fun i hi=>r6 i (fun hg=>hi ((e8 i).2 ⟨k,hk,hg⟩)))
  ⟨vs,G,e1,by rw[e5,List.length_set],(fun k' xs' v' hx' hv'=>by
   by_cases hkk:k=k'
   ·subst hkk;rw[List.getElem?_set_self hk]at hx';injection hx' with hx';subst hx';rw[e2]at hv';injection hv' with hv';subst hv';exact r7
   ·rw[List.getElem?_set_ne hkk]at hx';have hk':=(List.getElem?_eq_some_iff.1 hx').1;exact(aS e tr xs').mono (e6 k' xs' v' hx' hv') (fun _ _=>rfl) (fun i hi _=>⟨hi,r6 i (fun hg=>hSF i hi ((e8 i).2 ⟨k,hk,hg⟩))⟩) (fun i hi=>r6 i (fun hg=>e7 k k' hk hk' hkk i hg hi))),by rw[List.length_set];exact e7,by rw[List.length_set];exact e8⟩ (fun r' hr'=>by cases hr')
 exact hK _ _ ⟨ε,φ,hS.put (d:=.any) (cI hdst) trivial (fun _ h=>by cases h)⟩
end
end Go.Am
namespace Go.Am
open Go.RowKit
def Hp.jM(m:Nat)(ty:TypeId)(l:List D):Hp where
 p:=lj m ty l
 nm:=bz l
 mono:=fun h he hS hF=>mm h he hS hF
def bQ(vs:List Value):List D:=vs.map D.lit
theorem cW(vs:List Value):bz (bQ vs)=[]:=by
 induction vs with
 |nil=>rfl
 |cons v vs ih=>exact ih
theorem jN{ε:Env}{w:World}{S:ca}:∀{vs cs:List Value},bI ε w S (bQ vs) cs↔cs=vs
 |[],[]=>by simp[bQ,bI]
 |[],_::_=>by simp[bQ,bI]
 |_::_,[]=>by simp[bQ,bI]
 |v::vs,u::us=>by
  have:=@jN ε w S vs us;simp only[bQ,List.map_cons,bI]at this|-;rw[this];simp[D.lit]
theorem qZ{s n k:Nat}(h:k<n):(dD s n)[k]?=some (D.mr s k):=by simp[dD,h]
theorem lL{ε:Env}{w:World}{S:ca}{s:Nat}{vs:Array Value}(h:ε s=.agg vs){cs:List Value}(hc:bI ε w S (dD s vs.size) cs):cs=vs.toList:=by
 have hl:=aF hc;rw[bX]at hl;apply List.ext_getElem
 ·simp[hl]
 ·intro k h1 h2;obtain⟨v,hv,hp⟩:=fz hc (qZ (s:=s) (show k<vs.size by omega));obtain⟨_,vs',e1,e2⟩:=hp;rw[h]at e1;injection e1 with e1;subst e1;rw[List.getElem?_eq_getElem h1]at hv;injection hv with hv;rw[hv];have:=Array.getElem?_eq_some_iff.1 e2;obtain⟨h3,h4⟩:=this;simp[←h4]
theorem th{ε:Env}{w:World}{S:ca}{s:Nat}{vs:Array Value}(h:ε s=.agg vs)(h1:∀v∈vs.toList,v.oneCell'=true):bI ε w S (dD s vs.size) vs.toList:=by
 have:∀(n:Nat) (us:List Value),(∀(k:Nat) (v:Value),us[k]?=some v->v.oneCell'=true/\vs[k]?=some v)->us.length=n->bI ε w S (dD s n) us:=by
  intro n
  induction n with
  |zero=>intro us _ hl;have:=List.eq_nil_of_length_eq_zero hl;subst this;exact trivial
  |succ n ih=>
   intro us hk hl;have e:us=us.take n++[us[n]'(by omega)]:=by
    conv=>lhs;rw[←List.take_append_drop n us]
    rw[List.drop_eq_getElem_cons (by omega),List.drop_eq_nil_of_le (by omega)]
   have e2:dD s (n+1)=dD s n++[D.mr s n]:=by simp[dD,List.range_succ]
   rw[e,e2];refine bL (ih _ (fun k v hv=>?_) (by simp;omega)) ⟨?_,trivial⟩
   ·have hlt:=(List.getElem?_eq_some_iff.1 hv).1;rw[List.length_take]at hlt;rw[List.getElem?_take_of_lt (by omega)]at hv;exact hk k v hv
   ·have:=hk n _ (List.getElem?_eq_getElem (by omega));exact⟨this.1,vs,h,this.2⟩
 refine this _ _ (fun k v hv=>⟨h1 v (List.mem_of_getElem? hv),by simpa using hv⟩) (by simp)
theorem qk{ε:Env}{w:World}{S:ca}{l m:List D}{cs:List Value}(h:bI ε w S (l++m) cs):∃us vs,cs=us++vs/\bI ε w S l us/\bI ε w S m vs:=by
 refine⟨cs.take l.length,cs.drop l.length,(List.take_append_drop _ _).symm,?_,?_⟩
 ·have:=dO l.length h
  rwa [List.take_left]at this
 ·have:=dY l.length h
  rwa [List.drop_left]at this
section
variable {P:Program} {os:List Oper} {c:Ctx} {T T':List (Nat×D)} {H H':List (Nat×Hp)} {sps:List Spec}
variable {ops:Array Oper} {dst:Option Nat} {ty:TypeId} {pos:String} {aft:Array Edge}
variable {α:Type} {e:an α} {te tr:TypeId} {r s:Nat} {M X:List (List α)}
theorem p1{ε:Env}{w:World}{S:ca}{b:Value}{F:ca}{vs:Array Value}(hv:ε s=.agg vs)(h:(Hp.dF e te s X).p ε w S b F):lj 1 te (bQ vs.toList++X.map (al e)) ε w S b F:=by
 obtain⟨vs',e1,h⟩:=h;rw[hv]at e1;injection e1 with e1;subst e1;rcases h with⟨h0,h1,h2⟩|⟨g,n,cap,cs,rest,h1,h2,h3,h4,h5,h8,h6,h7⟩
 ·rcases List.append_eq_nil_iff.1 h0 with⟨h3,h4⟩;have:vs.size=0:=by have:=congrArg List.length h3;rwa [bX]at this
  refine .inl ⟨?_,h1,h2⟩;have:vs.toList=[]:=List.eq_nil_of_length_eq_zero (by simpa using this);rw[this,h4];rfl
 ·obtain⟨us,xs,rfl,hu,hx⟩:=qk h7;have:=lL hv hu;subst this;refine .inr ⟨g,n,cap,_,rest,h1,h2,h3,h4,h5,h8,?_,bL (jN.2 rfl) hx⟩;rw[←h6];simp[bQ,bX]
theorem ux{ε:Env}{w:World}{S:ca}{b:Value}{F:ca}{vs:Array Value}(hv:ε s=.agg vs)(h:lj 1 te (bQ vs.toList++X.map (al e)) ε w S b F):(Hp.dF e te s X).p ε w S b F:=by
 refine⟨vs,hv,?_⟩;rcases h with⟨h0,h1,h2⟩|⟨g,n,cap,cs,rest,h1,h2,h3,h4,h5,h8,h6,h7⟩
 ·rcases List.append_eq_nil_iff.1 h0 with⟨h3,h4⟩;have:vs.size=0:=by have:=congrArg List.length h3;simpa [bQ]using this
  refine .inl ⟨?_,h1,h2⟩;rw[this,h4];rfl
 ·obtain⟨us,xs,rfl,hu,hx⟩:=qk h7;have:=jN.1 hu;subst this;refine .inr ⟨g,n,cap,_,rest,h1,h2,h3,h4,h5,h8,?_,bL (th hv (fun v hv=>h4 v (by simp[hv]))) hx⟩;rw[←h6];simp[bQ,bX]
theorem yB{K:List Nat}{q:Nat}:af (K.map fun k=>(k,Hp.dead)) q=if q∈K then some .dead else none:=by
 induction K with
 |nil=>rfl
 |cons k K ih=>
  simp only[List.map_cons,af]
  cases hb:Nat.beq q k with
  |true=>rw[Nat.eq_of_beq_eq_true hb];simp
  |false=>
   have hne:q≠k:=fun e=>by subst e;simp at hb
   dsimp only;rw[ih];simp[hne]
theorem cc.wc{T0:Nat->Option D}{H0:Nat->Option Hp}{a:Act}{w:World}{ε:Env}{φ:Nat->ca}(hs:cc c T0 H0 a w ε φ)(K:List Nat)(hK:∀q∈K,H0 q≠none){s2:Nat}(hs2:H0 s2=none)(hr:H0 r≠none)(hrK:r∉K)
  (vs:Array Value)(G:Nat->ca)(hsz:vs.size=M.length)
  (hrows:∀k xs v,M[k]?=some xs->vs[k]?=some v->(aS e tr xs).p ε w (Am.ak c H0 φ) v (G k))
  (hdj:∀k k',k<M.length->k'<M.length->k≠k'->∀i,G k i->¬G k' i)
  (hG:∀k,k<M.length->∀i,G k i->∃q∈K,φ q i)
  (cK:lj 1 te (bQ vs.toList++X.map (al e)) ε w (Am.ak c H0 φ) (ε r) (φ r)):
  Sat c T0 (bm H0 ((r,.dF e te s2 X)::(s2,.store e tr M)::K.map fun k=>(k,Hp.dead))) a w:=by
 have hr2:r≠s2:=fun e=>hr (e▸hs2);have hK2:∀q∈K,q≠s2:=fun q hq e=>hK q hq (e▸hs2);have hL:∀q,af ((r,Hp.dF e te s2 X)::(s2,Hp.store e tr M)::K.map fun k=>(k,Hp.dead)) q=if q=r then some (Hp.dF e te s2 X)else if q=s2 then some (Hp.store e tr M)else if q∈K then some .dead else none:=by
  intro q;simp only[af]
  cases h1:Nat.beq q r with
  |true=>rw[if_pos (Nat.eq_of_beq_eq_true h1)]
  |false=>
   rw[if_neg (fun e=>by subst e;simp at h1)]
   cases h2:Nat.beq q s2 with
   |true=>rw[if_pos (Nat.eq_of_beq_eq_true h2)]
   |false=>rw[if_neg (fun e=>by subst e;simp at h2)];exact yB
 let φ':Nat->ca:=fun q=>if q=s2 then(fun i=>∃k,k<M.length/\G k i)else if q∈K then noBlocks else φ q
 have f1:φ' s2=fun i=>∃k,k<M.length/\G k i:=by simp[φ']
 have f2:∀q∈K,φ' q=noBlocks:=fun q hq=>by simp[φ',hK2 q hq,hq]
 have f3:∀q,q≠s2->q∉K->φ' q=φ q:=fun q h1 h2=>by simp[φ',h1,h2]
 refine⟨cS ε s2 (.agg vs),φ',(hs.ts (fun q hq=>az _ _ (show q≠s2 from fun e=>hq (e▸hs2))) (fun q hq=>?_) (fun q k hq hk=>?_) (fun q q' hq hq' hne k hk=>?_) (fun q x hq=>?_) (fun q x hq q' hq'=>?_)).1⟩
 ·rw[hL]at hq;refine f3 q (fun e=>?_) (fun h=>?_)
  ·subst e;simp[Ne.symm hr2]at hq
  ·by_cases h1:q=r
   ·subst h1;exact hrK h
   ·simp[h1,hK2 q h,h]at hq
 ·by_cases h2:q=s2
  ·subst h2;rw[f1]at hk;obtain⟨j,hj,hg⟩:=hk;obtain⟨q',h3,h4⟩:=hG j hj k hg;refine⟨q',hK q' h3,?_,h4⟩;rw[hL,if_neg (show q'≠r from fun e=>hrK (e▸h3)),if_neg (hK2 q' h3),if_pos h3];simp
  ·by_cases h3:q∈K
   ·rw[f2 q h3]at hk;exact hk.elim
   ·rw[f3 q h2 h3]at hk;have:q=r:=by
     rw[hL]at hq;by_cases h1:q=r
     ·exact h1
     ·simp[h1,h2,h3]at hq
    subst this;exact⟨q,hr,by rw[hL,if_pos rfl];simp,hk⟩
 ·have cls:∀q,af ((r,Hp.dF e te s2 X)::(s2,Hp.store e tr M)::K.map fun k=>(k,Hp.dead)) q≠none->q=r\/q=s2\/q∈K:=by
   intro q h;rw[hL]at h;by_cases h1:q=r
   ·exact .inl h1
   ·by_cases h2:q=s2
    ·exact .inr (.inl h2)
    ·by_cases h3:q∈K
     ·exact .inr (.inr h3)
     ·simp[h1,h2,h3]at h
  have notG:∀j,j<M.length->∀i,G j i->¬φ r i:=fun j hj i hg hf=>by
   obtain⟨q',h3,h4⟩:=hG j hj i hg;exact hs.dj q' r (hK q' h3) hr (fun e=>hrK (e▸h3)) i h4 hf
  rcases cls q hq with rfl|rfl|h
  ·rw[f3 q hr2 hrK]at hk;rcases cls q' hq' with rfl|rfl|h'
   ·exact absurd rfl hne
   ·rw[f1];rintro⟨j,hj,hg⟩;exact notG j hj k hg hk
   ·rw[f2 q' h'];exact fun h=>h
  ·rw[f1]at hk;obtain⟨j,hj,hg⟩:=hk;rcases cls q' hq' with rfl|rfl|h'
   ·rw[f3 q' hr2 hrK];exact notG j hj k hg
   ·exact absurd rfl hne
   ·rw[f2 q' h'];exact fun h=>h
  ·rw[f2 q h]at hk;exact hk.elim
 ·have hS:∀k,Am.ak c H0 φ k->Am.ak c (bm H0 ((r,Hp.dF e te s2 X)::(s2,Hp.store e tr M)::K.map fun k=>(k,Hp.dead))) φ' k:=by
   intro k hk;refine⟨hk.1,fun q' hq' hf=>?_⟩;by_cases h2:q'=s2
   ·subst h2;rw[f1]at hf;obtain⟨j,hj,hg⟩:=hf;obtain⟨q2,h3,h4⟩:=hG j hj k hg;exact hk.2 q2 (hK q2 h3) h4
   ·by_cases h3:q'∈K
    ·rw[f2 q' h3]at hf;exact hf
    ·rw[f3 q' h2 h3]at hf;refine hk.2 q' (fun h0=>hq' ?_) hf;have h1:q'≠r:=fun e=>hr (e▸h0);simp only[bm];rw[hL,if_neg h1,if_neg h2,if_neg h3];exact h0
  have hS':∀k,Am.ak c H0 φ k->k<w.heap.size->Am.ak c (bm H0 ((r,Hp.dF e te s2 X)::(s2,Hp.store e tr M)::K.map fun k=>(k,Hp.dead))) φ' k/\w.heap[k]?=w.heap[k]?:=fun k hk _=>⟨hS k hk,rfl⟩;rw[hL]at hq;by_cases h1:q=r
  ·subst h1;rw[if_pos rfl]at hq;injection hq with hq;subst hq;rw[az _ _ hr2,f3 q hr2 hrK];refine ux (aq _ _ _) (mm cK (fun q' hq'=>?_) hS' (fun _ _=>rfl));rw[dh (cW _) (ky e X)]at hq';cases hq'
  ·rw[if_neg h1]at hq;by_cases h2:q=s2
   ·subst h2;rw[if_pos rfl]at hq;injection hq with hq;subst hq;rw[f1,aq];exact⟨vs,G,rfl,hsz,fun k xs v hx hv=>(aS e tr xs).mono (hrows k xs v hx hv) (fun q' hq'=>by cases hq') hS' (fun _ _=>rfl),hdj,fun i=>Iff.rfl⟩
   ·rw[if_neg h2]at hq;by_cases h3:q∈K
    ·rw[if_pos h3]at hq;injection hq with hq;subst hq;rw[f2 q h3];rfl
    ·rw[if_neg h3]at hq;cases hq
 ·rw[hL]at hq;by_cases h1:q=r
  ·rw[if_pos h1]at hq;injection hq with hq;subst hq;have:q'=s2:=by simpa [Hp.dF]using hq'
   subst this
   right
   rw[hL,if_neg (Ne.symm hr2),if_pos rfl];simp
  ·rw[if_neg h1]at hq;by_cases h2:q=s2
   ·rw[if_pos h2]at hq;injection hq with hq;subst hq;cases hq'
   ·rw[if_neg h2]at hq;by_cases h3:q∈K
    ·rw[if_pos h3]at hq;injection hq with hq;subst hq;cases hq'
    ·rw[if_neg h3]at hq;cases hq
theorem ai.FX{t te:TypeId}{r:Nat}{parts:List (Nat×Operand)}{m bt n:Nat}{z:List D}(l:List D)(q:List (Nat×Operand×D×List D))(hm:mM P t=some (te,m,bt,z))(hs:Nat.ble (n*m) 16777216=true)(hn0:Nat.blt 0 n=true)(hq:gR (AG m 0 n) (n*m) parts q)(he:∀x∈qs q,ev T x.1=some x.2)
  (hle:over (List.replicate n z).flatten q=l)(hln:l.length=n*m)(hnq:∀r'∈bz l,∃x∈qs q,r'∈x.2.nm)(hf:af H r=none)
  (hr:ai P ops c os ((r,.own r)::T) ((r,Hp.jM m te l)::H) sps T' H'):
  ai P ops c (⟨some r,.buildSlice t n parts.toArray,ty,pos,aft,none⟩::os) T H (rws (qs q) r (Hp.jM m te l)::sps) T' H':=by
 refine .cons (sp:=rws (qs q) r (Hp.jM m te l)) ?_ (dV he) trivial ⟨hf,trivial⟩ hr;intro hd T0 H0 hi _ hnew a w ⟨ε,φ,hs'⟩ Q K hK;rw[if_pos (aX rfl _)];have hx:∀x∈qs q,eP T0 (eL x.1 x.2):=cl hi;obtain⟨i,v,hu,hinf,hzv,hsz,_,ez,hv1,hvs,hm0⟩:=fW hm;obtain⟨hpl,hg⟩:=iZ hq;have hn1:0<n:=by simpa using hn0
 have hcs:=fq hvs hm0 n;have hz0:bI ε w (ak c H0 φ) (List.replicate n z).flatten (madeCells v.cells (n*m)).toList:=by rw[hcs,ez];exact fL (i2 _ _ _ _) _
 have hzl:(List.replicate n z).flatten.length=n*m:=by
  have h1:v.cells.toList.length=m:=by rw[Array.length_toList,hvs]
  rw[fG,ez,List.length_map,h1]
 obtain⟨cs',hfl,hA,hO⟩:=kp (a:=a) (place:=fun i=>some (i*m,m)) hpl (fun k u x hu' hx=>by
  have:=hg k u x hu' hx;have h2:=pQ m 0 n u.1 _ this.2.1;simp only[Prod.mk.injEq,Nat.zero_add]at h2;exact⟨this.1,by rw[h2.1,h2.2],this.2.2.1,by rw[hzl];exact this.2.2.2⟩) hz0 (by
   intro u hu';rw[hcs]at hu';simp only[List.mem_flatten,List.mem_replicate]at hu';obtain⟨l',⟨_,rfl⟩,hu'⟩:=hu';exact hv1 u hu') (fun x hxm=>(hs'.ev (hx (x.2.1,x.2.2.1) (List.mem_map.2 ⟨x,hxm,rfl⟩)) (aw (he (x.2.1,x.2.2.1) (List.mem_map.2 ⟨x,hxm,rfl⟩))).2).1)
 have live:∀r'∈bz l,H0 r'≠none:=fun r' hr'=>by
  obtain⟨x,hxm,hr2⟩:=hnq r' hr';exact(hs'.ev (hx x hxm) (aw (he x hxm)).2).2 r' hr2
 have hlim:¬(n*m>2^24):=by have:=Nat.le_of_ble_eq_true hs;omega
 have hf':Instr.fill (fun i=>some (i*m,m)) (madeCells v.cells (n*m)) (parts.map fun x=>(x.1,a.eval x.2))=some cs':=hfl;have h0:¬(n*m=0):=by
  intro h;rcases Nat.mul_eq_zero.1 h with h|h<;>omega
 have hrun:(execOp a.eval ⟨some r,.buildSlice t n parts.toArray,ty,pos,aft,none⟩).run P w=.ok (.value (.slice (some ⟨w.heap.size,0,none⟩) n n)) (w.alloc (.cells cs' te)):=by
  simp only[execOp,Instr.buildSlice,run_underlying hu,Sem.run_bind,Result.andThen_ok,sizeOf,typeInfo,run_program,hinf,Sem.run_pure,hsz];simp[hlim,h0,zeroValue,typeInfo,hinf,hzv,newRow];rw[show(Array.map (fun x=>v.cells[x%v.cells.size]!) (Array.range (n*m)))=madeCells v.cells (n*m)from rfl,hf'];simp
 simp only[Oper.wp,hrun,Oper.upon];rw[hle]at hA;have hlen:=aF hA;have hmx:n<=maxLen:=by
  have h1:=Nat.le_of_ble_eq_true hs;have h2:n*1<=n*m:=Nat.mul_le_mul_left _ hm0;unfold maxLen;omega
 have hA':bI (cS ε r (.slice (some ⟨w.heap.size,0,none⟩) n n)) (w.alloc (.cells cs' te)) (Am.ak c (bm H0 [(r,Hp.jM m te l)]) (cS φ r (only w.heap.size))) (l) cs'.toList:=by
  refine bC (fun k hk hlt=>⟨⟨hk.1,fun r' hr'=>?_⟩,Below.heap_alloc _ _ _ hlt⟩) hA (fun r' hr'=>az _ _ (fun e'=>live r' hr' (e'▸hnew.1)));rw[bj]at hr';by_cases e':r'=r
  ·subst e';rw[aq];intro hf';simp only[only]at hf';omega
  ·rw[az _ _ e']at hr'|-;exact hk.2 r' hr'
 have hN:=hs'.jW (x:=Hp.jM m te l) (b:=.slice (some ⟨w.heap.size,0,none⟩) n n) (F:=only w.heap.size) (w':=w.alloc (.cells cs' te)) (r:=r) hnew.1 ((Below.refl _ _).alloc (Nat.le_refl _) _)
  (fun k hk=>by simp only[only]at hk;subst hk;simp)
  (.inr ⟨w.heap.size,n,n,cs'.toList,[],rfl,rfl,by rw[gd,List.append_nil],hO,by rw[List.append_nil,hlen,hln],hmx,hln,hA'⟩) live
 exact hK _ _ ⟨_,_,hN.put (dst:=some r) (d:=.own r) (cI hd) ⟨(aq _ _ _).symm,rfl⟩ (by simp[D.own,bj,aq])⟩
end
end Go.Am
namespace Go.Am
open Go.RowKit
theorem ou{H:Nat->Option Hp}{r:Nat}{y:Hp}{L:List (Nat×Hp)}(h:af L r≠none):bm (bm H [(r,y)]) L=bm H L:=by
 funext q
 simp only[bm]
 cases hq:af L q with
 |some _=>rfl
 |none=>
  simp only[af]
  cases hb:Nat.beq q r with
  |true=>rw[Nat.eq_of_beq_eq_true hb]at hq;exact absurd hq h
  |false=>rfl
theorem kG{α:Type}(e:an α):∀X:List (List α),flat (an.slice e) X=X.map (al e)
 |[]=>rfl
 |x::X=>by
  have ih:=kG e X;show(x::X).flatMap (fun l=>[al e l])=_;rw[List.flatMap_cons,List.map_cons];show [al e x]++flat (an.slice e) X=_;rw[ih];rfl
theorem mP(vs:List Value):(bQ vs).length=vs.length:=by simp[bQ]
section
variable {P:Program} {os:List Oper} {c:Ctx} {T T':List (Nat×D)} {H H':List (Nat×Hp)} {sps:List Spec}
variable {ops:Array Oper} {dst:Option Nat} {ty:TypeId} {pos:String} {aft:Array Edge}
variable {α:Type} {e:an α} {te tr:TypeId} {r s:Nat} {M X:List (List α)}
theorem Ok.Ci{α:Type}{x:Code}{Q:Exit->Act->World->Prop}(e:an α)(t r s:Nat)(te tr:TypeId)(ht:aG T t=some .nil)(hf:af H r=none)(hf2:af H s=none)(hne:Nat.beq r s=false)
  (h:Ok P c ((t,.own r)::T) ((r,.dF e te s [])::(s,.store e tr [])::H) x Q):Ok P c T H x Q:=by
 intro a w ⟨ε,φ,hs⟩;have hne':r≠s:=fun e=>by subst e;simp at hne
 have hN:=hs.jW (x:=.store e tr []) (b:=.agg #[]) (F:=noBlocks) (r:=s) hf2 (Below.refl _ _) (fun k hk=>hk.elim)
  ⟨#[],fun _=>noBlocks,rfl,rfl,(fun k xs v hx=>by simp at hx),(fun k k' hk=>by simp at hk),fun i=>⟨fun h=>h.elim,fun⟨k,hk,_⟩=>by simp at hk⟩⟩ (fun r' hr'=>by cases hr')
 have hr0:bm (af H) [(s,Hp.store e tr [])] r=none:=by rw[bj,az _ _ hne'];exact hf
 have hN2:=hN.jW (x:=.dF e te s []) (b:=.slice none 0 0) (F:=noBlocks) (r:=r) hr0 (Below.refl _ _) (fun k hk=>hk.elim)
  ⟨#[],by rw[az _ _ (Ne.symm hne'),aq],.inl ⟨rfl,rfl,rfl⟩⟩ (fun r' hr'=>by
   have:r'=s:=by simpa [Hp.dF]using hr'
   subst this;rw[bj,aq];simp)
 have hv:a.tmps.getD t undef=.slice none 0 0:=hs.t t _ ht;refine h a w ⟨_,_,ua (Sat_ext' hN2 (fun r'=>?_)) ⟨by rw[hv,aq],by rw[hv];rfl⟩ (fun r' hr'=>?_)⟩
 ·rw[bg,bg];rfl
 ·have:r'=r:=by simpa [D.own]using hr'
  subst this;simp[af]
where
 Sat_ext' {c:Ctx} {T:Nat->Option D} {H H':Nat->Option Hp} {a:Act} {w:World} {ε:Env} {φ:Nat->ca} (h:cc c T H a w ε φ) (hH:∀r,H r=H' r):cc c T H' a w ε φ:=by
  have:H=H':=funext hH;subst this;exact h
theorem Ok.FA{α:Type}{x:Code}{Q:Exit->Act->World->Prop}{e:an α}{te:TypeId}{X:List (List α)}(r s:Nat)(tr:TypeId)(hh:af H r=some (aS (an.slice e) te X))(hf:af H s=none)
  (h:Ok P c T ((r,.dF e te s X)::(s,.store e tr [])::H) x Q):Ok P c T H x Q:=by
 intro a w ⟨ε,φ,hs⟩;have hne:r≠s:=fun e=>by subst e;rw[hh]at hf;cases hf
 have hN:=hs.jW (x:=.store e tr []) (b:=.agg #[]) (F:=noBlocks) (r:=s) hf (Below.refl _ _) (fun k hk=>hk.elim)
  ⟨#[],fun _=>noBlocks,rfl,rfl,(fun k xs v hx=>by simp at hx),(fun k k' hk=>by simp at hk),fun i=>⟨fun h=>h.elim,fun⟨k,hk,_⟩=>by simp at hk⟩⟩ (fun r' hr'=>by cases hr')
 have hr0:bm (af H) [(s,Hp.store e tr [])] r=some (aS (an.slice e) te X):=by rw[bj,az _ _ hne];exact hh
 have hrow:=hN.h r _ hr0;have hfl:flat (an.slice e) X=X.map (al e):=kG e X;have hT:=hN.tell (y:=.dF e te s X) hr0 ⟨#[],aq _ _ _,by
  have h2:lj 1 te (flat (an.slice e) X) _ _ _ _ _:=hrow;rw[hfl]at h2;exact h2⟩ (fun r' hr'=>by
   have:r'=s:=by simpa [Hp.dF]using hr'
   subst this;rw[bj,aq];simp)
 refine h a w (Sat.ext (T:=aG T) (H:=bm (bm (af H) [(s,.store e tr [])]) [(r,.dF e te s X)]) ⟨_,_,hT⟩ (fun _=>rfl) (fun r'=>?_));rw[bg,bg];rfl
theorem ks{e:an α}{te:TypeId}{xs:List α}{ε:Env}{w:World}{S S':ca}{b:Value}{F:ca}(h:(aS e te xs).p ε w S b F)(hm:0<e.n)(hS:∀k,S k->S' k)(hF:∀k,F k->S' k):(al e xs).p ε w S' b:=by
 rcases h with⟨e0,eb,_⟩|⟨g,n',cap,cs,rest,eb,eF',hg,h1',hcap,_,hln,hcs⟩
 ·have h0:=bh e xs;rw[e0]at h0;have:xs.length=0:=by rcases Nat.mul_eq_zero.1 h0.symm with h|h<;>omega
  exact⟨none,0,by rw[eb,this],by omega,bh e xs,.inl this⟩
 ·have hn':n'=xs.length:=Nat.eq_of_mul_eq_mul_right hm (hln.symm.trans (bh e xs));subst hn';refine⟨some ⟨g,0,none⟩,cap,eb,?_,bh e xs,.inr ⟨g,0,rfl,hF g (by rw[eF'];rfl),(cs++rest).toArray,te,(0,0),cs,hg,fun j u hj=>?_,h1',?_⟩⟩
  ·have hle:xs.length*e.n<=cap*e.n:=by rw[←hcap,List.length_append,aF hcs,bh];omega
   exact Nat.le_of_mul_le_mul_right hle hm
  ·rw[Nat.zero_add];simp only[List.getElem?_toArray];rw[List.getElem?_append_left (List.getElem?_eq_some_iff.1 hj).1];exact hj
  ·exact bC (fun k hk _=>⟨hS k hk,rfl⟩) hcs (by rw[et];intro r' hr';cases hr')
theorem Ok.D7{x:Code}{Q:Exit->Act->World->Prop}(t:Nat)(ht:aG T t=some (.own r))(hh:af H r=some (.dF e te s []))(hk:af H s=some (.store e tr M))(hm:Nat.blt 0 e.n=true)(hne:Nat.beq r s=false)
  (h:Ok P c ((t,al (an.slice e) M)::T) ((r,.dead)::(s,.dead)::H) x Q):Ok P c T H x Q:=by
 intro a w ⟨ε,φ,hs⟩;have hm0:0<e.n:=by simpa using hm
 have hne':r≠s:=fun e=>by subst e;simp at hne
 have hv:a.tmps.getD t undef=ε r:=(hs.t t _ ht).1;have cK:=hs.h r _ hh;have hsto:=hs.h s _ hk;have hrow:=py cK hsto
 let φ':Nat->ca:=cS (cS φ r noBlocks) s noBlocks
 have f1:φ' r=noBlocks:=by show cS (cS φ r noBlocks) s noBlocks r=_;rw[az _ _ hne',aq]
 have f2:φ' s=noBlocks:=aq _ _ _;have f3:∀q,q≠r->q≠s->φ' q=φ q:=fun q h1 h2=>by show cS (cS φ r noBlocks) s noBlocks q=_;rw[az _ _ h2,az _ _ h1]
 have hL:∀q,af [(r,Hp.dead),(s,Hp.dead)] q=if q=r then some .dead else if q=s then some .dead else none:=by
  intro q;simp only[af]
  cases h1:Nat.beq q r with
  |true=>rw[if_pos (Nat.eq_of_beq_eq_true h1)]
  |false=>
   rw[if_neg (fun e=>by subst e;simp at h1)]
   cases h2:Nat.beq q s with
   |true=>rw[if_pos (Nat.eq_of_beq_eq_true h2)]
   |false=>rw[if_neg (fun e=>by subst e;simp at h2)]
 have cls:∀q,af [(r,Hp.dead),(s,Hp.dead)] q≠none->φ' q=noBlocks:=by
  intro q h;rw[hL]at h;by_cases h1:q=r
  ·rw[h1,f1]
  ·by_cases h2:q=s
   ·rw[h2,f2]
   ·simp[h1,h2]at h
 have hR:=hs.ts (L:=[(r,.dead),(s,.dead)]) (ε':=ε) (φ':=φ') (fun _ _=>rfl) (fun q hq=>by
   rw[hL]at hq;by_cases h1:q=r
   ·simp[h1]at hq
   ·by_cases h2:q=s
    ·simp[h1,h2]at hq
    ·exact f3 q h1 h2) (fun q k hq hk=>by rw[cls q hq]at hk;exact hk.elim) (fun q q' hq hq' _ k hk=>by rw[cls q hq]at hk;exact hk.elim)
   (fun q y hq=>by
    have:φ' q=noBlocks:=cls q (by rw[hq];simp);rw[hL]at hq;by_cases h1:q=r
    ·rw[if_pos h1]at hq;injection hq with hq;subst hq;exact this
    ·rw[if_neg h1]at hq;by_cases h2:q=s
     ·rw[if_pos h2]at hq;injection hq with hq;subst hq;exact this
     ·rw[if_neg h2]at hq;cases hq)
   (fun q y hq q' hq'=>by
    rw[hL]at hq;by_cases h1:q=r
    ·rw[if_pos h1]at hq;injection hq with hq;subst hq;cases hq'
    ·rw[if_neg h1]at hq;by_cases h2:q=s
     ·rw[if_pos h2]at hq;injection hq with hq;subst hq;cases hq'
     ·rw[if_neg h2]at hq;cases hq)
 have hSr:∀q,(q=r\/q=s)->∀k,φ q k->Am.ak c (bm (af H) [(r,.dead),(s,.dead)]) φ' k:=by
  intro q hq k hk;have hq0:af H q≠none:=by rcases hq with rfl|rfl<;>simp[hh,hk]
  have hlo:=hs.lo q hq0 k hk;refine⟨hlo.1.elim (fun h=>.inr (.inl h)) (fun h=>.inr (.inr h)),fun q' hq' hf=>?_⟩;by_cases h1:q'=r
  ·rw[h1,f1]at hf;exact hf
  ·by_cases h2:q'=s
   ·rw[h2,f2]at hf;exact hf
   ·rw[f3 q' h1 h2]at hf;have h0:af H q'≠none:=by
     intro h0;apply hq';simp only[bm];rw[hL,if_neg h1,if_neg h2];exact h0
    exact hs.dj q q' hq0 h0 (by rcases hq with rfl|rfl<;>exact Ne.symm (by assumption)) k hk hf
 refine h a w ⟨ε,φ',pX (by
  have:=hR.1;rw[bg]at this;exact this) ?_ rfl⟩
 have hreg:∀k,Am.ak c (af H) φ k->Am.ak c (af ([(r,Hp.dead),(s,Hp.dead)]++H)) φ' k:=by rw[←bg];exact hR.2
 rw[bg]at hSr;obtain⟨vs,G,e1,e2,e3,e4,e5⟩:=hsto;rw[List.map_nil,List.append_nil]at hrow;have hfl:flat (an.slice e) M=M.map (al e):=kG e M;have hrow2:lj 1 te (M.map (al e)) ε w (Am.ak c (af ([(r,Hp.dead),(s,Hp.dead)]++H)) φ') (ε r) (φ r):=by
  rcases hrow with⟨h0,h1,h2⟩|⟨g,n,cap,cs,rest,h1,h2,h3,h4,h5,h8,h6,h7⟩
  ·have:M.length=0:=by have:=congrArg List.length h0;rwa [bX]at this
   have:M=[]:=List.eq_nil_of_length_eq_zero this;exact .inl ⟨by rw[this];rfl,h1,h2⟩
  ·refine .inr ⟨g,n,cap,cs,rest,h1,h2,h3,h4,h5,h8,by rw[←h6];simp[bX],?_⟩;have hcl:=aF h7;rw[bX]at hcl;have key:∀(N:List (List α)) (us:List Value),us.length=N.length->(∀(k:Nat) (xs:List α) (v:Value),N[k]?=some xs->us[k]?=some v->(al e xs).p ε w (Am.ak c (af ([(r,Hp.dead),(s,Hp.dead)]++H)) φ') v)->bI ε w (Am.ak c (af ([(r,Hp.dead),(s,Hp.dead)]++H)) φ') (N.map (al e)) us:=by
    intro N
    induction N with
    |nil=>intro us hl _;have:=List.eq_nil_of_length_eq_zero hl;subst this;exact trivial
    |cons x N ih=>
     intro us hl hk'
     cases us with
     |nil=>simp at hl
     |cons u us=>
      exact⟨hk' 0 x u rfl rfl,ih us (by simpa using hl) (fun k xs v hx hv=>hk' (k+1) xs v (by simpa using hx) (by simpa using hv))⟩
   refine key M cs hcl (fun k xs v hx hv=>?_);have hkl:k<M.length:=(List.getElem?_eq_some_iff.1 hx).1;have hv2:vs[k]?=some v:=by
    have:=lL (s:=s) (S:=Am.ak c (af H) φ) (w:=w) e1 (by rw[e2];exact h7);rw[this]at hv;simpa using hv
   exact ks (e3 k xs v hx hv2) hm0 hreg (fun i hi=>hSr s (.inr rfl) i ((e5 i).2 ⟨k,hkl,hi⟩))
 have:=ks (e:=an.slice e) (te:=te) (xs:=M) (F:=φ r) (S:=Am.ak c (af ([(r,Hp.dead),(s,Hp.dead)]++H)) φ') (by show lj 1 te (flat (an.slice e) M) _ _ _ _ _;rw[hfl];exact hrow2) (show 0<1 by decide) (fun _ h=>h) (fun i hi=>hSr r (.inl rfl) i hi);rw[hv];exact this
end
end Go.Am
namespace Go.Am
open Go.RowKit
section
variable {P:Program} {os:List Oper} {c:Ctx} {T T':List (Nat×D)} {H H':List (Nat×Hp)} {sps:List Spec}
variable {ops:Array Oper} {dst:Option Nat} {ty:TypeId} {pos:String} {aft:Array Edge}
variable {α:Type} {e:an α} {te tr:TypeId} {r s:Nat} {M X:List (List α)}
theorem cc.CC{T0:Nat->Option D}{H0:Nat->Option Hp}{a:Act}{w:World}{ε:Env}{φ:Nat->ca}(hs:cc c T0 H0 a w ε φ){x:Hp}{l:List D}{z:Nat}{d:D}{v:Value}(hr:H0 r=some x)(hx:lj 1 te l ε w (Am.ak c H0 φ) (ε r) (φ r))(hz:z<l.length)(hv:v.oneCell'=true)(hd:d.p ε w (Am.ak c H0 φ) v)(hnm:∀q∈bz (l.set z d),H0 q≠none):
  ∃w',(storeCells (⟨jj (ε r),z,none⟩:Addr) [v]).run P w=.ok () w'/\cc c T0 (bm H0 [(r,.jM 1 te (l.set z d))]) a w' ε φ:=by
 rcases hx with⟨e0,_,_⟩|⟨g,n',cap,cs,rest,hb,eF,hg,h1,hcap,hmax,hln,hcs⟩
 ·subst e0;simp at hz
 ·have hlen:=aF hcs;have hst:=run_storeCells_at (P:=P) g z te [v] 0 (cs++rest).toArray w hg (by simp;omega) (by simpa using hv);simp only[Nat.add_zero,List.length_singleton]at hst;have hsplit:(cs++rest).take z++[v]++(cs++rest).drop (z+1)=cs.set z v++rest:=by
   rw[List.take_append_of_le_length (by omega),List.drop_append_of_le_length (by omega),List.set_eq_take_append_cons_drop,if_pos (by omega)];simp[List.append_assoc]
  rw[hsplit]at hst;have hfar:∀k,¬φ r k->(w.setRow g (cs.set z v++rest).toArray).heap[k]?=w.heap[k]?:=fun k hk=>eU _ _ _ _ (fun e'=>hk (by rw[eF,e'];rfl));refine⟨w.setRow g (cs.set z v++rest).toArray,(by rw[hb];exact hst),hs.qA hr (by simp[World.setRow]) rfl rfl rfl hfar (.inr ⟨g,n',cap,cs.set z v,rest,hb,eF,setRow_heap w g (cs++rest).toArray _ te _ hg,?_,?_,hmax,?_,?_⟩) hnm⟩
  ·intro u hu;rcases List.mem_or_eq_of_mem_set hu with h|rfl
   ·exact h1 u h
   ·exact hv
  ·rw[←hcap];simp
  ·rw[List.length_set];exact hln
  ·exact bC (fun k hk _=>⟨hk,hfar k (hk.2 r (by simp[hr]))⟩) (uu hd z hcs) (fun _ _=>rfl)
theorem yM{l:List D}{x d:D}{Y:List D}{n:Nat}(h:l.length=n):(l++x::Y).set n d=(l++[d])++Y:=by
 subst h;rw[List.set_append_right _ _ (Nat.le_refl _),Nat.sub_self,List.set_cons_zero,List.append_assoc];rfl
theorem oZ(vs:Array Value)(v:Value):bQ (vs.push v).toList=bQ vs.toList++[D.lit v]:=by simp[bQ]
theorem qz(vs:Array Value)(v:Value)(k:Nat)(h:k<vs.size):bQ (vs.set k v h).toList=(bQ vs.toList).set k (D.lit v):=by simp[bQ,List.map_set]
theorem sK{ε:Env}{w:World}{S:ca}{F1:ca}{xs:List α}{vs:Array Value}{G:Nat->ca}{v:Value}(h1:vs.size=M.length)(h2:∀k xs v,M[k]?=some xs->vs[k]?=some v->(aS e tr xs).p ε w S v (G k))(h3:∀k k',k<M.length->k'<M.length->k≠k'->∀i,G k i->¬G k' i)(hx:(aS e tr xs).p ε w S v F1)(hd:∀k,k<M.length->∀i,G k i->¬F1 i):
  ((vs.push v).size=(M++[xs]).length)/\(∀k ys u,(M++[xs])[k]?=some ys->(vs.push v)[k]?=some u->(aS e tr ys).p ε w S u (cS G M.length F1 k))/\(∀k k',k<(M++[xs]).length->k'<(M++[xs]).length->k≠k'->∀i,cS G M.length F1 k i->¬cS G M.length F1 k' i)/\(∀k,k<(M++[xs]).length->∀i,cS G M.length F1 k i->(k<M.length/\G k i)\/F1 i):=by
 have gn:cS G M.length F1 M.length=F1:=aq _ _ _;have gk:∀k,k<M.length->cS G M.length F1 k=G k:=fun k hk=>az _ _ (by omega);refine⟨by simp[h1],fun k ys u hy hu=>?_,fun k k' hk hk' hne i hi=>?_,fun k hk i hi=>?_⟩
 ·by_cases hk:k<M.length
  ·rw[List.getElem?_append_left hk]at hy;rw[Array.getElem?_push_lt (by omega)]at hu;rw[gk k hk];exact h2 k ys u hy (by rw[←hu];simp[h1,hk])
  ·have hlt:=(List.getElem?_eq_some_iff.1 hy).1;simp only[List.length_append,List.length_singleton]at hlt;have:k=M.length:=by omega
   subst this;rw[gn];simp at hy;subst hy;rw[←h1]at hu;simp at hu;subst hu;exact hx
 ·simp only[List.length_append,List.length_singleton]at hk hk';by_cases a1:k<M.length
  ·rw[gk k a1]at hi;by_cases a2:k'<M.length
   ·rw[gk k' a2];exact h3 k k' a1 a2 hne i hi
   ·have:k'=M.length:=by omega
    subst this;rw[gn];exact hd k a1 i hi
  ·have:k=M.length:=by omega
   subst this;rw[gn]at hi;have a2:k'<M.length:=by omega
   rw[gk k' a2];exact fun h=>hd k' a2 i h hi
 ·simp only[List.length_append,List.length_singleton]at hk;by_cases a1:k<M.length
  ·rw[gk k a1]at hi;exact .inl ⟨a1,hi⟩
  ·have:k=M.length:=by omega
   subst this;rw[gn]at hi;exact .inr hi
def DO(x:Operand)(d:D)(y:Operand)(d':D)(Hi Ho:List (Nat×Hp))(nw:List Nat):Spec:={ins:=eL x d++eL y d',dg:=Hi,out:=.any,cK:=Ho,news:=nw}
theorem ai.EZ{t:TypeId}{x y:Operand}{r1 s2 m:Nat}{z:Int}{x0 xs:List α}(hz:z.toNat=M.length)(h:ev T x=some (.ref r (z.toNat*m)))(hy:ev T y=some (.own r1))(hh:af H r=some (.dF e te s (x0::X)))(hk:af H s=some (.store e tr M))(h1:af H r1=some (aS e tr xs))(hf:af H s2=none)
  (hne:r≠s/\r≠r1/\s≠r1)(hm:m=1)(ht:lay P t=some none)
  (hr:ai P ops c os (a_ T dst .any) ((r,.dF e te s2 X)::(s2,.store e tr (M++[xs]))::(s,.dead)::(r1,.dead)::H) sps T' H'):
  ai P ops c (⟨dst,.store t x y,ty,pos,aft,none⟩::os) T H (DO x (.ref r (z.toNat*m)) y (.own r1) [(r,.dF e te s (x0::X)),(s,.store e tr M),(r1,aS e tr xs)] [(r,.dF e te s2 X),(s2,.store e tr (M++[xs])),(s,.dead),(r1,.dead)] [s2]::sps) T' H':=by
 subst hm;refine .cons (sp:=DO x (.ref r (z.toNat*1)) y (.own r1) [(r,.dF e te s (x0::X)),(s,.store e tr M),(r1,aS e tr xs)] [(r,.dF e te s2 X),(s2,.store e tr (M++[xs])),(s,.dead),(r1,.dead)] [s2]) ?_ (aW.2 ⟨(aw h).1,(aw hy).1⟩) ⟨hh,hk,h1,trivial⟩ ⟨hf,trivial⟩ hr;intro hdst T0 H0 hi dg hnew a w ⟨ε,φ,hs⟩ Q K hK;rw[if_pos (aX rfl _)];obtain⟨hi1,hi2⟩:=aW.1 hi;have hx:a.eval x=.pointer (some ⟨jj (ε r),z.toNat*1,none⟩):=(hs.ev hi1 (aw h).2).1;obtain⟨hye,hyo⟩:=(hs.ev hi2 (aw hy).2).1;obtain⟨hr0,hs0,hr10,_⟩:=dg;obtain⟨vs,G,e1,e2,_⟩:=hs.h s _ hs0;have hrow:=p1 e1 (hs.h r _ hr0);have hl1:(bQ vs.toList).length=M.length:=by rw[mP];simpa using e2
 have hset:(bQ vs.toList++(x0::X).map (al e)).set M.length (D.lit (ε r1))=bQ (vs.push (ε r1)).toList++X.map (al e):=by
  rw[List.map_cons,yM hl1,oZ]
 obtain⟨w',hst,hS⟩:=hs.CC (P:=P) (z:=M.length) (d:=D.lit (ε r1)) (v:=ε r1) hr0 hrow (by simp[hl1]) (hye▸hyo) rfl (fun q hq=>by
  rw[hset,dh (cW _) (ky e X)]at hq;cases hq)
 have hrun:(execOp a.eval ⟨dst,.store t x y,ty,pos,aft,none⟩).run P w=.ok .skip w':=by
  have hcl:(a.eval y).cells=#[ε r1]:=by
   have:(ε r1).oneCell'=true:=hye▸hyo;rw[hye];cases hq:ε r1<;>simp_all [Value.cells,Value.oneCell']
  rw[hz,Nat.mul_one]at hx;simp only[execOp,Instr.storeAt,hx,Instr.sureAddr,Sem.run_bind,Sem.run_pure,Result.andThen_ok,storeVar,(iN ht w).2,hcl];simp[hst]
 simp only[Oper.wp,hrun,Oper.upon];rw[hset]at hS;have u1:bm H0 [(r,.jM 1 te (bQ (vs.push (ε r1)).toList++X.map (al e)))] s=some (.store e tr M):=by rw[bj,az _ _ (Ne.symm hne.1)];exact hs0
 have u2:bm H0 [(r,.jM 1 te (bQ (vs.push (ε r1)).toList++X.map (al e)))] r1=some (aS e tr xs):=by rw[bj,az _ _ (Ne.symm hne.2.1)];exact hr10
 have u3:bm H0 [(r,.jM 1 te (bQ (vs.push (ε r1)).toList++X.map (al e)))] r=some (.jM 1 te (bQ (vs.push (ε r1)).toList++X.map (al e))):=by rw[bj,aq]
 have u4:bm H0 [(r,.jM 1 te (bQ (vs.push (ε r1)).toList++X.map (al e)))] s2=none:=by
  rw[bj,az _ _ (fun e=>by rw[←e,hnew.1]at hr0;cases hr0)];exact hnew.1
 obtain⟨vs',G',f1,f2,f3,f4,f5⟩:=hS.h s _ u1;rw[e1]at f1;injection f1 with f1;subst f1;obtain⟨g1,g2,g3,g4⟩:=sK f2 f3 f4 (hS.h r1 _ u2) (fun k hk i hi hi'=>hS.dj s r1 (by rw[u1];simp) (by rw[u2];simp) hne.2.2 i ((f5 i).2 ⟨k,hk,hi⟩) hi');have hG:=hS.wc (r:=r) (te:=te) (X:=X) [s,r1] (fun q hq=>by
   simp only[List.mem_cons,List.not_mem_nil,or_false]at hq;rcases hq with rfl|rfl
   ·rw[u1];simp
   ·rw[u2];simp) u4 (by rw[u3];simp) (by simp[hne.1,hne.2.1]) (vs.push (ε r1)) _ g1 g2 g3 (fun k hk i hi=>(g4 k hk i hi).elim (fun h=>⟨s,by simp,(f5 i).2 ⟨k,h.1,h.2⟩⟩) (fun h=>⟨r1,by simp,h⟩)) (hS.h r _ u3)
 rw[ou (by simp[af])]at hG;obtain⟨ε2,φ2,hG⟩:=hG;exact hK _ _ ⟨ε2,φ2,hG.put (d:=.any) (cI hdst) trivial (fun _ h=>by cases h)⟩
end
end Go.Am
namespace Go.Am
open Go.RowKit
section
variable {P:Program} {os:List Oper} {c:Ctx} {T T':List (Nat×D)} {H H':List (Nat×Hp)} {sps:List Spec}
variable {ops:Array Oper} {dst:Option Nat} {ty:TypeId} {pos:String} {aft:Array Edge}
variable {α:Type} {e:an α} {te tr:TypeId} {r s:Nat} {M X:List (List α)}
theorem ai.FK{t:TypeId}{x y:Operand}{rl r1 r2 s2 bt:Nat}{z:List D}{dx:D}{xs:List α}(hx:ev T x=some dx)(hle:Le dx (.own r))(hy:ev T y=some (.own rl))(hh:af H r=some (.dF e te s []))(hk:af H s=some (.store e tr M))(hl:af H rl=some (.jM 1 te [.own r1]))(h1:af H r1=some (aS e tr xs))
  (hm:mM P t=some (te,1,bt,z))(hb:(M.length+1)*bt<=140737488355328)(hmax:M.length+1<=9223372036854775807)(hf:af H r2=none)(hf2:af H s2=none)(hne:r≠s/\r≠r1/\s≠r1/\r≠rl/\s≠rl/\r1≠rl/\r2≠s2)
  (hr:ai P ops c os ((r2,.own r2)::T) ((r2,.dF e te s2 [])::(s2,.store e tr (M++[xs]))::(s,.dead)::(r1,.dead)::(rl,.dead)::(r,.dead)::H) sps T' H'):
  ai P ops c (⟨some r2,.call {callee:=.builtin .append,args:=#[x,y],argTypes:=#[t,t]},ty,pos,aft,none⟩::os) T H
   ({ins:=eL x dx++eL y (.own rl),dg:=[(r,.dF e te s []),(s,.store e tr M),(rl,.jM 1 te [.own r1]),(r1,aS e tr xs)],out:=.own r2,cK:=[(r2,.dF e te s2 []),(s2,.store e tr (M++[xs])),(s,.dead),(r1,.dead),(rl,.dead),(r,.dead)],news:=[r2,s2]}::sps) T' H':=by
 refine .cons (sp:={ins:=eL x dx++eL y (.own rl),dg:=[(r,.dF e te s []),(s,.store e tr M),(rl,.jM 1 te [.own r1]),(r1,aS e tr xs)],out:=.own r2,cK:=[(r2,.dF e te s2 []),(s2,.store e tr (M++[xs])),(s,.dead),(r1,.dead),(rl,.dead),(r,.dead)],news:=[r2,s2]}) ?_ (aW.2 ⟨(aw hx).1,(aw hy).1⟩) ⟨hh,hk,hl,h1,trivial⟩ ⟨hf,hf2,trivial⟩ hr;intro hdst T0 H0 hi dg hnew a w ⟨ε,φ,hs⟩ Q K hK;rw[if_pos (aX rfl _)];obtain⟨hi1,hi2⟩:=aW.1 hi;have hxe:a.eval x=ε r:=(hle.1 _ _ _ _ (hs.ev hi1 (aw hx).2).1).1;have hye:a.eval y=ε rl:=(hs.ev hi2 (aw hy).2).1.1;obtain⟨hr0,hs0,hl0,hr10,_⟩:=dg;obtain⟨hn1,hn2,_⟩:=hnew;have live:∀q y,H0 q=some y->q≠r2/\q≠s2:=fun q y hq=>⟨fun(e':q=r2)=>(by rw[e',hn1]at hq;cases hq),fun(e':q=s2)=>(by rw[e',hn2]at hq;cases hq)⟩;obtain⟨vs,G,e1,e2,_⟩:=hs.h s _ hs0;have hrow:=p1 e1 (hs.h r _ hr0);rw[List.map_nil,List.append_nil]at hrow;have hT:=hs.tell (y:=.row 1 te (bQ vs.toList) (cW _)) hr0 hrow (fun q hq=>by cases hq);have q1:bm H0 [(r,Hp.row 1 te (bQ vs.toList) (cW _))] r=some (.row 1 te (bQ vs.toList) (cW _)):=by rw[bj,aq]
 have qn:∀q,q≠r->bm H0 [(r,Hp.row 1 te (bQ vs.toList) (cW _))] q=H0 q:=fun q hq=>by rw[bj,az _ _ hq]
 -- the literal
 rcases hs.h rl _ hl0 with⟨h0,_,_⟩|⟨g,n',cap,cs,rest,hb',eF,hg,hc1,hcap,hmaxc,hln,hcs⟩
 ·cases h0
 have hn':n'=1:=by simpa using hln.symm
 subst hn';have hcs1:cs=[ε r1]:=by
  match cs,hcs with
  |[v],h=>rw[h.1.1]
 subst hcs1;have hv1:(ε r1).oneCell'=true:=hc1 _ (by simp);obtain⟨v',w',ε',φ',hrun,hS,ev',ho,hεε⟩:=hT.D6 (P:=P) (ty:=ty) hm (r:=r2) (n1:=M.length) (n2:=1) (l2:=[D.lit (ε r1)]) (l:=bQ (vs.push (ε r1)).toList) (hl:=cW _) q1 (by rw[qn _ (Ne.symm (live r _ hr0).1)];exact hn1) (by rw[mP];simpa using e2) rfl rfl (oZ vs (ε r1)).symm
  (A:=some ⟨g,0,none⟩) (cap2:=cap) (vs:=[ε r1]) (.inr ⟨g,0,rfl,fun j u hj=>by
   rw[Nat.zero_add,gb hg];rw[List.getElem?_append_left (List.getElem?_eq_some_iff.1 hj).1];exact hj⟩) (by simpa using hv1) ⟨rfl,trivial⟩ hb hmax
 have hrun':(Builtin.append_ #[t,t] ty #[a.eval x,a.eval y]).run P w=.ok v' w':=by rw[hxe,hye,hb'];exact hrun
 simp only[Oper.wp,kU a w w' hrun',Oper.upon];have n1:=live r _ hr0;have n2:=live s _ hs0;have n3:=live r1 _ hr10;have n4:=live rl _ hl0;have hUU:bm (bm H0 [(r,Hp.row 1 te (bQ vs.toList) (cW _))]) [(r,.dead),(r2,.row 1 te (bQ (vs.push (ε r1)).toList) (cW _))]=bm H0 [(r,.dead),(r2,.row 1 te (bQ (vs.push (ε r1)).toList) (cW _))]:=ou (by simp[af]);have hcast:cc c T0 (bm H0 [(r,.dead),(r2,.row 1 te (bQ (vs.push (ε r1)).toList) (cW _))]) a w' ε' φ':=by rw[←hUU];exact hS
 clear hS;replace hcast:=hcast.put (dst:=some r2) (d:=.own r2) (cI hdst) ⟨ev'.symm,ho⟩ (fun q hq=>by
  have:q=r2:=by simpa [D.own]using hq
  subst this;rw[fI,az _ _ (Ne.symm (live r _ hr0).1),aq];simp)
 have U:∀q,q≠r->q≠r2->bm H0 [(r,.dead),(r2,.row 1 te (bQ (vs.push (ε r1)).toList) (cW _))] q=H0 q:=fun q h1 h2=>by rw[fI,az _ _ h1,az _ _ h2]
 have u1:=(U s (Ne.symm hne.1) n2.1).trans hs0;have u2:=(U r1 (Ne.symm hne.2.1) n3.1).trans hr10;have u5:=(U rl (Ne.symm hne.2.2.2.1) n4.1).trans hl0;have u3:bm H0 [(r,.dead),(r2,.row 1 te (bQ (vs.push (ε r1)).toList) (cW _))] r2=some (.row 1 te (bQ (vs.push (ε r1)).toList) (cW _)):=by rw[fI,az _ _ (Ne.symm n1.1),aq]
 have u4:=(U s2 (Ne.symm n1.2) (Ne.symm hne.2.2.2.2.2.2)).trans hn2;obtain⟨vs',G',f1,f2,f3,f4,f5⟩:=hcast.h s _ u1;rw[hεε s n2.1,e1]at f1;injection f1 with f1;subst f1;have hx1:=hcast.h r1 _ u2;rw[hεε r1 n3.1]at hx1;obtain⟨g1,g2,g3,g4⟩:=sK f2 f3 f4 hx1 (fun k hk i hi hi'=>hcast.dj s r1 (by rw[u1];simp) (by rw[u2];simp) hne.2.2.1 i ((f5 i).2 ⟨k,hk,hi⟩) hi');have hG:=hcast.wc (r:=r2) (te:=te) (X:=[]) (e:=e) [s,r1,rl] (fun q hq=>by
   simp only[List.mem_cons,List.not_mem_nil,or_false]at hq;rcases hq with rfl|rfl|rfl
   ·rw[u1];simp
   ·rw[u2];simp
   ·rw[u5];simp) u4 (by rw[u3];simp) (by simp[Ne.symm n2.1,Ne.symm n3.1,Ne.symm n4.1]) (vs.push (ε r1)) _ g1 g2 g3 (fun k hk i hi=>(g4 k hk i hi).elim (fun h=>⟨s,by simp,(f5 i).2 ⟨k,h.1,h.2⟩⟩) (fun h=>⟨r1,by simp,h⟩)) (by
    rw[List.map_nil,List.append_nil];exact hcast.h r2 _ u3)
 have hfin:bm (bm H0 [(r,.dead),(r2,.row 1 te (bQ (vs.push (ε r1)).toList) (cW _))]) ((r2,Hp.dF e te s2 [])::(s2,Hp.store e tr (M++[xs]))::[s,r1,rl].map fun k=>(k,Hp.dead))=bm H0 [(r2,.dF e te s2 []),(s2,.store e tr (M++[xs])),(s,.dead),(r1,.dead),(rl,.dead),(r,.dead)]:=by
  funext q
  simp only[bm,af,List.map_cons,List.map_nil];cases Nat.beq q r2<;>cases Nat.beq q s2<;>cases Nat.beq q s<;>cases Nat.beq q r1<;>cases Nat.beq q rl<;>cases Nat.beq q r<;>rfl
 rw[hfin]at hG;exact hK _ _ hG
end
end Go.Am
namespace Go.Am
open Go.RowKit
section
variable {P:Program} {os:List Oper} {c:Ctx} {T T':List (Nat×D)} {H H':List (Nat×Hp)} {sps:List Spec}
variable {ops:Array Oper} {dst:Option Nat} {ty:TypeId} {pos:String} {aft:Array Edge}
variable {α:Type} {e:an α} {te tr:TypeId} {r s:Nat} {M X:List (List α)}
theorem vJ{v:Value}(h:v.oneCell'=true):v.cells=#[v]:=by cases v<;>simp_all [Value.cells,Value.oneCell']
end
end Go.Am
namespace Go.Am
open Go.RowKit
theorem sY.dF{α:Type}{ρ:Nat->Nat}{e:an α}{te:TypeId}{s:Nat}{X:List (List α)}:sY ρ (.dF e te (ρ s) X) (.dF e te s X):=by
 refine⟨fun ε w S b F h=>?_,fun r hr=>?_⟩
 ·obtain⟨vs,e1,_⟩:=id h;have:=p1 e1 h;exact ux (ε:=fun r=>ε (ρ r)) e1 (mm this (by rw[dh (cW _) (ky e X)];intro r hr;cases hr) (fun _ hk _=>⟨hk,rfl⟩) (fun _ _=>rfl))
 ·have:r=s:=by simpa [Hp.dF]using hr
  subst this;simp[Hp.dF]
theorem rK.mr{ρ:Nat->Nat}{s k:Nat}:rK ρ (.mr (ρ s) k) (.mr s k):=⟨fun _ _ _ _ h=>h,fun r' hr'=>by simp[D.mr]at hr'|-;rw[hr']⟩
section
variable {P:Program} {os:List Oper} {c:Ctx} {T T':List (Nat×D)} {H H':List (Nat×Hp)} {sps:List Spec}
variable {ops:Array Oper} {dst:Option Nat} {ty:TypeId} {pos:String} {aft:Array Edge}
variable {α:Type} {e:an α} {te tr:TypeId} {r s:Nat} {M X:List (List α)}
theorem xW{ε:Env}{w:World}{S S':ca}{F F':ca}(cK:(Hp.dF e te s []).p ε w S (ε r) F)(hsto:(Hp.store e tr M).p ε w S (ε s) F')(hm0:0<e.n)(hS:∀k,S k->S' k)(hF:∀k,F k->S' k)(hF':∀k,F' k->S' k):(al (an.slice e) M).p ε w S' (ε r):=by
 have hrow:=py cK hsto;obtain⟨vs,G,e1,e2,e3,e4,e5⟩:=hsto;rw[List.map_nil,List.append_nil]at hrow;have hrow2:lj 1 te (M.map (al e)) ε w S' (ε r) F:=by
  rcases hrow with⟨h0,h1,h2⟩|⟨g,n,cap,cs,rest,h1,h2,h3,h4,h5,h8,h6,h7⟩
  ·have:M.length=0:=by have:=congrArg List.length h0;rwa [bX]at this
   have:M=[]:=List.eq_nil_of_length_eq_zero this;exact .inl ⟨by rw[this];rfl,h1,h2⟩
  ·refine .inr ⟨g,n,cap,cs,rest,h1,h2,h3,h4,h5,h8,by rw[←h6];simp[bX],?_⟩;have hcl:=aF h7;rw[bX]at hcl;have key:∀(N:List (List α)) (us:List Value),us.length=N.length->(∀(k:Nat) (xs:List α) (v:Value),N[k]?=some xs->us[k]?=some v->(al e xs).p ε w S' v)->bI ε w S' (N.map (al e)) us:=by
    intro N
    induction N with
    |nil=>intro us hl _;have:=List.eq_nil_of_length_eq_zero hl;subst this;exact trivial
    |cons x N ih=>
     intro us hl hk'
     cases us with
     |nil=>simp at hl
     |cons u us=>
      exact⟨hk' 0 x u rfl rfl,ih us (by simpa using hl) (fun k xs v hx hv=>hk' (k+1) xs v (by simpa using hx) (by simpa using hv))⟩
   refine key M cs hcl (fun k xs v hx hv=>?_);have hkl:k<M.length:=(List.getElem?_eq_some_iff.1 hx).1;have hv2:vs[k]?=some v:=by
    have:=lL (s:=s) (S:=S) (w:=w) e1 (by rw[e2];exact h7);rw[this]at hv;simpa using hv
   exact ks (e3 k xs v hx hv2) hm0 hS (fun i hi=>hF' i ((e5 i).2 ⟨k,hkl,hi⟩))
 exact ks (e:=an.slice e) (te:=te) (xs:=M) (F:=F) (S:=S') (by show lj 1 te (flat (an.slice e) M) _ _ _ _ _;rw[kG];exact hrow2) (show 0<1 by decide) (fun _ h=>h) hF
def C_(R:List (Nat×Hp))(d d':D):Prop:=∀(ε:Env) (w:World) (S S':ca) (φ:Nat->ca),(∀q h,af R q=some h->h.p ε w S (ε q) (φ q))->(∀k,S k->S' k)->(∀q,af R q≠none->∀k,φ q k->S' k)->∀v,d.p ε w S v->d'.p ε w S' v
def sn(R:List (Nat×Hp)):List D->List D->Prop
 |[],[]=>True
 |d::l,d'::l'=>C_ R d d'/\sn R l l'
 |_,_=>False
theorem sn.all{R:List (Nat×Hp)}{ε:Env}{w:World}{S S':ca}{φ:Nat->ca}(h1:∀q h,af R q=some h->h.p ε w S (ε q) (φ q))(h2:∀k,S k->S' k)(h3:∀q,af R q≠none->∀k,φ q k->S' k):∀{l l':List D} {vs:List Value},sn R l l'->bI ε w S l vs->bI ε w S' l' vs
 |[],[],[],_,_=>trivial
 |[],[],_::_,_,h=>h.elim
 |d::l,d'::l',[],_,h=>h.elim
 |d::l,d'::l',v::vs,hs,h=>⟨hs.1 ε w S S' φ h1 h2 h3 v h.1,sn.all h1 h2 h3 hs.2 h.2⟩
 |[],_::_,_,hs,_=>hs.elim
 |_::_,[],_,hs,_=>hs.elim
theorem C_.dF{R:List (Nat×Hp)}{d:D}(hd:Le d (.own r))(hr:af R r=some (.dF e te s []))(hs:af R s=some (.store e tr M))(hm:Nat.blt 0 e.n=true):C_ R d (al (an.slice e) M):=fun ε w S S' φ h1 h2 h3 v hv=>by
 have:=(hd.1 _ _ _ _ hv).1;subst this;exact xW (h1 r _ hr) (h1 s _ hs) (by simpa using hm) h2 (h3 r (by rw[hr];simp)) (h3 s (by rw[hs];simp))
def Plain(d:D):Prop:=∀(ε ε':Env) (w w':World) (S S':ca) (v:Value),d.p ε w S v->d.p ε' w' S' v
theorem Plain.int{k:IntKind}{n:Int}:Plain (.int k n):=fun _ _ _ _ _ _ _ h=>h
theorem Plain.bool{b:Bool}:Plain (.bool b):=fun _ _ _ _ _ _ _ h=>h
def q6:List D->Prop
 |[]=>True
 |d::l=>Plain d/\q6 l
theorem q6.all:∀{l:List D} {vs:List Value} {ε ε':Env} {w w':World} {S S':ca},q6 l->bI ε w S l vs->bI ε' w' S' l vs
 |[],[],_,_,_,_,_,_,_,_=>trivial
 |_::_,_::_,_,_,_,_,_,_,hp,h=>⟨hp.1 _ _ _ _ _ _ _ h.1,q6.all hp.2 h.2⟩
 |[],_::_,_,_,_,_,_,_,_,h=>h.elim
 |_::_,[],_,_,_,_,_,_,_,h=>h.elim
theorem Plain.fU{l:List D}(h:q6 l):Plain (.fU l):=fun _ _ _ _ _ _ _ ⟨cs,e,ha⟩=>⟨cs,e,h.all ha⟩
end
end Go.Am
namespace Go.Am
open Go.RowKit
theorem rK.ru{ρ:Nat->Nat}{f:FuncId}{l l' m m':List D}(h1:ph ρ l l')(h2:ph ρ m m'):rK ρ (.ru f l m) (.ru f l' m'):=
 ⟨fun _ _ _ _ ⟨vs,us,e,a1,a2⟩=>⟨vs,us,e,h1.all a1,h2.all a2⟩,fun r hr=>by
  rcases List.mem_append.1 hr with h|h
  ·exact List.mem_append.2 (.inl (h1.bz r h))
  ·exact List.mem_append.2 (.inr (h2.bz r h))⟩
section
variable {P:Program} {os:List Oper} {c:Ctx} {T T':List (Nat×D)} {H H':List (Nat×Hp)} {sps:List Spec}
variable {ops:Array Oper} {dst:Option Nat} {ty:TypeId} {pos:String} {aft:Array Edge}
variable {α:Type} {e:an α} {te tr:TypeId} {r s:Nat} {M X:List (List α)}
theorem Ok.rC{x:Code}{Q:Exit->Act->World->Prop}(t:Nat)(ht:aG T t=some (.own r))(hh:af H r=some (.dF e te s []))(hk:af H s=some (.store e tr M))
  (h:Ok P c ((t,.sl r M.length)::T) H x Q):Ok P c T H x Q:=.Cx t ht hh hk h
theorem ai.F8{t te:TypeId}{r r1:Nat}{x:Operand}{bt:Nat}{z:D}(hx:ev T x=some (.own r1))(hm:mM P t=some (te,1,bt,[z]))(hf:af H r=none)
  (hr:ai P ops c os ((r,.own r)::T) ((r,.jM 1 te [.own r1])::H) sps T' H'):
  ai P ops c (⟨some r,.buildSlice t 1 #[(0,x)],ty,pos,aft,none⟩::os) T H (rws (qs [(0,x,.own r1,[.own r1])]) r (.jM 1 te [.own r1])::sps) T' H':=
 .FX (parts:=[(0,x)]) [.own r1] [(0,x,.own r1,[.own r1])] hm rfl rfl ⟨rfl,rfl,.one rfl,rfl,trivial⟩ (by intro y hy;simp[qs]at hy;subst hy;exact hx) rfl rfl (fun r' hr'=>⟨(x,.own r1),by simp[qs],by simpa [bz]using hr'⟩) hf hr
theorem ai.D4{α:Type}(e:an α){t te:TypeId}{r m bt:Nat}{z:List D}(hm:mM P t=some (te,m,bt,z))(hmn:m=e.n)(hf:af H r=none)(hr:ai P ops c os ((r,.own r)::T) ((r,aS e te [])::H) sps T' H'):
  ai P ops c (⟨some r,.buildSlice t 0 #[],ty,pos,aft,none⟩::os) T H ({ins:=[],dg:=[],out:=.own r,cK:=[(r,aS e te [])],news:=[r]}::sps) T' H':=by
 subst hmn;have h0:=ai.EH (P:=P) (ops:=ops) (c:=c) (os:=[]) (T:=T) (H:=H) (ty:=ty) (pos:=pos) (aft:=aft) hm hf .nil
 cases h0 with
 |cons h1 h2 h3 h4 _=>exact .cons h1 h2 h3 h4 hr
theorem yp{H0:Nat->Option Hp}{Hi:List (Nat×Hp)}(h:∀r x,af Hi r=some x->H0 r=some x):bm H0 Hi=H0:=by
 funext r
 simp only[bm]
 cases hq:af Hi r with
 |none=>rfl
 |some x=>exact(h r x hq).symm
theorem nz.p8{o:Oper}{xs:List (Operand×D)}{Hi:List (Nat×Hp)}{d:D}(h:nz P ops c o (Es xs Hi Hi d))(hn:fo Hi Hi=[]):nz P ops c o {ins:=xs.flatMap fun x=>eL x.1 x.2,dg:=Hi,out:=d,cK:=[],news:=[]}:=by
 intro hd T0 H0 hi dg _ a w hs Q K hK;refine h hd T0 H0 hi dg (show k8 H0 (fo Hi Hi)by rw[hn];exact trivial) a w hs Q K (fun a' w' hs'=>hK a' w' ?_);have:bm H0 Hi=H0:=yp (mx dg);show Sat c (fy T0 o.dst d) (bm H0 []) a' w';have hs2:Sat c (fy T0 o.dst d) (bm H0 Hi) a' w':=hs';rw[this]at hs2;rw[vo];exact hs2
theorem ai.AM{f:FuncId}{xs:List Operand}{ats:Array TypeId}{Hi:List (Nat×Hp)}{ds:List D}{d:D}(hc:aU P f Hi ds Hi d)(he:vv T xs ds)(dg:hasAll H Hi)(hn:fo Hi Hi=[])
  (hr:ai P ops c os (a_ T dst d) H sps T' H'):
  ai P ops c (⟨dst,.call {callee:=.value (.func f),args:=xs.toArray,argTypes:=ats},ty,pos,aft,none⟩::os) T H ({ins:=(xs.zip ds).flatMap fun x=>eL x.1 x.2,dg:=Hi,out:=d,cK:=[],news:=[]}::sps) T' H':=by
 have h0:=ai.ag (P:=P) (ops:=ops) (c:=c) (os:=[]) (T:=T) (H:=H) (dst:=dst) (ty:=ty) (pos:=pos) (aft:=aft) (ats:=ats) hc he dg (by rw[hn];exact trivial) .nil
 cases h0 with
 |cons h1 h2 h3 h4 _=>exact .cons (h1.p8 hn) h2 h3 trivial hr
theorem ai.Dn{f:FuncId}{x:Operand}{xs:List Operand}{ats:Array TypeId}{Hi:List (Nat×Hp)}{l m ds:List D}{d:D}(hx:ev T x=some (.ru f l m))(hc:aU P f Hi (l++ds++m) Hi d)(he:vv T xs ds)(dg:hasAll H Hi)(hn:fo Hi Hi=[])
  (hr:ai P ops c os (a_ T dst d) H sps T' H'):
  ai P ops c (⟨dst,.call {callee:=.value x,args:=xs.toArray,argTypes:=ats},ty,pos,aft,none⟩::os) T H ({ins:=((x,D.ru f l m)::xs.zip ds).flatMap fun x=>eL x.1 x.2,dg:=Hi,out:=d,cK:=[],news:=[]}::sps) T' H':=by
 have h0:=ai.DU (P:=P) (ops:=ops) (c:=c) (os:=[]) (T:=T) (H:=H) (dst:=dst) (ty:=ty) (pos:=pos) (aft:=aft) (ats:=ats) hx hc he dg (by rw[hn];exact trivial) .nil
 cases h0 with
 |cons h1 h2 h3 h4 _=>exact .cons (h1.p8 hn) h2 h3 trivial hr
end
end Go.Am
namespace Go.Am
open Go.RowKit
set_option maxRecDepth 100000
noncomputable section
def gP(a1:List (List Rat))(a2:List Rat)(v5:Int)(v6:List Rat):Option (St (Int×(List Rat)) (List Rat)):=(if(decide (v5<(a1.length:Int)))=true then(ix a1 v5).bind fun v12=>(kI v12 a2).bind fun v14=>b_ ((v6.length+([v14]).length)*64<=140737488355328/\v6.length+([v14]).length<=9223372036854775807) (some (St.next ((IntKind.i64.wrap (v5+1)),(v6++[v14]))))else some (St.done v6))
def sf(a1:List (List Rat))(a2:List Rat):Option (List Rat):=((Loop (fun(s:Int×(List Rat))=>gP a1 a2 s.1 s.2) (0,[])).bind fun v17=>some (v17)).bind fun v18=>some v18
end
end Go.Am
namespace Go.Am
open Go.RowKit
set_option maxRecDepth 100000
noncomputable section
def jn(a1:List Rat)(a2:Int):Option Bool:=some ((a1.length:Int) !=a2)
theorem tV{a1:List Rat}{a2:Int}{r3:Bool}(h:jn a1 a2=some r3):aU PP 234 [(1,Hp.box 3 ([D.int .i64 a2]))] [al an.rat a1,D.ref 1 0] [(1,Hp.box 3 ([D.int .i64 a2]))] (D.bool r3):=by
 unfold jn at h;refine .of Go.Proofs.Tryz.func234 rfl (by kernel_rfl) rfl rfl rfl rfl rfl rfl (fun A w0 L b=>?_);show Ok PP _ [(0,al an.rat a1),(1,D.ref 1 0),(1000001,D.pinned 1 (b 1))] [(1,Hp.box 3 ([D.int .i64 a2]))] _ _;refine .ak (.au rfl<|.nil) rfl ?_;refine .ak (.mv rfl<|.ig rfl cY<|.bH (D.int .i64 a2) rfl rfl eW rfl<|.cm rfl rfl rfl<|.au rfl<|.nil) rfl ?_;cases h;refine .aN (fun _ _ hb=>hb) rfl (.t1 (.tmp rfl)) (.refl _) (.of rfl) (.of rfl)
def dG(a1:List (List Rat))(a2:Int)(v5:Int):Option (St Int (Ex Unit Int)):=(if(decide (v5<(a1.length:Int)))=true then(ix a1 v5).bind fun v11=>(jn v11 a2).bind fun v13=>(if v13=true then some (St.done (Ex.ret v5))else some (St.next (IntKind.i64.wrap (v5+1))))else some (St.done (Ex.cC ())))
def fK(a1:List (List Rat))(a2:Int):Option Int:=((Loop (fun(s:Int)=>dG a1 a2 s) 0).bind fun o6=>(match o6 with|Ex.cC ()=>some (Ex.cC ())|Ex.ret r16=>some (Ex.ret r16))).bind fun o3=>(match o3 with|Ex.cC ()=>some (-1)|Ex.ret r17=>some r17)
theorem oF{a1:List (List Rat)}{a2:Int}{r18:Int}(h:fK a1 a2=some r18):aU PP 253 [(610,Hp.box 3 ([D.int .i64 a2]))] [al (an.slice an.rat) a1,D.ru 234 [] [D.ref 610 0]] [(610,Hp.box 3 ([D.int .i64 a2]))] (D.int .i64 r18):=by
 unfold fK at h;refine .of Go.Proofs.Tryz.func253 rfl (by kernel_rfl) rfl rfl rfl rfl rfl rfl (fun A w0 L b=>?_);show Ok PP _ [(0,al (an.slice an.rat) a1),(1,D.ru 234 [] [D.ref 610 0]),(1000610,D.pinned 610 (b 610))] [(610,Hp.box 3 ([D.int .i64 a2]))] _ _;refine .ak (.au rfl<|.nil) rfl ?_;obtain⟨o3,hp4,h⟩:=bind_some h;refine .cX (fun i=>o3=Ex.cC i) (fun(i:Unit)=>[(1000610,D.pinned 610 (b 610))]) (fun(i:Unit)=>[(610,Hp.box 3 ([D.int .i64 a2]))]) ?_ ?_
 ·have ho1:=h;have h:=hp4;refine .ak (.mv rfl<|.ig rfl bM<|.mv rfl<|.nil) rfl ?_;obtain⟨o6,hl7,h⟩:=bind_some h;have ho2:=h;refine .block (.cD (fun(s:Int)=>[(0,al (an.slice an.rat) a1),(1,D.ru 234 [] [D.ref 610 0]),(7,D.int .i64 (a1.length:Int)),(8,D.int .i64 s),(1000610,D.pinned 610 (b 610))]) (fun(s:Int)=>[(610,Hp.box 3 ([D.int .i64 a2]))]) hl7 (.of rfl) (.of rfl) rfl rfl ?_);rintro v5 st8 hb9;have h:dG a1 a2 v5=some st8:=hb9;unfold dG at h
  try dsimp only
  refine .ak (.cm rfl rfl rfl<|.nil) rfl ?_;refine .sq ?_;by_cases c10:(decide (v5<(a1.length:Int)))=true
  ·replace h:=ae c10 h;refine .cL rfl c10 ?_;refine .skip (Ok.on ?_);refine .sq ?_;refine .block ?_;refine .ak (.mv rfl<|.au rfl<|.nil) rfl ?_;obtain⟨v11,e12,h⟩:=bind_some h;obtain⟨v13,e14,h⟩:=bind_some h;refine .ak (.mv rfl<|.mv rfl<|.mv rfl<|.m8 rfl rfl aK (aj e12).1 (aj e12).2<|.i6 rfl aP<|.Dn (Hi:=[(610,Hp.box 3 ([D.int .i64 a2]))]) (d:=D.bool v13) (ds:=[al an.rat v11]) rfl (.Bm (tV e14) (fun r=>match r with|1=>610|r=>r) (fun r=>match r with|610=>1|r=>r) rfl (.r rfl rfl trivial) rfl ⟨.refl rfl,.ref (r:=1),trivial⟩ (.r rfl rfl trivial) rfl (.refl rfl) rfl rfl rfl rfl rfl) ⟨rfl,trivial⟩ ⟨rfl,trivial⟩ rfl<|.nil) rfl ?_;by_cases c15:v13=true
   ·replace h:=ae c15 h;refine .cL rfl c15 ?_;refine .ak (.mv rfl<|.au rfl<|.nil) rfl ?_;refine .aN (Hi:=[(610,Hp.box 3 ([D.int .i64 a2]))]) (Ho:=[(610,Hp.box 3 ([D.int .i64 a2]))]) (b:=b) (fn:=Go.Proofs.Tryz.f253) (d:=D.int .i64 v5) (fun _ _ hb=>by exact⟨_,(sj h),fun e=>by subst e;have h:=ho2;cases h;have h:=ho1;cases h;exact hb⟩) rfl (.t1 (.tmp rfl)) (.refl _) (.of rfl) (.of rfl)
   ·replace h:=ab c15 h;refine .c_ rfl c15 ?_;refine .skip (Ok.on ?_);refine .region (.ar rfl rfl rfl<|.mv rfl<|.nil) rfl (fun _ _ hs=>⟨(IntKind.i64.wrap (v5+1)),(sj h),hs.sub (.of rfl) (.of rfl) rfl rfl⟩)
  ·replace h:=ab c10 h;refine .c_ rfl c10 ?_;refine .exit (fun a w hs=>⟨_,(sj h),fun e=>by subst e;have h:=ho2;exact bA (⟨(),(sj h),hs.sub (.of rfl) (.of rfl) rfl rfl⟩)⟩)
 ·rintro⟨⟩ rfl
  try dsimp only
  refine .ak (.au rfl<|.nil) rfl ?_;cases h;refine .aN (fun _ _ hb=>hb) rfl (.t1 (.tmp rfl)) (.refl _) (.of rfl) (.of rfl)
def eK(a1:List (List Rat))(a2:Int):Option Bool:=(fK a1 a2).bind fun v3=>some (decide (v3>=0))
theorem mI{a1:List (List Rat)}{a2:Int}{r5:Bool}(h:eK a1 a2=some r5):aU PP 233 [(610,Hp.box 3 ([D.int .i64 a2]))] [al (an.slice an.rat) a1,D.ru 234 [] [D.ref 610 0]] [(610,Hp.box 3 ([D.int .i64 a2]))] (D.bool r5):=by
 unfold eK at h;refine .of Go.Proofs.Tryz.func233 rfl (by kernel_rfl) rfl rfl rfl rfl rfl rfl (fun A w0 L b=>?_);show Ok PP _ [(0,al (an.slice an.rat) a1),(1,D.ru 234 [] [D.ref 610 0]),(1000610,D.pinned 610 (b 610))] [(610,Hp.box 3 ([D.int .i64 a2]))] _ _;refine .ak (.au rfl<|.nil) rfl ?_;obtain⟨v3,e4,h⟩:=bind_some h;refine .ak (.mv rfl<|.mv rfl<|.AM (Hi:=[(610,Hp.box 3 ([D.int .i64 a2]))]) (d:=D.int .i64 v3) (ds:=[al (an.slice an.rat) a1,D.ru 234 [] [D.ref 610 0]]) (.Bm (oF e4) (fun r=>match r with|r=>r) (fun r=>match r with|r=>r) rfl (.r rfl rfl trivial) rfl ⟨.refl rfl,.ru trivial ⟨.ref (r:=610),trivial⟩,trivial⟩ (.r rfl rfl trivial) rfl (.refl rfl) rfl rfl rfl rfl rfl) ⟨rfl,rfl,trivial⟩ ⟨rfl,trivial⟩ rfl<|.cm rfl rfl rfl<|.au rfl<|.nil) rfl ?_;cases h;refine .aN (fun _ _ hb=>hb) rfl (.t1 (.tmp rfl)) (.refl _) (.of rfl) (.of rfl)
def eC(a1:List (List Rat)):Option (Int×Int×Bool):=(if((a1.length:Int)==0)=true then some (0,0,true)else(ix a1 0).bind fun v3=>(eK a1 (v3.length:Int)).bind fun v5=>some ((a1.length:Int),(v3.length:Int),(!v5)))
theorem ir{a1:List (List Rat)}{r7:Int}{r8:Int}{r9:Bool}(h:eC a1=some (r7,r8,r9)):aU PP 194 [] [al (an.slice an.rat) a1] [] (D.fU [D.int .i64 r7,D.int .i64 r8,D.bool r9]):=by
 unfold eC at h;refine .of Go.Proofs.Tryz.func194 rfl (by kernel_rfl) rfl rfl rfl rfl rfl rfl (fun A w0 L b=>?_);show Ok PP _ [(0,al (an.slice an.rat) a1)] [] _ _;refine .ak (.au rfl<|.au rfl<|.au rfl<|.nil) rfl ?_;refine .sq ?_;refine .ak (.mv rfl<|.ig rfl bM<|.cm rfl rfl rfl<|.nil) rfl ?_;by_cases c2:((a1.length:Int)==0)=true
 ·replace h:=ae c2 h;refine .cL rfl c2 ?_;refine .ak (.au rfl<|.au rfl<|.au rfl<|.nil) rfl ?_;cases h;refine .aN (fun _ _ hb=>hb) rfl (.cons (.tmp rfl) (.cons (.tmp rfl) (.t1 (.tmp rfl)))) (.refl _) trivial trivial
 ·replace h:=ab c2 h;refine .c_ rfl c2 ?_;refine .skip (Ok.on ?_);obtain⟨v3,e4,h⟩:=bind_some h;refine .ak (.mv rfl<|.m8 rfl rfl aK (aj e4).1 (aj e4).2<|.i6 rfl aP<|.ig rfl cY<|.fV ([D.int .i64 0]) Ev ⟨.refl _,trivial⟩ rfl<|.yi ([D.int .i64 (v3.length:Int)]) rfl rfl rfl eW rfl rfl rfl<|.nil) rfl ?_;obtain⟨v5,e6,h⟩:=bind_some h;refine .dt cq (.mv rfl<|.ig rfl bM<|.bH (D.int .i64 (v3.length:Int)) rfl rfl eW rfl<|.mv rfl<|.FB (fs:=[]) (cs:=[.tmp 5]) (l:=[]) (m:=[D.ref 5 0]) trivial ⟨rfl,trivial⟩<|.AM (Hi:=[(5,Hp.box 3 ([D.int .i64 (v3.length:Int)]))]) (d:=D.bool v5) (ds:=[al (an.slice an.rat) a1,D.ru 234 [] [D.ref 5 0]]) (.Bm (mI e6) (fun r=>match r with|610=>5|r=>r) (fun r=>match r with|5=>610|r=>r) rfl (.r rfl rfl trivial) rfl ⟨.refl rfl,.ru trivial ⟨.ref (r:=610),trivial⟩,trivial⟩ (.r rfl rfl trivial) rfl (.refl rfl) rfl rfl rfl rfl rfl) ⟨rfl,rfl,trivial⟩ ⟨rfl,trivial⟩ rfl<|.not rfl<|.au rfl<|.au rfl<|.au rfl<|.nil) rfl (by kernel_rfl) ?_;cases h;refine .aN (fun _ _ hb=>hb) rfl (.cons (.tmp rfl) (.cons (.tmp rfl) (.t1 (.tmp rfl)))) (.refl _) trivial trivial
def dC(a1:List (List Rat))(v8:Int)(v17:Int)(v18:List Rat):Option (St (Int×(List Rat)) (List Rat)):=(if(decide (v17<(a1.length:Int)))=true then(ix a1 v17).bind fun v24=>(ix v24 v8).bind fun v26=>b_ ((v18.length+([v26]).length)*56<=140737488355328/\v18.length+([v26]).length<=9223372036854775807) (some (St.next ((IntKind.i64.wrap (v17+1)),(v18++[v26]))))else some (St.done v18))
def dz(a1:List (List Rat))(v3:Int)(v8:Int)(v9:List (List Rat)):Option (St (Int×(List (List Rat))) (List (List Rat))):=(if(decide (v8<v3))=true then((Loop (fun(s:Int×(List Rat))=>dC a1 v8 s.1 s.2) (0,[])).bind fun v29=>some (v29)).bind fun v30=>b_ ((v9.length+([v30]).length)*24<=140737488355328/\v9.length+([v30]).length<=9223372036854775807) (some (St.next ((IntKind.i64.wrap (v8+1)),(v9++[v30]))))else some (St.done v9))
def fO(a1:List (List Rat)):Option (List (List Rat)):=(eC a1).bind fun(v2,v3,v4)=>((Loop (fun(s:Int×(List (List Rat)))=>dz a1 v3 s.1 s.2) (0,[])).bind fun v32=>some (v32)).bind fun v33=>some v33
theorem n8{a1:List (List Rat)}{r34:List (List Rat)}(h:fO a1=some r34):aU PP 195 [] [al (an.slice an.rat) a1] [] (al (an.slice an.rat) r34):=by
 unfold fO at h;refine .of Go.Proofs.Tryz.func195 rfl (by kernel_rfl) rfl rfl rfl rfl rfl rfl (fun A w0 L b=>?_);show Ok PP _ [(0,al (an.slice an.rat) a1)] [] _ _;refine .ak (.au rfl<|.nil) rfl ?_;obtain⟨⟨v2,v3,v4⟩,e5,h⟩:=bind_some h;refine .ak (.mv rfl<|.ag (ir e5) ⟨rfl,trivial⟩ trivial trivial<|.mv rfl<|.ext rfl rfl<|.ext rfl rfl<|.ext rfl rfl<|.au rfl<|.au rfl<|.au rfl<|.nil) rfl ?_;refine .ak (.au rfl<|.nil) rfl ?_;obtain⟨v33,hp7,h⟩:=bind_some h;refine .cX (fun i=>v33=i) (fun(i:(List (List Rat)))=>[(6,D.own 2000006)]) (fun(i:(List (List Rat)))=>[(2000006,aS (an.slice an.rat) 68 i)]) ?_ ?_
 ·have ho1:=h;have h:=hp7;refine .ak (.mv rfl<|.mv rfl<|.nil) rfl ?_;refine .jK (an.slice an.rat) 6 2000006 68 rfl rfl ?_;obtain⟨o10,hl11,h⟩:=bind_some h;have ho2:=h;refine .block (.cD (fun(s:Int×(List (List Rat)))=>[(0,al (an.slice an.rat) a1),(6,D.own 2000006),(17,D.int .i64 v3),(18,D.int .i64 s.1)]) (fun(s:Int×(List (List Rat)))=>[(2000006,aS (an.slice an.rat) 68 s.2)]) hl11 (.of rfl) (.of rfl) rfl rfl ?_);rintro⟨v8,v9⟩ st12 hb13;have h:dz a1 v3 v8 v9=some st12:=hb13;unfold dz at h
  try dsimp only
  refine .ak (.cm rfl rfl rfl<|.nil) rfl ?_;refine .sq ?_;by_cases c14:(decide (v8<v3))=true
  ·replace h:=ae c14 h;refine .cL rfl c14 ?_;refine .skip (Ok.on ?_);refine .sq ?_;refine .block ?_;refine .ak (.mv rfl<|.au rfl<|.nil) rfl ?_;refine .ak (.au rfl<|.nil) rfl ?_;obtain⟨v30,hp16,h⟩:=bind_some h;refine .cX (fun i=>v30=i) (fun(i:(List Rat))=>[(0,al (an.slice an.rat) a1),(6,D.own 2000006),(8,D.own 2000008),(17,D.int .i64 v3),(18,D.int .i64 v8)]) (fun(i:(List Rat))=>[(2000006,aS (an.slice an.rat) 68 v9),(2000008,aS an.rat 28 i)]) ?_ ?_
   ·have ho3:=h;have h:=hp16;refine .ak (.mv rfl<|.ig rfl bM<|.mv rfl<|.nil) rfl ?_;refine .jK an.rat 8 2000008 28 rfl rfl ?_;obtain⟨o19,hl20,h⟩:=bind_some h;have ho4:=h;refine .block (.cD (fun(s:Int×(List Rat))=>[(0,al (an.slice an.rat) a1),(6,D.own 2000006),(7,D.int .i64 v8),(8,D.own 2000008),(17,D.int .i64 v3),(18,D.int .i64 v8),(21,al (an.slice an.rat) a1),(22,D.int .i64 (a1.length:Int)),(23,D.int .i64 s.1)]) (fun(s:Int×(List Rat))=>[(2000006,aS (an.slice an.rat) 68 v9),(2000008,aS an.rat 28 s.2)]) hl20 (.of rfl) (.of rfl) rfl rfl ?_);rintro⟨v17,v18⟩ st21 hb22;have h:dC a1 v8 v17 v18=some st21:=hb22;unfold dC at h
    try dsimp only
    refine .ak (.cm rfl rfl rfl<|.nil) rfl ?_;refine .sq ?_;by_cases c23:(decide (v17<(a1.length:Int)))=true
    ·replace h:=ae c23 h;refine .cL rfl c23 ?_;refine .skip (Ok.on ?_);refine .sq ?_;refine .block ?_;obtain⟨v24,e25,h⟩:=bind_some h;refine .ak (.m8 rfl rfl aK (aj e25).1 (aj e25).2<|.i6 rfl aP<|.au rfl<|.nil) rfl ?_;refine .sl 8 rfl rfl rfl ?_;obtain⟨v26,e27,h⟩:=bind_some h;obtain⟨k28,h⟩:=ax h;refine .region (.mv rfl<|.mv rfl<|.mv rfl<|.m8 rfl rfl bf (aj e27).1 (aj e27).2<|.CB (l:=qC (v26)) rfl aa rfl<|.zC (e:=an.rat) [v26] [(0,_,qD v26,qC (v26))] ct rfl rfl rfl ⟨rfl,rfl,.agg _,rfl,trivial⟩ ⟨rfl,trivial⟩ rfl rfl<|.yH (ys:=[v26]) rfl .sl rfl (.refl _) rfl ct rfl k28.1 k28.2 rfl<|.au rfl<|.nil) rfl (Ok.on ?_);refine .region (.ar rfl rfl rfl<|.mv rfl<|.nil) rfl (fun _ _ hs=>⟨((IntKind.i64.wrap (v17+1)),(v18++[v26])),(sj h),hs.oo (fun r=>match r with|2000008=>33|r=>r) (.r rfl rfl<|.p rfl (.own (r:=2000006))<|.r rfl rfl<|.p rfl (.own (r:=2000008))<|.r rfl rfl<|.r rfl rfl<|.r rfl rfl<|.r rfl rfl<|.r rfl rfl<|trivial) (.r rfl rfl<|.r rfl rfl<|trivial) rfl rfl rfl⟩)
    ·replace h:=ab c23 h;refine .c_ rfl c23 ?_;refine .exit (fun a w hs=>⟨_,(sj h),fun e=>by subst e;have h:=ho4;exact bA (⟨v18,(sj h),hs.sub (.of rfl) (.of rfl) rfl rfl⟩)⟩)
   ·rintro _ rfl
    try dsimp only
    refine .sl 6 rfl rfl rfl ?_;refine .sl 8 rfl rfl rfl ?_;refine .vt 8 (.own 2000008) rfl .sl ?_;refine .kV 8 rfl rfl rfl ?_;obtain⟨k31,h⟩:=ax h;refine .region (.mv rfl<|.mv rfl<|.zC (e:=(an.slice an.rat)) [v30] [(0,_,al an.rat v30,[al an.rat v30])] dH rfl rfl rfl ⟨rfl,rfl,.one rfl,rfl,trivial⟩ ⟨rfl,trivial⟩ rfl rfl<|.yH (ys:=[v30]) rfl .sl rfl (.refl _) rfl dH rfl k31.1 k31.2 rfl<|.au rfl<|.nil) rfl (Ok.on ?_);refine .region (.ar rfl rfl rfl<|.mv rfl<|.nil) rfl (fun _ _ hs=>⟨((IntKind.i64.wrap (v8+1)),(v9++[v30])),(sj h),hs.oo (fun r=>match r with|2000006=>38|r=>r) (.r rfl rfl<|.p rfl (.own (r:=2000006))<|.r rfl rfl<|.r rfl rfl<|trivial) (.r rfl rfl trivial) rfl rfl rfl⟩)
  ·replace h:=ab c14 h;refine .c_ rfl c14 ?_;refine .exit (fun a w hs=>⟨_,(sj h),fun e=>by subst e;have h:=ho2;exact bA (⟨v9,(sj h),hs.sub (.of rfl) (.of rfl) rfl rfl⟩)⟩)
 ·rintro _ rfl
  try dsimp only
  refine .sl 6 rfl rfl rfl ?_;refine .ak (.mv rfl<|.au rfl<|.nil) rfl ?_;refine .vt 2 (.own 2000006) rfl .sl ?_;refine .kV 2 rfl rfl rfl ?_;cases h;refine .aN (fun _ _ hb=>hb) rfl (.t1 (.tmp rfl)) (.refl _) trivial trivial
def kz(a1:List (List Rat)):Option ((List (List Rat))×Int):=(eC a1).bind fun(v2,v3,v4)=>(if(!v4)=true then some ([],2)else(fO a1).bind fun v7=>some (v7,0))
theorem AY{a1:List (List Rat)}{r9:List (List Rat)}{r10:Int}(h:kz a1=some (r9,r10)):aU PP 109 [] [al (an.slice an.rat) a1] [] (D.fU [al (an.slice an.rat) r9,D.int .i64 r10]):=by
 unfold kz at h;refine .of Go.Proofs.Tryz.func109 rfl (by kernel_rfl) rfl rfl rfl rfl rfl rfl (fun A w0 L b=>?_);show Ok PP _ [(0,al (an.slice an.rat) a1)] [] _ _;refine .ak (.au rfl<|.au rfl<|.nil) rfl ?_;refine .sq ?_;obtain⟨⟨v2,v3,v4⟩,e5,h⟩:=bind_some h;refine .ak (.mv rfl<|.ag (ir e5) ⟨rfl,trivial⟩ trivial trivial<|.mv rfl<|.ext rfl rfl<|.ext rfl rfl<|.ext rfl rfl<|.au rfl<|.au rfl<|.au rfl<|.nil) rfl ?_;refine .ak (.mv rfl<|.not rfl<|.nil) rfl ?_;by_cases c6:(!v4)=true
 ·replace h:=ae c6 h;refine .cL rfl c6 ?_;refine .ak (.au rfl<|.au rfl<|.nil) rfl ?_;cases h;refine .aN (fun _ _ hb=>hb) rfl (.cons (.tmp rfl) (.t1 (.tmp rfl))) (.fU ⟨.jK _,.refl _,trivial⟩) trivial trivial
 ·replace h:=ab c6 h;refine .c_ rfl c6 ?_;refine .skip (Ok.on ?_);obtain⟨v7,e8,h⟩:=bind_some h;refine .ak (.mv rfl<|.ag (n8 e8) ⟨rfl,trivial⟩ trivial trivial<|.au rfl<|.au rfl<|.nil) rfl ?_;cases h;refine .aN (fun _ _ hb=>hb) rfl (.cons (.tmp rfl) (.t1 (.tmp rfl))) (.refl _) trivial trivial
def gj(a1:List (List Rat))(a2:List Rat)(v11:Int)(v12:List Rat):Option (St (Int×(List Rat)) (List Rat)):=(if(decide (v11<(a1.length:Int)))=true then(ix a1 v11).bind fun v18=>(qo v18 a2).bind fun v20=>b_ ((v12.length+([v20]).length)*56<=140737488355328/\v12.length+([v20]).length<=9223372036854775807) (some (St.next ((IntKind.i64.wrap (v11+1)),(v12++[v20]))))else some (St.done v12))
def nZ(a1:List (List Rat))(a2:List Rat):Option ((List Rat)×Int):=(eC a1).bind fun(v3,v4,v5)=>(if(!v5)=true then some ([],2)else(if(v4 !=(a2.length:Int))=true then some ([],2)else((Loop (fun(s:Int×(List Rat))=>gj a1 a2 s.1 s.2) (0,[])).bind fun v23=>some (v23)).bind fun v24=>some (v24,0)))
theorem BU{a1:List (List Rat)}{a2:List Rat}{r25:List Rat}{r26:Int}(h:nZ a1 a2=some (r25,r26)):aU PP 108 [] [al (an.slice an.rat) a1,al an.rat a2] [] (D.fU [al an.rat r25,D.int .i64 r26]):=by
 unfold nZ at h;refine .of Go.Proofs.Tryz.func108 rfl (by kernel_rfl) rfl rfl rfl rfl rfl rfl (fun A w0 L b=>?_);show Ok PP _ [(0,al (an.slice an.rat) a1),(1,al an.rat a2)] [] _ _;refine .ak (.au rfl<|.au rfl<|.nil) rfl ?_;refine .sq ?_;obtain⟨⟨v3,v4,v5⟩,e6,h⟩:=bind_some h;refine .ak (.mv rfl<|.ag (ir e6) ⟨rfl,trivial⟩ trivial trivial<|.mv rfl<|.ext rfl rfl<|.ext rfl rfl<|.ext rfl rfl<|.au rfl<|.au rfl<|.au rfl<|.nil) rfl ?_;by_cases c7:(!v5)=true
 ·replace h:=ae c7 h;refine .ak (.mv rfl<|.not rfl<|.mv rfl<|.gk c7<|.gk c7<|.gk c7<|.gk c7<|.bw rfl c7 rfl<|.nil) rfl ?_;refine .cL rfl rfl ?_;refine .ak (.au rfl<|.au rfl<|.nil) rfl ?_;cases h;refine .aN (fun _ _ hb=>hb) rfl (.cons (.tmp rfl) (.t1 (.tmp rfl))) (.fU ⟨.jK _,.refl _,trivial⟩) trivial trivial
 ·replace h:=ab c7 h;refine .ak (.mv rfl<|.not rfl<|.mv rfl<|.gz c7<|.mv rfl<|.gz c7<|.mv rfl<|.gz c7<|.ig rfl cY<|.gz c7<|.cm rfl rfl rfl<|.br rfl c7 rfl<|.nil) rfl ?_;by_cases c8:(v4 !=(a2.length:Int))=true
  ·replace h:=ae c8 h;refine .cL rfl c8 ?_;refine .ak (.au rfl<|.au rfl<|.nil) rfl ?_;cases h;refine .aN (fun _ _ hb=>hb) rfl (.cons (.tmp rfl) (.t1 (.tmp rfl))) (.fU ⟨.jK _,.refl _,trivial⟩) trivial trivial
  ·replace h:=ab c8 h;refine .c_ rfl c8 ?_;refine .skip (Ok.on ?_);refine .ak (.au rfl<|.nil) rfl ?_;obtain⟨v24,hp10,h⟩:=bind_some h;refine .cX (fun i=>v24=i) (fun(i:(List Rat))=>[(9,D.own 2000009)]) (fun(i:(List Rat))=>[(2000009,aS an.rat 28 i)]) ?_ ?_
   ·have ho1:=h;have h:=hp10;refine .ak (.mv rfl<|.ig rfl bM<|.mv rfl<|.nil) rfl ?_;refine .jK an.rat 9 2000009 28 rfl rfl ?_;obtain⟨o13,hl14,h⟩:=bind_some h;have ho2:=h;refine .block (.cD (fun(s:Int×(List Rat))=>[(1,al an.rat a2),(9,D.own 2000009),(26,al (an.slice an.rat) a1),(27,D.int .i64 (a1.length:Int)),(28,D.int .i64 s.1)]) (fun(s:Int×(List Rat))=>[(2000009,aS an.rat 28 s.2)]) hl14 (.of rfl) (.of rfl) rfl rfl ?_);rintro⟨v11,v12⟩ st15 hb16;have h:gj a1 a2 v11 v12=some st15:=hb16;unfold gj at h
    try dsimp only
    refine .ak (.cm rfl rfl rfl<|.nil) rfl ?_;refine .sq ?_;by_cases c17:(decide (v11<(a1.length:Int)))=true
    ·replace h:=ae c17 h;refine .cL rfl c17 ?_;refine .skip (Ok.on ?_);refine .sq ?_;refine .block ?_;obtain⟨v18,e19,h⟩:=bind_some h;refine .ak (.m8 rfl rfl aK (aj e19).1 (aj e19).2<|.i6 rfl aP<|.au rfl<|.nil) rfl ?_;refine .sl 9 rfl rfl rfl ?_;obtain⟨v20,e21,h⟩:=bind_some h;obtain⟨k22,h⟩:=ax h;refine .region (.mv rfl<|.mv rfl<|.mv rfl<|.ag (Cr e21) ⟨rfl,rfl,trivial⟩ trivial trivial<|.zC (e:=an.rat) [v20] [(0,_,qD v20,qC (v20))] ct rfl rfl rfl ⟨rfl,rfl,.agg _,rfl,trivial⟩ ⟨rfl,trivial⟩ rfl rfl<|.yH (ys:=[v20]) rfl .sl rfl (.refl _) rfl ct rfl k22.1 k22.2 rfl<|.au rfl<|.nil) rfl (Ok.on ?_);refine .region (.ar rfl rfl rfl<|.mv rfl<|.nil) rfl (fun _ _ hs=>⟨((IntKind.i64.wrap (v11+1)),(v12++[v20])),(sj h),hs.oo (fun r=>match r with|2000009=>37|r=>r) (.r rfl rfl<|.p rfl (.own (r:=2000009))<|.r rfl rfl<|.r rfl rfl<|.r rfl rfl<|trivial) (.r rfl rfl trivial) rfl rfl rfl⟩)
    ·replace h:=ab c17 h;refine .c_ rfl c17 ?_;refine .exit (fun a w hs=>⟨_,(sj h),fun e=>by subst e;have h:=ho2;exact bA (⟨v12,(sj h),hs.sub (.of rfl) (.of rfl) rfl rfl⟩)⟩)
   ·rintro _ rfl
    try dsimp only
    refine .sl 9 rfl rfl rfl ?_;refine .ak (.mv rfl<|.au rfl<|.au rfl<|.nil) rfl ?_;refine .vt 4 (.own 2000009) rfl .sl ?_;refine .kV 4 rfl rfl rfl ?_;cases h;refine .aN (fun _ _ hb=>hb) rfl (.cons (.tmp rfl) (.t1 (.tmp rfl))) (.refl _) trivial trivial
end
end Go.Am
namespace Go.Am
open Go.RowKit
set_option maxRecDepth 100000
noncomputable section
def gT(a1:List (List (Int×Int×Int)))(a2:Int)(v5:Int):Option (St Int (Ex Unit Bool)):=(if(decide (v5<(a1.length:Int)))=true then(if(decide (v5<=a2))=true then(ix a1 v5).bind fun v12=>(if(decide ((v12.length:Int)>a2))=true then some (St.done (Ex.ret false))else some (St.next (IntKind.i64.wrap (v5+1))))else some (St.done (Ex.cC ())))else some (St.done (Ex.cC ())))
def kl(a1:List (List (Int×Int×Int)))(a2:Int):Option Bool:=((Loop (fun(s:Int)=>gT a1 a2 s) 0).bind fun o6=>(match o6 with|Ex.cC ()=>some (Ex.cC ())|Ex.ret r15=>some (Ex.ret r15))).bind fun o3=>(match o3 with|Ex.cC ()=>some (decide ((a1.length:Int)<=a2))|Ex.ret r16=>some r16)
theorem xY{a1:List (List (Int×Int×Int))}{a2:Int}{r17:Bool}(h:kl a1 a2=some r17):aU PP 104 [] [al (an.slice (an.prod (an.int .i64) (an.prod (an.int .i64) (an.int .u8)))) a1,D.int .i64 a2] [] (D.bool r17):=by
 unfold kl at h;refine .of Go.Proofs.Tryz.func104 rfl (by kernel_rfl) rfl rfl rfl rfl rfl rfl (fun A w0 L b=>?_);show Ok PP _ [(0,al (an.slice (an.prod (an.int .i64) (an.prod (an.int .i64) (an.int .u8)))) a1),(1,D.int .i64 a2)] [] _ _;refine .ak (.au rfl<|.nil) rfl ?_;obtain⟨o3,hp4,h⟩:=bind_some h;refine .cX (fun i=>o3=Ex.cC i) (fun(i:Unit)=>[(0,al (an.slice (an.prod (an.int .i64) (an.prod (an.int .i64) (an.int .u8)))) a1),(1,D.int .i64 a2)]) (fun(i:Unit)=>[]) ?_ ?_
 ·have ho1:=h;have h:=hp4;refine .ak (.au rfl<|.nil) rfl ?_;obtain⟨o6,hl7,h⟩:=bind_some h;have ho2:=h;refine .block (.cD (fun(s:Int)=>[(0,al (an.slice (an.prod (an.int .i64) (an.prod (an.int .i64) (an.int .u8)))) a1),(1,D.int .i64 a2),(5,D.int .i64 s)]) (fun(s:Int)=>[]) hl7 (.of rfl) trivial rfl rfl ?_);rintro v5 st8 hb9;have h:gT a1 a2 v5=some st8:=hb9;unfold gT at h
  try dsimp only
  refine .sq ?_;by_cases c10:(decide (v5<(a1.length:Int)))=true
  ·replace h:=ae c10 h;refine .ak (.mv rfl<|.mv rfl<|.ig rfl eJ<|.cm rfl rfl rfl<|.mv rfl<|.gy c10<|.mv rfl<|.gy c10<|.mv rfl<|.gy c10<|.cm rfl rfl rfl<|.bw rfl c10 rfl<|.nil) rfl ?_;by_cases c11:(decide (v5<=a2))=true
   ·replace h:=ae c11 h;refine .cL rfl c11 ?_;refine .skip (Ok.on ?_);refine .sq ?_;refine .block ?_;obtain⟨v12,e13,h⟩:=bind_some h;refine .ak (.mv rfl<|.mv rfl<|.m8 rfl rfl jc (aj e13).1 (aj e13).2<|.i6 rfl jy<|.ig rfl jx<|.mv rfl<|.cm rfl rfl rfl<|.nil) rfl ?_;by_cases c14:(decide ((v12.length:Int)>a2))=true
    ·replace h:=ae c14 h;refine .cL rfl c14 ?_;refine .ak (.au rfl<|.nil) rfl ?_;refine .aN (Hi:=[]) (Ho:=[]) (b:=b) (fn:=Go.Proofs.Tryz.f104) (d:=D.bool false) (fun _ _ hb=>by exact⟨_,(sj h),fun e=>by subst e;have h:=ho2;cases h;have h:=ho1;cases h;exact hb⟩) rfl (.t1 (.tmp rfl)) (.refl _) trivial trivial
    ·replace h:=ab c14 h;refine .c_ rfl c14 ?_;refine .skip (Ok.on ?_);refine .region (.mv rfl<|.ar rfl rfl rfl<|.au rfl<|.nil) rfl (fun _ _ hs=>⟨(IntKind.i64.wrap (v5+1)),(sj h),hs.sub (.of rfl) trivial rfl rfl⟩)
   ·replace h:=ab c11 h;refine .c_ rfl c11 ?_;refine .exit (fun a w hs=>⟨_,(sj h),fun e=>by subst e;have h:=ho2;exact bA (⟨(),(sj h),hs.sub (.of rfl) trivial rfl rfl⟩)⟩)
  ·replace h:=ab c10 h;refine .ak (.mv rfl<|.mv rfl<|.ig rfl eJ<|.cm rfl rfl rfl<|.mv rfl<|.gm c10<|.gm c10<|.gm c10<|.br rfl c10 rfl<|.nil) rfl ?_;refine .c_ rfl (by decide) ?_;refine .exit (fun a w hs=>⟨_,(sj h),fun e=>by subst e;have h:=ho2;exact bA (⟨(),(sj h),hs.sub (.of rfl) trivial rfl rfl⟩)⟩)
 ·rintro⟨⟩ rfl
  try dsimp only
  refine .ak (.mv rfl<|.ig rfl eJ<|.mv rfl<|.cm rfl rfl rfl<|.au rfl<|.nil) rfl ?_;cases h;refine .aN (fun _ _ hb=>hb) rfl (.t1 (.tmp rfl)) (.refl _) trivial trivial
def gi(a1:List (List (Int×Int×Int)))(v4:Int)(v5:List (List Rat))(v6:List (List Rat)):Option (St (Int×(List (List Rat))×(List (List Rat))) ((List (List Rat))×(List (List Rat)))):=(if(decide (v4<(a1.length:Int)))=true then(ix a1 v4).bind fun v12=>(lY v12).bind fun(v14,v15)=>b_ ((v5.length+([v14]).length)*24<=140737488355328/\v5.length+([v14]).length<=9223372036854775807) (b_ ((v6.length+([v15]).length)*24<=140737488355328/\v6.length+([v15]).length<=9223372036854775807) (some (St.next ((IntKind.i64.wrap (v4+1)),(v5++[v14]),(v6++[v15])))))else some (St.done (v5,v6)))
def nt(a1:List (List (Int×Int×Int))):Option ((List (List Rat))×(List (List Rat))):=((Loop (fun(s:Int×(List (List Rat))×(List (List Rat)))=>gi a1 s.1 s.2.1 s.2.2) (0,[],[])).bind fun(v19,v20)=>some ((v19,v20))).bind fun(v21,v22)=>some (v21,v22)
theorem BN{a1:List (List (Int×Int×Int))}{r23:List (List Rat)}{r24:List (List Rat)}(h:nt a1=some (r23,r24)):aU PP 105 [] [al (an.slice (an.prod (an.int .i64) (an.prod (an.int .i64) (an.int .u8)))) a1] [] (D.fU [al (an.slice an.rat) r23,al (an.slice an.rq) r24]):=by
 unfold nt at h;refine .of Go.Proofs.Tryz.func105 rfl (by kernel_rfl) rfl rfl rfl rfl rfl rfl (fun A w0 L b=>?_);show Ok PP _ [(0,al (an.slice (an.prod (an.int .i64) (an.prod (an.int .i64) (an.int .u8)))) a1)] [] _ _;refine .ak (.au rfl<|.au rfl<|.nil) rfl ?_;refine .ak (.au rfl<|.nil) rfl ?_;refine .ak (.au rfl<|.nil) rfl ?_;obtain⟨o2,hp3,h⟩:=bind_some h;refine .cX (fun i=>o2=i) (fun(i:(List (List Rat))×(List (List Rat)))=>[(4,D.own 2000004),(5,D.own 2000005)]) (fun(i:(List (List Rat))×(List (List Rat)))=>[(2000004,aS (an.slice an.rat) 68 i.1),(2000005,aS (an.slice an.rq) 69 i.2)]) ?_ ?_
 ·have ho1:=h;have h:=hp3;refine .ak (.au rfl<|.nil) rfl ?_;refine .jK (an.slice an.rat) 4 2000004 68 rfl rfl ?_;refine .jK (an.slice an.rq) 5 2000005 69 rfl rfl ?_;obtain⟨o7,hl8,h⟩:=bind_some h;have ho2:=h;refine .block (.cD (fun(s:Int×(List (List Rat))×(List (List Rat)))=>[(0,al (an.slice (an.prod (an.int .i64) (an.prod (an.int .i64) (an.int .u8)))) a1),(4,D.own 2000004),(5,D.own 2000005),(6,D.int .i64 s.1)]) (fun(s:Int×(List (List Rat))×(List (List Rat)))=>[(2000004,aS (an.slice an.rat) 68 s.2.1),(2000005,aS (an.slice an.rq) 69 s.2.2)]) hl8 (.of rfl) (.of rfl) rfl rfl ?_);rintro⟨v4,v5,v6⟩ st9 hb10;have h:gi a1 v4 v5 v6=some st9:=hb10;unfold gi at h
  try dsimp only
  refine .sq ?_;refine .ak (.mv rfl<|.mv rfl<|.ig rfl eJ<|.cm rfl rfl rfl<|.nil) rfl ?_;by_cases c11:(decide (v4<(a1.length:Int)))=true
  ·replace h:=ae c11 h;refine .cL rfl c11 ?_;refine .skip (Ok.on ?_);refine .sq ?_;refine .block ?_;obtain⟨v12,e13,h⟩:=bind_some h;obtain⟨⟨v14,v15⟩,e16,h⟩:=bind_some h;refine .ak (.mv rfl<|.mv rfl<|.m8 rfl rfl jc (aj e13).1 (aj e13).2<|.i6 rfl jy<|.ag (zE e16) ⟨rfl,trivial⟩ trivial trivial<|.mv rfl<|.ext rfl rfl<|.ext rfl rfl<|.au rfl<|.au rfl<|.nil) rfl ?_;refine .sl 4 rfl rfl rfl ?_;obtain⟨k17,h⟩:=ax h;refine .ak (.mv rfl<|.mv rfl<|.zC (e:=(an.slice an.rat)) [v14] [(0,_,al an.rat v14,[al an.rat v14])] dH rfl rfl rfl ⟨rfl,rfl,.one rfl,rfl,trivial⟩ ⟨rfl,trivial⟩ rfl rfl<|.yH (ys:=[v14]) rfl .sl rfl (.refl _) rfl dH rfl k17.1 k17.2 rfl<|.au rfl<|.nil) rfl ?_;refine .sl 5 rfl rfl rfl ?_;obtain⟨k18,h⟩:=ax h;refine .region (.mv rfl<|.mv rfl<|.zC (e:=(an.slice an.rq)) [v15] [(0,_,al an.rq v15,[al an.rq v15])] j0 rfl rfl rfl ⟨rfl,rfl,.one rfl,rfl,trivial⟩ ⟨rfl,trivial⟩ rfl rfl<|.yH (ys:=[v15]) rfl .sl rfl (.refl _) rfl j0 rfl k18.1 k18.2 rfl<|.au rfl<|.nil) rfl (Ok.on ?_);refine .region (.mv rfl<|.ar rfl rfl rfl<|.au rfl<|.nil) rfl (fun _ _ hs=>⟨((IntKind.i64.wrap (v4+1)),(v5++[v14]),(v6++[v15])),(sj h),hs.oo (fun r=>match r with|2000004=>26|2000005=>30|r=>r) (.r rfl rfl<|.p rfl (.own (r:=2000004))<|.p rfl (.own (r:=2000005))<|.r rfl rfl<|trivial) (.r rfl rfl<|.r rfl rfl<|trivial) rfl rfl rfl⟩)
  ·replace h:=ab c11 h;refine .c_ rfl c11 ?_;refine .exit (fun a w hs=>⟨_,(sj h),fun e=>by subst e;have h:=ho2;exact bA (⟨(v5,v6),(sj h),hs.sub (.of rfl) (.of rfl) rfl rfl⟩)⟩)
 ·rintro⟨v21,v22⟩ rfl
  try dsimp only
  refine .sl 4 rfl rfl rfl ?_;refine .sl 5 rfl rfl rfl ?_;refine .ak (.mv rfl<|.mv rfl<|.au rfl<|.au rfl<|.nil) rfl ?_;refine .vt 2 (.own 2000004) rfl .sl ?_;refine .kV 2 rfl rfl rfl ?_;refine .vt 3 (.own 2000005) rfl .sl ?_;refine .kV 3 rfl rfl rfl ?_;cases h;refine .aN (fun _ _ hb=>hb) rfl (.cons (.tmp rfl) (.t1 (.tmp rfl))) (.refl _) trivial trivial
end
end Go.Am
namespace Go.Am
theorem gg{σ ρ:Type}{body:Int×σ->Option (St (Int×σ) ρ)}(n:Nat)(F:Nat->σ)(r:ρ)(hb:∀i,i<n->body ((i:Int),F i)=some (.next (((i+1:Nat):Int),F (i+1))))(he:body ((n:Int),F n)=some (.done r)):Loop body ((0:Int),F 0)=some r:=by
 obtain⟨r',hr,rfl⟩:=cb (body:=body) ((0:Int),F 0) (fun s=>∃i:Nat,i<=n/\s=((i:Int),F i)) (fun s=>(n-s.1).toNat) (fun r'=>r'=r) ⟨0,Nat.zero_le _,rfl⟩ (by
  rintro s ⟨i,hi,rfl⟩;by_cases hlt:i<n
  ·left
   exact⟨_,hb i hlt,⟨i+1,hlt,rfl⟩,by simp only;omega⟩
  ·right
   have:i=n:=by omega
   subst this;exact⟨_,he,rfl⟩)
 exact hr
def aR(n m:Nat)(f:Nat->Nat->Rat):List (List Rat):=(List.range n).map fun k=>(List.range m).map (f k)
theorem bW{n m:Nat}{f:Nat->Nat->Rat}:(aR n m f).length=n:=by simp[aR]
theorem bR{n m:Nat}{f:Nat->Nat->Rat}{k:Nat}(h:k<n):ix (aR n m f) (k:Int)=some ((List.range m).map (f k)):=by
 rw[iy (by rw[bW];exact h)];simp[aR]
theorem cA{m:Nat}{g:Nat->Rat}{j:Nat}(h:j<m):ix ((List.range m).map g) (j:Int)=some (g j):=by
 rw[iy (by simpa using h)];simp
theorem dw{n m:Nat}{f g:Nat->Nat->Rat}(h:∀k j,k<n->j<m->f k j=g k j):aR n m f=aR n m g:=by
 unfold aR;apply List.map_congr_left;intro k hk;apply List.map_congr_left;intro j hj;exact h k j (by simpa using hk) (by simpa using hj)
theorem qH{n m:Nat}{f:Nat->Nat->Rat}{k j:Nat}{v:Rat}:(aR n m f).set ((k:Int).toNat) (((List.range m).map (f k)).set ((j:Int).toNat) v)=aR n m (fun k' j'=>if k'=k/\j'=j then v else f k' j'):=by
 rw[Int.toNat_natCast,Int.toNat_natCast];apply List.ext_getElem
 ·simp[aR]
 ·intro a h1 h2;rw[List.length_set,bW]at h1;by_cases ha:a=k
  ·subst ha;rw[List.getElem_set_self];simp only[aR,List.getElem_map,List.getElem_range];apply List.ext_getElem
   ·simp
   ·intro b h3 h4;by_cases hb:b=j
    ·subst hb;rw[List.getElem_set_self];simp
    ·rw[List.getElem_set_ne (Ne.symm hb)];simp[hb]
  ·rw[List.getElem_set_ne (Ne.symm ha)];simp only[aR,List.getElem_map,List.getElem_range];apply List.map_congr_left;intro b _;simp[ha]
def cM(M:List (List Rat)):Nat:=(M.getD 0 []).length
def right(M:List (List Rat)):Bool:=M.all fun r=>r.length==cM M
def ij(M:List (List Rat))(i j:Nat):Rat:=(M.getD i []).getD j 0
def bd(M:List (List Rat))(b:Nat):Prop:=∀r∈M,∀x∈r,sz x<=b
theorem mD{M:List (List Rat)}(h:right M=true){i:Nat}(hi:i<M.length):(M[i]).length=cM M:=by
 unfold right at h;rw[List.all_eq_true]at h;simpa using h M[i] (List.getElem_mem hi)
theorem tw{M:List (List Rat)}{i j:Nat}(hi:i<M.length)(hj:j<(M[i]).length):ij M i j=(M[i])[j]:=by
 unfold ij;rw[fh hi,fh hj]
theorem ow{M:List (List Rat)}{b:Nat}(h:bd M b)(hb:1<=b)(i j:Nat):sz (ij M i j)<=b:=by
 unfold ij;by_cases hi:i<M.length
 ·rw[fh hi];by_cases hj:j<(M[i]).length
  ·rw[fh hj];exact h _ (List.getElem_mem hi) _ (List.getElem_mem hj)
  ·rw[kM (by omega)];exact Nat.le_trans (by decide) hb
 ·have e:M.getD i []=[]:=kM (by omega);rw[e];exact Nat.le_trans (show sz (([]:List Rat).getD j 0)<=1 by rw[kM (by simp)];decide) hb
theorem wF{M:List (List Rat)}(h:0<M.length):cM M=(M[0]).length:=by unfold cM;rw[fh h]
theorem xZ{M:List (List Rat)}{i:Nat}(hi:i<M.length)(h:(M[i]).length≠cM M):right M=false:=by
 cases hq:right M with
 |false=>rfl
 |true=>exact absurd (mD hq hi) h
theorem vj{M:List (List Rat)}(h:∀i (hi:i<M.length),(M[i]).length=cM M):right M=true:=by
 unfold right;rw[List.all_eq_true];intro r hr;obtain⟨i,hi,rfl⟩:=List.getElem_of_mem hr;simpa using h i hi
theorem jZ(M:List (List Rat))(hM:M.length<=30):eC M=some ((M.length:Int),(cM M:Int),right M):=by
 unfold eC;by_cases h0:M=[]
 ·subst h0;rfl
 have hl:0<M.length:=List.length_pos_iff.2 h0;rw[if_neg (by simpa using h0)];have e0:ix M 0=some M[0]:=iy (n:=0) hl;rw[e0];simp only[Option.bind_some];obtain⟨r,hr,hp⟩:=cb (body:=fun(s:Int)=>dG M ((M[0]).length:Int) s) 0 (fun s=>∃i:Nat,i<=M.length/\s=(i:Int)/\∀k (hk:k<M.length),k<i->(M[k]).length=cM M) (fun s=>(M.length-s).toNat)
  (fun r=>(right M=false/\∃j:Int,0<=j/\r=Ex.ret j)\/(right M=true/\r=Ex.cC ())) ⟨0,Nat.zero_le _,rfl,fun k _ hk=>by omega⟩ (by
  rintro s ⟨i,hi,rfl,hall⟩;unfold dG jn;by_cases hlt:i<M.length
  ·rw[if_pos (decide_eq_true (by omega)),iy hlt,←wF hl];simp only[Option.bind_some];by_cases hq:(M[i]).length=cM M
   ·left
    rw[hq,if_neg (by simp)];refine⟨_,rfl,⟨i+1,hlt,eE hlt (by omega),fun k hk hki=>?_⟩,by rw[eE hlt (by omega)];omega⟩;by_cases e:k=i
    ·subst e;exact hq
    ·exact hall k hk (by omega)
   ·right
    rw[if_pos (by simp;omega)];exact⟨_,rfl,.inl ⟨xZ hlt hq,_,by omega,rfl⟩⟩
  ·right
   rw[if_neg (by simp;omega)];exact⟨_,rfl,.inr ⟨vj (fun k hk=>hall k hk (by omega)),rfl⟩⟩)
 unfold eK fK;rw[hr,←wF hl];rcases hp with⟨h1,j,hj,rfl⟩|⟨h1,rfl⟩
 ·rw[h1];have:decide (j>=0)=true:=decide_eq_true hj;simp only[Option.bind_some,this]
  rfl
 ·rw[h1];rfl
def ff(g h:Nat->Rat):Nat->Rat
 |0=>0
 |j+1=>ff g h j+g j*h j
theorem p2{g h g' h':Nat->Rat}:∀{n:Nat},(∀j,j<n->g j=g' j/\h j=h' j)->ff g h n=ff g' h' n
 |0,_=>rfl
 |n+1,k=>by
  have h1:=k n (by omega);unfold ff;rw[p2 (fun j hj=>k j (by omega)),h1.1,h1.2]
theorem oc{g h:Nat->Rat}{b:Nat}(hg:∀j,sz (g j)<=b)(hh:∀j,sz (h j)<=b):∀n,sz (ff g h n)<=1+n*(2*b+2)
 |0=>by
  have:sz (0:Rat)<=1:=by decide
  show sz (0:Rat)<=_;omega
 |n+1=>by
  have h1:=oc hg hh n;have h2:=i7 (ff g h n) (g n*h n);have h3:=iD (g n) (h n);have h4:=hg n;have h5:=hh n;unfold ff;rw[Nat.succ_mul];omega
theorem zT{a c:List Rat}{b:Nat}(hl:a.length<=30)(hc:a.length<=c.length)(ha:∀j,sz (a.getD j 0)<=b)(hh:∀j,sz (c.getD j 0)<=b)(hb:b<=100000000):qo a c=some (ff (fun j=>a.getD j 0) (fun j=>c.getD j 0) a.length)/\kI a c=some (ff (fun j=>a.getD j 0) (fun j=>c.getD j 0) a.length):=by
 have key:∀i:Nat,i<a.length->gO a c (i:Int) (ff (fun j=>a.getD j 0) (fun j=>c.getD j 0) i)=some (.next (((i+1:Nat):Int),ff (fun j=>a.getD j 0) (fun j=>c.getD j 0) (i+1))):=by
  intro i hi;unfold gO;rw[if_pos (decide_eq_true (by omega)),ED a 0 i hi,ED c 0 i (by omega),eE hi (by omega)]
  haveI:Bd (a.getD i 0) 100000000:=⟨Nat.le_trans (ha i) hb⟩
  haveI:Bd (c.getD i 0) 100000000:=⟨Nat.le_trans (hh i) hb⟩
  haveI:Bd (ff (fun j=>a.getD j 0) (fun j=>c.getD j 0) i) 10000000000:=⟨by
   have:=oc (g:=fun j=>a.getD j 0) (h:=fun j=>c.getD j 0) ha hh i;have h2:i*(2*b+2)<=30*(2*100000000+2):=Nat.mul_le_mul (by omega) (by omega);omega⟩
  simp only[Option.bind_some,Dy,CT,Nat.reduceAdd,Nat.reduceLeDiff]
  rfl
 have he:gO a c (a.length:Int) (ff (fun j=>a.getD j 0) (fun j=>c.getD j 0) a.length)=some (.done (ff (fun j=>a.getD j 0) (fun j=>c.getD j 0) a.length)):=by
  unfold gO;rw[if_neg (by simp)]
 have hL:=gg (body:=fun(s:Int×Rat)=>gO a c s.1 s.2) a.length (ff (fun j=>a.getD j 0) (fun j=>c.getD j 0)) _ key he
 constructor
 ·unfold qo;have:Loop (fun(s:Int×Rat)=>gO a c s.1 s.2) (0,0)=some (ff (fun j=>a.getD j 0) (fun j=>c.getD j 0) a.length):=hL;rw[this];rfl
 ·unfold kI;have:Loop (fun(s:Int×Rat)=>mN a c s.1 s.2) (0,0)=some (ff (fun j=>a.getD j 0) (fun j=>c.getD j 0) a.length):=hL;rw[this];rfl
end Go.Am
namespace Go.Am
theorem oM{k m:Nat}{f:Nat->Nat->Rat}:aR (k+1) m f=aR k m f++[(List.range m).map (f k)]:=by
 unfold aR;rw[List.range_succ,List.map_append];rfl
theorem nk{m:Nat}{g:Nat->Rat}:(List.range (m+1)).map g=(List.range m).map g++[g m]:=by
 rw[List.range_succ,List.map_append];rfl
theorem tv{M:List (List Rat)}{i:Nat}(hi:i<M.length):ix M (i:Int)=some M[i]:=iy hi
theorem BZ{M:List (List Rat)}(h:right M=true){i j:Nat}(hi:i<M.length)(hj:j<cM M):ix M[i] (j:Int)=some (ij M i j):=by
 have hl:j<(M[i]).length:=by rw[mD h hi];exact hj
 rw[iy hl,tw hi hl]
variable {M:List (List Rat)}
theorem sk(h:right M=true)(hl:M.length<=30)(hc:cM M<=30):fO M=some (aR (cM M) M.length fun k i=>ij M i k):=by
 unfold fO;rw[jZ M hl];simp only[Option.bind_some];have hL:=gg (body:=fun(s:Int×(List (List Rat)))=>dz M (cM M:Int) s.1 s.2) (cM M) (fun k=>aR k M.length fun k i=>ij M i k) (aR (cM M) M.length fun k i=>ij M i k) (fun k hk=>by
   unfold dz;rw[if_pos (decide_eq_true (by omega))];have hI:=gg (body:=fun(s:Int×(List Rat))=>dC M (k:Int) s.1 s.2) M.length (fun i=>(List.range i).map fun i=>ij M i k) ((List.range M.length).map fun i=>ij M i k) (fun i hi=>by
     unfold dC;rw[if_pos (decide_eq_true (by omega)),tv hi];simp only[Option.bind_some];rw[BZ h hi hk];simp only[Option.bind_some];rw[aO (by simp only[List.length_map,List.length_range,List.length_singleton];omega),eE hi (by omega),nk]) (by
     unfold dC;rw[if_neg (by simp)])
   have:Loop (fun(s:Int×(List Rat))=>dC M (k:Int) s.1 s.2) (0,[])=some ((List.range M.length).map fun i=>ij M i k):=hI;rw[this];simp only[Option.bind_some];rw[aO (by simp only[bW,List.length_singleton];omega),eE hk (by omega),oM]) (by
   unfold dz;rw[if_neg (by simp)])
 have:Loop (fun(s:Int×(List (List Rat)))=>dz M (cM M:Int) s.1 s.2) (0,[])=some (aR (cM M) M.length fun k i=>ij M i k):=hL;rw[this];rfl
end Go.Am
namespace Go.Am
open Go.RowKit
set_option maxRecDepth 100000
noncomputable section
end
end Go.Am
namespace Go.Am
variable {M N:List (List Rat)}
theorem xc{b:Nat}(h:bd M b)(hb:1<=b){i:Nat}(hi:i<M.length)(j:Nat):sz (M[i].getD j 0)<=b:=by
 have:=ow h hb i j;unfold ij at this
 rwa [fh hi]at this
theorem xD{n m b:Nat}{f:Nat->Nat->Rat}(h:∀k j,sz (f k j)<=b):bd (aR n m f) b:=by
 intro r hr x hx;unfold aR at hr;obtain⟨k,_,rfl⟩:=List.mem_map.1 hr;obtain⟨j,_,rfl⟩:=List.mem_map.1 hx;exact h k j
theorem AA{v:List Rat}{b:Nat}(h:right M=true)(hl:M.length<=30)(hc:cM M=v.length)(hv:v.length<=30)(hb:bd M b)(hvb:∀j,sz (v.getD j 0)<=b)(hb1:1<=b)(hb2:b<=100000000):
  nZ M v=some ((List.range M.length).map (fun i=>ff (fun j=>ij M i j) (fun j=>v.getD j 0) (cM M)),0)/\sf M v=some ((List.range M.length).map (fun i=>ff (fun j=>ij M i j) (fun j=>v.getD j 0) (cM M))):=by
 have hd:∀(i:Nat) (hi:i<M.length),qo M[i] v=some (ff (fun j=>ij M i j) (fun j=>v.getD j 0) (cM M))/\kI M[i] v=some (ff (fun j=>ij M i j) (fun j=>v.getD j 0) (cM M)):=by
  intro i hi;have hr:=mD h hi;have:=zT (a:=M[i]) (c:=v) (b:=b) (by omega) (by omega) (xc hb hb1 hi) hvb hb2;rw[hr]at this;have e:(fun j=>M[i].getD j 0)=fun j=>ij M i j:=by funext j;unfold ij;rw[fh hi]
  rw[e]at this;exact this
 constructor
 ·unfold nZ;rw[jZ M hl,h];simp only[Option.bind_some,Bool.not_true,Bool.false_eq_true,if_false];rw[if_neg (by simp[hc])];have hL:=gg (body:=fun(s:Int×(List Rat))=>gj M v s.1 s.2) M.length (fun i=>(List.range i).map (fun i=>ff (fun j=>ij M i j) (fun j=>v.getD j 0) (cM M))) ((List.range M.length).map (fun i=>ff (fun j=>ij M i j) (fun j=>v.getD j 0) (cM M))) (fun i hi=>by
    unfold gj;rw[if_pos (decide_eq_true (by omega)),tv hi];simp only[Option.bind_some];rw[(hd i hi).1];simp only[Option.bind_some];rw[aO (by simp only[List.length_map,List.length_range,List.length_singleton];omega),eE hi (by omega),nk]) (by
    unfold gj;rw[if_neg (by simp)])
  have:Loop (fun(s:Int×(List Rat))=>gj M v s.1 s.2) (0,[])=_:=hL;rw[this];rfl
 ·unfold sf;have hL:=gg (body:=fun(s:Int×(List Rat))=>gP M v s.1 s.2) M.length (fun i=>(List.range i).map (fun i=>ff (fun j=>ij M i j) (fun j=>v.getD j 0) (cM M))) ((List.range M.length).map (fun i=>ff (fun j=>ij M i j) (fun j=>v.getD j 0) (cM M))) (fun i hi=>by
    unfold gP;rw[if_pos (decide_eq_true (by omega)),tv hi];simp only[Option.bind_some];rw[(hd i hi).2];simp only[Option.bind_some];rw[aO (by simp only[List.length_map,List.length_range,List.length_singleton];omega),eE hi (by omega),nk]) (by
    unfold gP;rw[if_neg (by simp)])
  have:Loop (fun(s:Int×(List Rat))=>gP M v s.1 s.2) (0,[])=_:=hL;rw[this];rfl
def qT(M N:List (List Rat))(n i k:Nat):Rat:=ff (fun j=>ij M i j) (fun j=>ij N j k) n
def small(x:List (List (Int×Int×Int)))(n:Nat):Bool:=decide (x.length<=n)&&x.all fun r=>decide (r.length<=n)
theorem qU{x:List (List (Int×Int×Int))}{n:Nat}(h:small x n=true):x.length<=n/\∀r∈x,r.length<=n:=by
 unfold small at h;rw[Bool.and_eq_true,List.all_eq_true]at h;exact⟨by simpa using h.1,fun r hr=>by simpa using h.2 r hr⟩
theorem y8(x:List (List (Int×Int×Int)))(n:Nat)(hn:n<=30):kl x (n:Int)=some (small x n):=by
 obtain⟨r,hr,hp⟩:=cb (body:=fun(s:Int)=>gT x (n:Int) s) 0 (fun s=>∃i:Nat,i<=x.length/\i<=n+1/\s=(i:Int)/\∀k (hk:k<x.length),k<i->(x[k]).length<=n) (fun s=>(x.length-s).toNat)
  (fun r=>(small x n=false/\r=Ex.ret false)\/((small x n=true\/n<x.length)/\r=Ex.cC ())) ⟨0,Nat.zero_le _,Nat.zero_le _,rfl,fun k _ hk=>by omega⟩ (by
  rintro s ⟨i,hi,dg,rfl,hall⟩;unfold gT;by_cases hlt:i<x.length
  ·rw[if_pos (decide_eq_true (by omega))];by_cases hn2:i<=n
   ·rw[if_pos (decide_eq_true (by omega)),iy hlt];simp only[Option.bind_some];by_cases hq:(x[i]).length>n
    ·right
     rw[if_pos (decide_eq_true (by omega))];refine⟨_,rfl,.inl ⟨?_,rfl⟩⟩
     cases hs:small x n with
     |false=>rfl
     |true=>have:=(qU hs).2 x[i] (List.getElem_mem hlt);omega
    ·left
     rw[if_neg (by rw[decide_eq_true_eq];omega)];have hw:IntKind.i64.wrap ((i:Int)+1)=((i+1:Nat):Int):=by rw[i64_in (by omega)];omega
     rw[hw];refine⟨_,rfl,⟨i+1,hlt,by omega,rfl,fun k hk hki=>?_⟩,by omega⟩;by_cases e:k=i
     ·subst e;omega
     ·exact hall k hk (by omega)
   ·right
    rw[if_neg (by rw[decide_eq_true_eq];omega)];exact⟨_,rfl,.inr ⟨.inr (by omega),rfl⟩⟩
  ·right
   rw[if_neg (by rw[decide_eq_true_eq];omega)];refine⟨_,rfl,.inr ⟨?_,rfl⟩⟩;by_cases hxn:n<x.length
   ·exact .inr hxn
   ·left
    unfold small;rw[Bool.and_eq_true,List.all_eq_true];refine⟨decide_eq_true (by omega),fun r hr=>?_⟩;obtain⟨k,hk,rfl⟩:=List.getElem_of_mem hr;exact decide_eq_true (hall k hk (by omega)))
 unfold kl;rw[hr];rcases hp with⟨h1,rfl⟩|⟨h1,rfl⟩
 ·rw[h1];rfl
 ·rcases h1 with h1|h1
  ·have:=(qU h1).1;simp only[Option.bind_some,h1];rw[decide_eq_true (by omega)]
  ·have h2:small x n=false:=by
    unfold small;rw[decide_eq_false (by omega),Bool.false_and]
   simp only[Option.bind_some,h2];rw[decide_eq_false (by omega)]
def wB(x:List (List (Int×Int×Int))):Prop:=∀r∈x,∀e∈r,rR e
theorem C7(x:List (List (Int×Int×Int)))(h:wB x)(hl:x.length<=30)(hr:∀r∈x,r.length<=30):nt x=some (x.map cZ,x.map cZ):=by
 have hL:=gg (body:=fun(s:Int×(List (List Rat))×(List (List Rat)))=>gi x s.1 s.2.1 s.2.2) x.length (fun i=>((x.map cZ).take i,(x.map cZ).take i)) (x.map cZ,x.map cZ) (fun i hi=>by
   unfold gi;rw[if_pos (decide_eq_true (by omega)),iy hi];simp only[Option.bind_some];rw[Bo _ (h _ (List.getElem_mem hi)) (hr _ (List.getElem_mem hi))];simp only[Option.bind_some];have ht:((x.map cZ).take i).length=i:=by simp;omega
   rw[aO (by rw[ht];simp only[List.length_singleton];omega),aO (by rw[ht];simp only[List.length_singleton];omega),eE hi (by omega)];have e:(x.map cZ).take (i+1)=(x.map cZ).take i++[cZ x[i]]:=by
    rw[List.take_succ_eq_append_getElem (by simpa using hi)];simp
   rw[e]) (by
   unfold gi;rw[if_neg (by simp)];have e:(x.map cZ).take x.length=x.map cZ:=by rw[List.take_of_length_le];simp
   rw[e])
 unfold nt;have:Loop (fun(s:Int×(List (List Rat))×(List (List Rat)))=>gi x s.1 s.2.1 s.2.2) (0,[],[])=some (x.map cZ,x.map cZ):=hL;rw[this];rfl
theorem yV{x:List (List (Int×Int×Int))}(h:wB x):bd (x.map cZ) 256:=by
 intro r hr q hq;obtain⟨r',hr',rfl⟩:=List.mem_map.1 hr;obtain⟨j,hj,rfl⟩:=List.getElem_of_mem hq;have:=zt (h r' hr') j
 rwa [fh hj]at this
theorem yq{n m:Nat}{f:Nat->Nat->Rat}{r:List Rat}(h:r∈aR n m f):r.length=m:=by
 unfold aR at h;obtain⟨k,_,rfl⟩:=List.mem_map.1 h;simp
end Go.Am
namespace Go.Am
open Go.RowKit
section
variable {P:Program} {os:List Oper} {c:Ctx} {T T':List (Nat×D)} {H H':List (Nat×Hp)} {sps:List Spec}
variable {ops:Array Oper} {dst:Option Nat} {ty:TypeId} {pos:String} {aft:Array Edge}
variable {α:Type} {e:an α} {te tr:TypeId} {r s:Nat} {M X:List (List α)}
theorem ai.EY{t:TypeId}{z:Int}{m:Nat}{x:Operand}{xs:List α}(hz:z=(M.length:Int))(hX:X[0]?=some xs)(h:ev T x=some (.ref r (z.toNat*m)))(hh:af H r=some (.dF e te s X))(hk:af H s=some (.store e tr M))(hm:m=1)(ht:lay P t=some none)
  (hr:ai P ops c os (a_ T dst (al e xs)) H sps T' H'):ai P ops c (⟨dst,.load t x,ty,pos,aft,none⟩::os) T H (DN [(x,.ref r (z.toNat*m))] r (.dF e te s X) s (.store e tr M) (al e xs)::sps) T' H':=
 .F5 (by omega) (by rw[show z.toNat-M.length=0 by omega];exact hX) h hh hk hm ht hr
theorem ai.D9{t:TypeId}{x y:Operand}{r1 s2 m:Nat}{z:Int}{x0 xs:List α}(hz:z=(M.length:Int))(hX:X[0]?=some x0)(h:ev T x=some (.ref r (z.toNat*m)))(hy:ev T y=some (.own r1))(hh:af H r=some (.dF e te s X))(hk:af H s=some (.store e tr M))(h1:af H r1=some (aS e tr xs))(hf:af H s2=none)
  (hne:r≠s/\r≠r1/\s≠r1)(hm:m=1)(ht:lay P t=some none)
  (hr:ai P ops c os (a_ T dst .any) ((r,.dF e te s2 X.tail)::(s2,.store e tr (M++[xs]))::(s,.dead)::(r1,.dead)::H) sps T' H'):
  ai P ops c (⟨dst,.store t x y,ty,pos,aft,none⟩::os) T H (DO x (.ref r (z.toNat*m)) y (.own r1) [(r,.dF e te s X),(s,.store e tr M),(r1,aS e tr xs)] [(r,.dF e te s2 X.tail),(s2,.store e tr (M++[xs])),(s,.dead),(r1,.dead)] [s2]::sps) T' H':=by
 cases X with
 |nil=>simp at hX
 |cons y0 X=>exact .EZ (x0:=y0) (by omega) h hy hh hk h1 hf hne hm ht hr
end
end Go.Am
namespace Go.Am
open Go.RowKit
section
variable {P:Program} {os:List Oper} {c:Ctx} {T T':List (Nat×D)} {H H':List (Nat×Hp)} {sps:List Spec}
variable {ops:Array Oper} {dst:Option Nat} {ty:TypeId} {pos:String} {aft:Array Edge}
end
end Go.Am
namespace Go.Am
open Go.RowKit
set_option maxRecDepth 100000
noncomputable section
end
end Go.Am
namespace Go.Am
open Go.RowKit
set_option maxRecDepth 100000
def mh{α:Type}(xs:List α):Option (List α):=b_ (xs.length<=1000000000) (some xs)
theorem Aj{xs r:List Rat}(h:mh xs=some r):xV PP 204 [al an.rat xs] an.rat.n 28 (flat an.rat r):=by
 obtain⟨ha,h⟩:=ax h;cases h;refine .of (hl:=et _ _) Go.Proofs.Tryz.func204 rfl (by kernel_rfl) rfl rfl (fun A w0=>?_);refine .ak (.au rfl<|.nil) rfl (.sq ?_);refine .ak (.mv rfl<|.E8 cY rfl rfl<|.nil) rfl ?_;refine .cQ rfl (fun h=>?_) (.skip (Ok.on ?_))
 ·have ha0:xs=[]:=List.eq_nil_of_length_eq_zero h;subst ha0;refine .ak (.au rfl<|.nil) rfl ?_;refine .tG 2 2 3 28 rfl rfl ?_;exact .yE (fun _ _ h=>h) rfl rfl rfl
 ·refine .ak (.EH ct rfl<|.mv rfl<|.E2 (n1:=0) rfl rfl rfl ct rfl (by omega) (by omega) rfl<|.au rfl<|.nil) rfl ?_;exact .yE (fun _ _ h=>h) rfl rfl rfl
theorem AE{xs r:List (List Rat)}(h:mh xs=some r):xV PP 235 [al (an.slice an.rat) xs] (an.slice an.rat).n 68 (flat (an.slice an.rat) r):=by
 obtain⟨ha,h⟩:=ax h;cases h;refine .of (hl:=et _ _) Go.Proofs.Tryz.func235 rfl (by kernel_rfl) rfl rfl (fun A w0=>?_);refine .ak (.au rfl<|.nil) rfl (.sq ?_);refine .ak (.mv rfl<|.E8 bM rfl rfl<|.nil) rfl ?_;refine .cQ rfl (fun h=>?_) (.skip (Ok.on ?_))
 ·have ha0:xs=[]:=List.eq_nil_of_length_eq_zero h;subst ha0;refine .ak (.au rfl<|.nil) rfl ?_;refine .tG 2 2 1 68 rfl rfl ?_;exact .yE (fun _ _ h=>h) rfl rfl rfl
 ·refine .ak (.EH dH rfl<|.mv rfl<|.E2 (n1:=0) rfl rfl rfl dH rfl (by omega) (by omega) rfl<|.au rfl<|.nil) rfl ?_;exact .yE (fun _ _ h=>h) rfl rfl rfl
end Go.Am
namespace Go.Am
open Go.RowKit
section
variable {P:Program} {os:List Oper} {c:Ctx} {T T':List (Nat×D)} {H H':List (Nat×Hp)} {sps:List Spec}
variable {ops:Array Oper} {dst:Option Nat} {ty:TypeId} {pos:String} {aft:Array Edge}
end
end Go.Am
namespace Go.Am
open Go.RowKit
set_option maxRecDepth 100000
noncomputable section
def dv(v2:List (List Rat))(v6:Int)(v7:List (List Rat))(v8:List (List Rat)):Option (St (Int×(List (List Rat))×(List (List Rat))) ((List (List Rat))×(List (List Rat)))):=(if(decide (v6<((([]:List (List Rat)).length+v2.length):Int)))=true then b_ ((v6:Int)=(v8.length:Int)) ((ix v7 0).bind fun v15=>(mh v15).bind fun v17=>some (St.next ((IntKind.i64.wrap (v6+1)),v7.tail,(v8++[v17]))))else some (St.done (v7,v8)))
def gL(a1:List (List Rat)):Option (List (List Rat)):=(mh a1).bind fun v2=>((Loop (fun(s:Int×(List (List Rat))×(List (List Rat)))=>dv v2 s.1 s.2.1 s.2.2) (0,v2,([]:List (List Rat)))).bind fun(v19,v20)=>some ((v19,v20))).bind fun(v21,v22)=>b_ (v21=[]) (some v22)
theorem tE{a1:List (List Rat)}{r24:List (List Rat)}(h:gL a1=some r24):aU PP 202 [] [al (an.slice an.rat) a1] [(6,Hp.dF an.rat 68 4000006 ([])),(4000006,Hp.store an.rat 28 r24)] (D.own 6):=by
 unfold gL at h;refine .of Go.Proofs.Tryz.func202 rfl (by kernel_rfl) rfl rfl rfl rfl rfl rfl (fun A w0 L b=>?_);show Ok PP _ [(0,al (an.slice an.rat) a1)] [] _ _;refine .ak (.au rfl<|.nil) rfl ?_;obtain⟨v2,e3,h⟩:=bind_some h;refine .ak (.mv rfl<|.zp (hl:=et _ _) (AE e3) ⟨rfl,trivial⟩ rfl<|.au rfl<|.nil) rfl ?_;obtain⟨o4,hp5,h⟩:=bind_some h;refine .cX (fun i=>o4=i) (fun(i:(List (List Rat))×(List (List Rat)))=>[(3,D.own 6)]) (fun(i:(List (List Rat))×(List (List Rat)))=>[(6,Hp.dF an.rat 68 4000006 i.1),(4000006,Hp.store an.rat 28 i.2)]) ?_ ?_
 ·have ho1:=h;have h:=hp5;refine .FA 6 4000006 28 rfl rfl ?_;refine .Cx 3 rfl rfl rfl ?_;refine .ak (.mv rfl<|.DQ rfl bM<|.mv rfl<|.nil) rfl ?_;obtain⟨o9,hl10,h⟩:=bind_some h;have ho2:=h;refine .block (.cD (fun(s:Int×(List (List Rat))×(List (List Rat)))=>[(3,D.own 6),(8,D.int .i64 ((([]:List (List Rat)).length+v2.length):Int)),(9,D.int .i64 s.1)]) (fun(s:Int×(List (List Rat))×(List (List Rat)))=>[(6,Hp.dF an.rat 68 4000006 s.2.1),(4000006,Hp.store an.rat 28 s.2.2)]) hl10 (.p rfl .sl<|.k rfl<|.k rfl<|trivial) (.of rfl) rfl rfl ?_);rintro⟨v6,v7,v8⟩ st11 hb12;have h:dv v2 v6 v7 v8=some st11:=hb12;unfold dv at h
  try dsimp only
  refine .ak (.cm rfl rfl rfl<|.nil) rfl ?_;refine .sq ?_;by_cases c13:(decide (v6<((([]:List (List Rat)).length+v2.length):Int)))=true
  ·replace h:=ae c13 h;refine .cL rfl c13 ?_;refine .skip (Ok.on ?_);refine .sq ?_;refine .block ?_;refine .ak (.mv rfl<|.au rfl<|.nil) rfl ?_;refine .Cx 3 rfl rfl rfl ?_;obtain⟨k14,h⟩:=ax h;obtain⟨v15,e16,h⟩:=bind_some h;obtain⟨v17,e18,h⟩:=bind_some h;refine .region (.mv rfl<|.mv rfl<|.mv rfl<|.mv rfl<|.l4 rfl rfl aK (by omega) (by have:=de e16;omega)<|.EY k14 (aj e16).2 rfl rfl rfl rfl aP<|.zp (hl:=et _ _) (Aj e18) ⟨rfl,trivial⟩ rfl<|.l4 rfl rfl aK (by omega) (by have:=de e16;omega)<|.D9 (s2:=3000006) k14 (aj e16).2 rfl rfl rfl rfl rfl rfl ⟨by decide,by decide,by decide⟩ rfl aP<|.nil) rfl (Ok.on ?_);refine .region (.ar rfl rfl rfl<|.mv rfl<|.nil) rfl (fun _ _ hs=>⟨((IntKind.i64.wrap (v6+1)),v7.tail,(v8++[v17])),(sj h),hs.oo (fun r=>match r with|4000006=>3000006|r=>r) (.p rfl (.D_ (r:=6))<|.r rfl rfl<|.r rfl rfl<|trivial) (.p rfl (.dF (s:=4000006))<|.r rfl rfl<|trivial) rfl rfl rfl⟩)
  ·replace h:=ab c13 h;refine .c_ rfl c13 ?_;refine .exit (fun a w hs=>⟨_,(sj h),fun e=>by subst e;have h:=ho2;exact bA (⟨(v7,v8),(sj h),hs.sub (.of rfl) (.of rfl) rfl rfl⟩)⟩)
 ·rintro⟨v21,v22⟩ rfl
  try dsimp only
  refine .Cx 3 rfl rfl rfl ?_;refine .ak (.mv rfl<|.au rfl<|.nil) rfl ?_;refine .vt 2 (.own 6) rfl .sl ?_;obtain⟨k23,h⟩:=ax h;subst k23;cases h;refine .aN (fun _ _ hb=>hb) rfl (.t1 (.tmp rfl)) (.refl _) trivial (.of rfl)
def ee(a1:Int)(a4:Int)(v34:Int)(v45:Rat)(v51:Int)(v52:List (List Rat)):Option (St (Int×(List (List Rat))) (List (List Rat))):=(if(decide (v51<a4))=true then(ix v52 v34).bind fun v58=>(ix v52 v34).bind fun v60=>(ix v60 v51).bind fun v62=>(ix v52 a1).bind fun v64=>(ix v64 v51).bind fun v66=>(fR v45 v66).bind fun v68=>(jQ v62 v68).bind fun v70=>(ix v58 v51).bind fun v72=>some (St.next ((IntKind.i64.wrap (v51+1)),(v52.set v34.toNat (v58.set v51.toNat v70))))else some (St.done v52))
end
end Go.Am
namespace Go.Am
theorem qd{σ ρ:Type}{body:Int×σ->Option (St (Int×σ) ρ)}(a n:Nat)(F:Nat->σ)(r:ρ)(ha:a<=n)(hb:∀i,a<=i->i<n->body ((i:Int),F i)=some (.next (((i+1:Nat):Int),F (i+1))))(he:body ((n:Int),F n)=some (.done r)):Loop body ((a:Int),F a)=some r:=by
 obtain⟨r',hr,rfl⟩:=cb (body:=body) ((a:Int),F a) (fun s=>∃i:Nat,a<=i/\i<=n/\s=((i:Int),F i)) (fun s=>(n-s.1).toNat) (fun r'=>r'=r) ⟨a,Nat.le_refl _,ha,rfl⟩ (by
  rintro s ⟨i,hai,hi,rfl⟩;by_cases hlt:i<n
  ·left
   exact⟨_,hb i hai hlt,⟨i+1,by omega,hlt,rfl⟩,by simp only;omega⟩
  ·right
   have:i=n:=by omega
   subst this;exact⟨_,he,rfl⟩)
 exact hr
def rF(f:Nat->Nat->Rat)(B:Nat):Prop:=∀i j,sz (f i j)<=B
theorem zu{n m:Nat}{f:Nat->Nat->Rat}{i:Nat}(h:i<n):(aR n m f)[i]?=some ((List.range m).map (f i)):=by
 rw[List.getElem?_eq_getElem (by rw[bW];exact h)];simp[aR]
theorem vi{n m:Nat}{f:Nat->Nat->Rat}{a:Nat}{g:Nat->Rat}:(aR n m f).set a ((List.range m).map g)=aR n m (fun i j=>if i=a then g j else f i j):=by
 apply List.ext_getElem
 ·simp[aR]
 ·intro i h1 h2;by_cases ha:i=a
  ·subst ha;rw[List.getElem_set_self];simp[aR]
  ·rw[List.getElem_set_ne (Ne.symm ha)];simp[aR,ha]
variable {n m:Nat} {f:Nat->Nat->Rat} {B:Nat}
theorem y4{row i0 k:Nat}{c:Rat}(hrow:row<n)(hi:i0<n)(hne:i0≠row)(hk:k<=m)(hm:m<=30)(hf:rF f B)(hc:sz c<=B)(hB:B<=1000000000):
  Loop (fun(s:Int×(List (List Rat)))=>ee (row:Int) (m:Int) (i0:Int) c s.1 s.2) ((k:Int),aR n m f)=some (aR n m (fun i j=>if i=i0/\k<=j then f i0 j-c*f row j else f i j)):=by
 have hL:=qd (body:=fun(s:Int×(List (List Rat)))=>ee (row:Int) (m:Int) (i0:Int) c s.1 s.2) k m (fun q=>aR n m (fun i j=>if i=i0/\k<=j/\j<q then f i0 j-c*f row j else f i j)) (aR n m (fun i j=>if i=i0/\k<=j/\j<m then f i0 j-c*f row j else f i j)) hk (fun q hkq hq=>by
   unfold ee;rw[if_pos (decide_eq_true (by omega)),bR hi,Option.bind_some,Option.bind_some,cA hq,Option.bind_some,bR hrow,Option.bind_some,cA hq,Option.bind_some];rw[if_neg (by omega),if_neg (by omega)];have h1:=hf row q;have h2:=hf i0 q;have h3:=iD c (f row q);rw[lX (show cJ c from by unfold cJ;omega) (show cJ (f row q)from by unfold cJ;omega),Option.bind_some,uW (show cJ (f i0 q)from by unfold cJ;omega) (show cJ (c*f row q)from by unfold cJ;omega),Option.bind_some,Option.bind_some,qH,eE hq (by omega)];rw[dw (g:=fun i j=>if i=i0/\k<=j/\j<q+1 then f i0 j-c*f row j else f i j) (fun i j _ _=>by
    by_cases e1:i=i0/\j=q
    ·rw[if_pos e1,if_pos (by omega),e1.2]
    ·rw[if_neg e1];by_cases e2:i=i0/\k<=j/\j<q
     ·rw[if_pos e2,if_pos (by omega)]
     ·rw[if_neg e2,if_neg (by omega)])]) (by
   unfold ee;rw[if_neg (by simp)])
 have e0:aR n m f=aR n m (fun i j=>if i=i0/\k<=j/\j<k then f i0 j-c*f row j else f i j):=dw (fun i j _ _=>by rw[if_neg (by omega)]);rw[e0];rw[hL];rw[dw (g:=fun i j=>if i=i0/\k<=j then f i0 j-c*f row j else f i j) (fun i j _ hj=>by
  by_cases e2:i=i0/\k<=j
  ·rw[if_pos e2,if_pos (by omega)]
  ·rw[if_neg e2,if_neg (by omega)])]
theorem CP{x:Rat}:(vq x !=0)=true↔x≠0:=by rw[bne_iff_ne,Ne,wS]
end Go.Am
namespace Go.Am
variable {n m:Nat} {f:Nat->Nat->Rat} {B:Nat}
def gA(f:Nat->Nat->Rat)(k n i:Nat):Nat:=if i<n then(if f i k=0 then gA f k n (i+1)else i)else i
termination_by n-i
theorem uv{k:Nat}:∀d i,n-i=d->i<=gA f k n i
 |0,i,h=>by unfold gA;rw[if_neg (by omega)];omega
 |d+1,i,h=>by
  unfold gA
  split
  ·split
   ·have:=uv (k:=k) d (i+1) (by omega);omega
   ·omega
  ·omega
theorem uE{k:Nat}:∀d i,n-i=d->gA f k n i<n->f (gA f k n i) k≠0
 |0,i,h,hl=>by
  unfold gA at hl|-;rw[if_neg (by omega)]at hl;omega
 |d+1,i,h,hl=>by
  unfold gA at hl|-;by_cases h1:i<n
  ·rw[if_pos h1]at hl|-;by_cases h2:f i k=0
   ·rw[if_pos h2]at hl|-;exact uE d (i+1) (by omega) hl
   ·rw[if_neg h2];exact h2
  ·omega
theorem rS{k:Nat}:∀d i,n-i=d->¬gA f k n i<n->∀j,i<=j->j<n->f j k=0
 |0,i,h,_,j,h1,h2=>by omega
 |d+1,i,h,hl,j,h1,h2=>by
  unfold gA at hl;rw[if_pos (by omega)]at hl;by_cases h3:f i k=0
  ·rw[if_pos h3]at hl;by_cases e:j=i
   ·subst e;exact h3
   ·exact rS d (i+1) (by omega) hl j (by omega) h2
  ·rw[if_neg h3]at hl;omega
theorem wg:gD 1=some 1:=D8
theorem yw{k i:Nat}(h:i<n):gA f k n i=if f i k=0 then gA f k n (i+1)else i:=by
 conv=>lhs;unfold gA
 rw[if_pos h]
theorem ya{k i:Nat}(h:¬i<n):gA f k n i=i:=by unfold gA;rw[if_neg h]
end Go.Am
namespace Go.Am
variable {n m:Nat}
theorem Af{C a b:Nat}(h:a<=b):C*8^a<=C*8^b:=Nat.mul_le_mul_left _ (Nat.pow_le_pow_right (by decide) h)
end Go.Am
namespace Go.Am
theorem yD(M:List (List Rat))(hl:M.length<=30)(hr:∀r∈M,r.length<=30):gL M=some M:=by
 unfold gL mh;rw[aO (by omega),Option.bind_some];have hL:=gg (body:=fun(s:Int×(List (List Rat))×(List (List Rat)))=>dv M s.1 s.2.1 s.2.2) M.length (fun i=>(M.drop i,M.take i)) ([],M) (fun i hi=>by
  unfold dv;have ht:(M.take i).length=i:=by rw[List.length_take];omega
  rw[if_pos (decide_eq_true (by simp;omega)),aO (by rw[ht]),List.drop_eq_getElem_cons hi];have e0:ix (M[i]::M.drop (i+1)) 0=some M[i]:=rfl;rw[e0,Option.bind_some];unfold mh;rw[aO (by have:=hr _ (List.getElem_mem hi);omega),Option.bind_some,eE hi (by omega),List.take_succ_eq_append_getElem hi]
  rfl) (by
  unfold dv;rw[if_neg (by simp),List.drop_length,List.take_length])
 have:Loop (fun(s:Int×(List (List Rat))×(List (List Rat)))=>dv M s.1 s.2.1 s.2.2) (0,M,([]:List (List Rat)))=_:=hL;rw[this,Option.bind_some,Option.bind_some];exact aO rfl
theorem kQ{n m:Nat}{f:Nat->Nat->Rat}:right (aR n m f)=true:=by
 refine vj (fun i hi=>?_);have h0:0<(aR n m f).length:=by omega
 rw[wF h0];simp[aR]
theorem mg{n m:Nat}{f:Nat->Nat->Rat}(h:0<n):cM (aR n m f)=m:=by
 rw[wF (by rw[bW];exact h)];simp[aR]
end Go.Am
namespace Go.Am
def bZ:List Nat->(Nat->Rat)->Rat
 |[],_=>0
 |a::l,g=>g a+bZ l g
theorem bk{g h:Nat->Rat}:∀{l:List Nat},(∀a∈l,g a=h a)->bZ l g=bZ l h
 |[],_=>rfl
 |a::l,k=>by
  unfold bZ;rw[k a (List.mem_cons_self),bk (fun b hb=>k b (List.mem_cons_of_mem _ hb))]
theorem ib{g h:Nat->Rat}:∀{l:List Nat},bZ l (fun a=>g a+h a)=bZ l g+bZ l h
 |[]=>by unfold bZ;grind
 |a::l=>by unfold bZ;rw[ib];grind
theorem eN{c:Rat}{g:Nat->Rat}:∀{l:List Nat},bZ l (fun a=>c*g a)=c*bZ l g
 |[]=>by unfold bZ;grind
 |a::l=>by unfold bZ;rw[eN];grind
theorem mb{g:Nat->Rat}{l:List Nat}(h:∀a∈l,g a=0):bZ l g=0:=by
 rw[bk (h:=fun _=>0*0) (fun a ha=>by rw[h a ha];grind),eN];grind
def qf(l:List Nat)(m:Nat->Nat->Rat)(x:Nat->Rat):Rat:=bZ l fun i=>bZ l fun j=>x i*x j*m i j
theorem Ai{l:List Nat}{m m':Nat->Nat->Rat}{x x':Nat->Rat}(h:∀i∈l,∀j∈l,m i j=m' i j)(k:∀i∈l,x i=x' i):qf l m x=qf l m' x':=
 bk fun i hi=>bk fun j hj=>by rw[h i hi j hj,k i hi,k j hj]
def symm(m:Nat->Nat->Rat):Prop:=∀i j,m i j=m j i
theorem wN{k:Nat}{l:List Nat}{m:Nat->Nat->Rat}{x:Nat->Rat}(hs:symm m):qf (k::l) m x=x k*x k*m k k+2*x k*bZ l (fun j=>x j*m k j)+qf l m x:=by
 unfold qf;have e1:bZ l (fun j=>x k*x j*m k j)=x k*bZ l (fun j=>x j*m k j):=by
  rw[←eN];exact bk fun a _=>by grind
 have e2:bZ l (fun i=>bZ (k::l) fun j=>x i*x j*m i j)=x k*bZ l (fun j=>x j*m k j)+bZ l (fun i=>bZ l fun j=>x i*x j*m i j):=by
  rw[←eN,←ib];exact bk fun a _=>by
   show x a*x k*m a k+_=_;rw[hs a k];grind
 have e3:bZ (k::l) (fun i=>bZ (k::l) fun j=>x i*x j*m i j)=bZ (k::l) (fun j=>x k*x j*m k j)+bZ l (fun i=>bZ (k::l) fun j=>x i*x j*m i j):=rfl;have e4:bZ (k::l) (fun j=>x k*x j*m k j)=x k*x k*m k k+bZ l (fun j=>x k*x j*m k j):=rfl;rw[e3,e4,e1,e2];grind
def mO(m:Nat->Nat->Rat)(k i j:Nat):Rat:=m i j-m i k/m k k*m k j
theorem wa{m:Nat->Nat->Rat}{k:Nat}(hs:symm m):symm (mO m k):=fun i j=>by
 unfold mO;rw[hs i j,hs i k,hs k j,Rat.div_def,Rat.div_def];grind
theorem sA{g h:Nat->Rat}{l l':List Nat}:bZ l (fun i=>bZ l' fun j=>g i*h j)=bZ l g*bZ l' h:=by
 rw[bk (h:=fun i=>bZ l' h*g i) (fun i _=>by rw[eN];grind),eN];grind
theorem Ah{k:Nat}{l:List Nat}{m:Nat->Nat->Rat}{x:Nat->Rat}(hs:symm m)(h:m k k≠0):qf l (mO m k) x=qf l m x-bZ l (fun j=>x j*m k j)*bZ l (fun j=>x j*m k j)/m k k:=by
 have e:qf l m x=qf l (mO m k) x+bZ l (fun i=>bZ l fun j=>(x i*m k i)*(x j*m k j/m k k)):=by
  unfold qf;rw[←ib];refine bk fun i _=>?_;rw[←ib];refine bk fun j _=>?_;unfold mO;rw[hs i k,Rat.div_def,Rat.div_def];grind
 have e2:bZ l (fun j=>x j*m k j/m k k)=bZ l (fun j=>x j*m k j)/m k k:=by
  rw[bk (h:=fun j=>(m k k)⁻¹*(x j*m k j)) (fun j _=>by rw[Rat.div_def];grind),eN,Rat.div_def];grind
 rw[sA,e2]at e;rw[e,Rat.div_def,Rat.div_def];grind
def DS(l:List Nat)(m:Nat->Nat->Rat):Prop:=∀x,0<=qf l m x
theorem yC{k:Nat}{l:List Nat}{m:Nat->Nat->Rat}(hs:symm m)(h:0<m k k)(hp:DS l (mO m k)):DS (k::l) m:=fun x=>by
 have h1:=hp x;rw[Ah hs (by grind)]at h1;rw[wN hs];generalize bZ l (fun j=>x j*m k j)=L at*;generalize qf l m x=q at*;have h2:0<=m k k*((x k+L/m k k)*(x k+L/m k k)):=Rat.mul_nonneg (Rat.le_of_lt h) (y9 _);have h3:m k k*(L/m k k)=L:=by rw[Rat.mul_comm];exact Rat.div_mul_cancel (by grind)
 have h4:L*L/m k k=L*(L/m k k):=by rw[Rat.div_def,Rat.div_def,Rat.mul_assoc]
 rw[h4]at h1;generalize L/m k k=t at*;subst h3
 grind
theorem AH{k:Nat}{l:List Nat}{m:Nat->Nat->Rat}(hs:symm m)(h:m k k=0)(h0:∀i∈l,m k i=0)(hp:DS l m):DS (k::l) m:=fun x=>by
 rw[wN hs,h,mb (fun j hj=>by rw[h0 j hj];grind)];have:=hp x
 grind
theorem xd{l:List Nat}(hn:l.Nodup){i:Nat}(hi:i∈l){g:Nat->Rat}(h:∀j∈l,j≠i->g j=0):bZ l g=g i:=by
 induction l with
 |nil=>cases hi
 |cons a l ih=>
  rw[List.nodup_cons]at hn;by_cases e:a=i
  ·subst e;unfold bZ;rw[mb (fun j hj=>h j (List.mem_cons_of_mem _ hj) (fun e=>hn.1 (e▸hj)))];grind
  ·have hi':i∈l:=(List.mem_cons.1 hi).elim (fun h=>absurd h.symm e) id;unfold bZ;rw[h a List.mem_cons_self e,ih hn.2 hi' (fun j hj=>h j (List.mem_cons_of_mem _ hj))];grind
end Go.Am
namespace Go.Am
open Go.RowKit
section
variable {P:Program} {os:List Oper} {c:Ctx} {T T':List (Nat×D)} {H H':List (Nat×Hp)} {sps:List Spec}
variable {ops:Array Oper} {dst:Option Nat} {ty:TypeId} {pos:String} {aft:Array Edge}
end
end Go.Am
namespace Go.Am
open Go.RowKit
set_option maxRecDepth 100000
noncomputable section
def bJ(a1:List (List Rat))(v4:Int)(v12:Int):Option (St Int (Ex Unit Bool)):=(if(decide (v12<v4))=true then(ix a1 v4).bind fun v18=>(ix v18 v12).bind fun v20=>(ix a1 v12).bind fun v22=>(ix v22 v4).bind fun v24=>(j1 v20 v24).bind fun v26=>(if(v26 !=0)=true then some (St.done (Ex.ret false))else some (St.next (IntKind.i64.wrap (v12+1))))else some (St.done (Ex.cC ())))
def bK(a1:List (List Rat))(v4:Int):Option (St Int (Ex Unit Bool)):=(if(decide (v4<(a1.length:Int)))=true then((Loop (fun(s:Int)=>bJ a1 v4 s) 0).bind fun o13=>(match o13 with|Ex.cC ()=>some (Ex.cC ())|Ex.ret r29=>some (Ex.ret r29))).bind fun o10=>(match o10 with|Ex.cC ()=>some (St.next (IntKind.i64.wrap (v4+1)))|Ex.ret r30=>some (St.done (Ex.ret r30)))else some (St.done (Ex.cC ())))
def iL(a1:List (List Rat)):Option Bool:=((Loop (fun(s:Int)=>bK a1 s) 0).bind fun o5=>(match o5 with|Ex.cC ()=>some (Ex.cC ())|Ex.ret r31=>some (Ex.ret r31))).bind fun o2=>(match o2 with|Ex.cC ()=>some true|Ex.ret r32=>some r32)
end
end Go.Am
namespace Go.Am
open Go.RowKit
def Bh(m lo:Nat):Value->Value
 |.slice A n c=>.slice (if c=lo then A else A.map (·.add (lo*m))) (n-lo) (c-lo)
 |v=>v
theorem yd(m:Nat)(v:Value):Bh m 0 v=v:=by
 cases v with
 |slice A n c=>cases A<;>simp[Bh,Addr.add]
 |_=>rfl
def D.mv(s k lo m:Nat):D where
 p:=fun ε _ _ v=>v.oneCell'=true/\∃(vs:Array Value) (u:Value),ε s=.agg vs/\vs[k]?=some u/\u.oneCell'=true/\v=Bh m lo u
 nm:=[s]
 sh:=.one
 mono:=fun h he _=>by rw[he _ (by simp)];exact h
 hJ:=fun h=>h.1
theorem rK.F_{ρ:Nat->Nat}{s k m:Nat}:rK ρ (.mr (ρ s) k) (.mv s k 0 m):=⟨fun _ _ _ _ ⟨h1,vs,h2,h3⟩=>⟨h1,vs,_,h2,h3,h1,(yd m _).symm⟩,fun r' hr'=>by simp[D.mv]at hr'|-;rw[hr'];simp[D.mr]⟩
section
variable {P:Program} {os:List Oper} {c:Ctx} {T T':List (Nat×D)} {H H':List (Nat×Hp)} {sps:List Spec}
variable {ops:Array Oper} {dst:Option Nat} {ty:TypeId} {pos:String} {aft:Array Edge}
variable {α:Type} {e:an α} {te tr:TypeId} {r s:Nat} {M X:List (List α)}
theorem ai.EO{xt yt:TypeId}{x y:Operand}{k lo m:Nat}{xs:List α}(ht:isSlice P xt=true)(hx:ev T x=some (.mv s k lo m))(hy:ev T y=some .nil)(hh:af H s=some (.store e tr M))(hM:M[k]?=some xs)(hm:Nat.blt 0 e.n=true)
  (hr:ai P ops c os (a_ T dst (.Eu (xs=[]))) H sps T' H'):
  ai P ops c (⟨dst,.binOp .eql xt x y yt,ty,pos,aft,none⟩::os) T H (xr [(x,.mv s k lo m),(y,.nil)] s (.store e tr M) (.Eu (xs=[]))::sps) T' H':=
 .ask rfl (two hx hy) hh (fun r' hr'=>by cases hr') (fun ε w S a F ha hp=>by
  obtain⟨h1,vs,u,e1,e2,hu1,e3⟩:=ha (x,.mv s k lo m) (by simp);have h2:a.eval y=.slice none 0 0:=ha (y,.nil) (by simp);obtain⟨G,hrow⟩:=oy hM hp (v:=u) ⟨hu1,vs,e1,e2⟩;obtain⟨A,cap,hb,hA⟩:=we (by simpa using hm) hrow;unfold isSlice at ht
  split at ht<;>try cases ht
  rename_i e' he;subst hb;refine⟨.bool A.isNone,?_,A.isNone,rfl,fun h=>?_⟩
  ·have hv:∃B n' c',a.eval x=.slice B n' c'/\B.isNone=A.isNone:=by
    dsimp only at e3;rw[e3];refine⟨_,_,_,rfl,?_⟩
    split<;>cases A<;>rfl
   obtain⟨B,n',c',hv,hB⟩:=hv;have hq:(Op.equal xt (.slice B n' c') (.slice none 0 0)).run P w=.ok A.isNone w:=by
    simp only[Op.equal,Op.maxDepth];rw[←hB];exact kY w 9999 B n' c' he
   simp only[execOp,hv,h2,sE,Sem.run_bind,Sem.run_pure,Result.andThen_ok];simp[binOp,hq]
  ·cases A with
   |some ad=>cases h
   |none=>
    have:=hA
    cases xs with
    |nil=>rfl
    |cons y ys=>exact absurd (hA (by simp)) (by simp)) hr
theorem Dm{ε:Env}{w:World}{S:ca}{F:ca}{v:Value}{k lo m:Nat}{xs:List α}(hp:(Hp.store e tr M).p ε w S (ε s) F)(hM:M[k]?=some xs)(hmn:m=e.n)(hm0:0<m)(hlo:lo<=xs.length)(hv:(D.mv s k lo m).p ε w S v):
  ∃A cap2 vs,v=.slice A (xs.length-lo) cap2/\(xs.length-lo=0\/∃b o,A=some ⟨b,o,none⟩/\∀(j:Nat) u,vs[j]?=some u->w.cell? ⟨b,o+j,none⟩=some u)/\(∀u∈vs,u.oneCell'=true)/\bI ε w S (flat e (xs.drop lo)) vs:=by
 subst hmn;obtain⟨h1,ws,u,e1,e2,hu1,e3⟩:=hv;obtain⟨G,hrow⟩:=oy hM hp (v:=u) ⟨hu1,ws,e1,e2⟩;rcases hrow with⟨h0,hb,_⟩|⟨g,n,cap,cs,rest,hb,_,hg,hc1,hcap,_,hln,hcs⟩
 ·have h0':xs=[]:=by
   have:=bh e xs;rw[h0]at this;have:xs.length*e.n=0:=this.symm;exact List.eq_nil_of_length_eq_zero ((Nat.mul_eq_zero.1 this).resolve_right (by omega))
  subst h0';subst hb;have:lo=0:=by simpa using hlo
  subst this;refine⟨none,0,[],by rw[e3];simp[Bh],.inl rfl,fun u hu=>by(cases hu),?_⟩;rw[List.drop_nil];exact trivial
 ·have hn:n=xs.length:=by
   have:=bh e xs;rw[hln]at this;exact Nat.eq_of_mul_eq_mul_right hm0 this
  subst hn;have hcl:cs.length=xs.length*e.n:=by rw[aF hcs,bh]
  refine⟨_,_,cs.drop (lo*e.n),by rw[e3,hb];rfl,?_,fun u hu=>hc1 u (List.mem_of_mem_drop hu),by rw[←mB];exact dY _ hcs⟩;by_cases h0:xs.length-lo=0
  ·exact .inl h0
  ·have hle:xs.length*e.n<=cap*e.n:=by rw[←hcap,List.length_append];omega
   have hle2:xs.length<=cap:=Nat.le_of_mul_le_mul_right hle hm0;refine .inr ⟨g,0+lo*e.n,by rw[if_neg (by omega),Option.map_some,Addr.add_lit],fun j u hj=>?_⟩;rw[List.getElem?_drop]at hj;rw[gb hg,Nat.zero_add,List.getElem?_append_left (List.getElem?_eq_some_iff.1 hj).1];exact hj
theorem ai.E7{t te:TypeId}{x y:Operand}{r1 r m bt k lo:Nat}{xs ys:List α}{z:List D}{dx dy:D}(hx:ev T x=some dx)(hdx:Le dx (.own r1))(hy:ev T y=some dy)(hdy:Le dy (.mv s k lo m))(hh:af H r1=some (aS e te ys))(hk:af H s=some (.store e tr M))(hM:M[k]?=some xs)(hlo:lo<=xs.length)(hm:mM P t=some (te,m,bt,z))(hmn:m=e.n)
  (hb:(ys.length+(xs.length-lo))*bt<=140737488355328)(hmax:ys.length+(xs.length-lo)<=9223372036854775807)(hf:af H r=none)
  (hr:ai P ops c os ((r,.own r)::T) ((r1,.dead)::(r,aS e te (ys++xs.drop lo))::H) sps T' H'):
  ai P ops c (⟨some r,.call {callee:=.builtin .append,args:=#[x,y],argTypes:=#[t,t]},ty,pos,aft,none⟩::os) T H
   (apps x dx y dy r1 r [(r1,aS e te ys),(s,.store e tr M)] (aS e te (ys++xs.drop lo))::sps) T' H':=by
 refine .cons (sp:=apps x dx y dy r1 r [(r1,aS e te ys),(s,.store e tr M)] (aS e te (ys++xs.drop lo))) ?_ (aW.2 ⟨(aw hx).1,(aw hy).1⟩) ⟨hh,hk,trivial⟩ ⟨hf,trivial⟩ hr;intro hd T0 H0 hi dg hnew a w ⟨ε,φ,hs⟩ Q K hK;rw[if_pos (aX rfl _)];obtain⟨hi1,hi2⟩:=aW.1 hi;obtain⟨_,_,_,_,_,_,_,_,_,_,hm0⟩:=fW hm;have h1:a.eval x=ε r1:=(hdx.1 _ _ _ _ (hs.ev hi1 (aw hx).2).1).1;obtain⟨A,cap2,vs,h2,hvA,hv1,hv⟩:=Dm (hs.h s _ dg.2.1) hM hmn hm0 hlo (hdy.1 _ _ _ _ (hs.ev hi2 (aw hy).2).1);subst hmn;obtain⟨v',w',ε',φ',hrun,hS,ev',ho⟩:=hs.app (ty:=ty) hm (r:=r) (n2:=xs.length-lo) (hl:=et e (ys++xs.drop lo)) dg.1 hnew.1 (bh e ys) (by rw[bh,List.length_drop]) (et e (xs.drop lo)) (oW e ys (xs.drop lo)).symm hvA hv1 hv hb hmax (cap2:=cap2);have hrun':(Builtin.append_ #[t,t] ty #[a.eval x,a.eval y]).run P w=.ok v' w':=by rw[h1,h2];exact hrun
 simp only[Oper.wp,kU a w w' hrun',Oper.upon];refine hK _ _ ⟨ε',φ',hS.put (d:=.own r) (cI hd) ⟨ev'.symm,ho⟩ (fun r' hr'=>?_)⟩;have:r'=r:=by simpa [D.own]using hr'
 subst this;show bm H0 [(r1,.dead),(r',aS e te (ys++xs.drop lo))] r'≠none;rw[fI];have hne:r'≠r1:=fun e=>by subst e;have:=dg.1;have h0:=hnew.1;rw[h0]at this;cases this
 rw[az _ _ hne,aq];simp
theorem zw{ε:Env}{w:World}{S:ca}{F1:ca}{xs:List α}{vs:Array Value}{G:Nat->ca}{v:Value}{z:Nat}(hz:z<M.length)(h1:vs.size=M.length)(h2:∀k xs v,M[k]?=some xs->vs[k]?=some v->k≠z->(aS e tr xs).p ε w S v (G k))(h3:∀k k',k<M.length->k'<M.length->k≠k'->∀i,G k i->¬G k' i)(hx:(aS e tr xs).p ε w S v F1)(hd:∀k,k<M.length->∀i,G k i->¬F1 i):
  ((vs.set z v (by omega)).size=(M.set z xs).length)/\(∀k ys u,(M.set z xs)[k]?=some ys->(vs.set z v (by omega))[k]?=some u->(aS e tr ys).p ε w S u (cS G z F1 k))/\(∀k k',k<(M.set z xs).length->k'<(M.set z xs).length->k≠k'->∀i,cS G z F1 k i->¬cS G z F1 k' i)/\(∀k,k<(M.set z xs).length->∀i,cS G z F1 k i->(k<M.length/\G k i)\/F1 i):=by
 have gn:cS G z F1 z=F1:=aq _ _ _;have gk:∀k,k≠z->cS G z F1 k=G k:=fun k hk=>az _ _ hk;refine⟨by simp[h1],fun k ys u hy hu=>?_,fun k k' hk hk' hne i hi=>?_,fun k hk i hi=>?_⟩
 ·by_cases hk:k=z
  ·subst hk;rw[gn];rw[List.getElem?_set_self hz]at hy;injection hy with hy;subst hy;have:(vs.set k v (by omega))[k]?=some v:=by simp[h1,hz]
   rw[this]at hu;injection hu with hu;subst hu;exact hx
  ·rw[gk k hk];rw[List.getElem?_set_ne (Ne.symm hk)]at hy;have hu:vs[k]?=some u:=by rw[←hu];simp[Array.getElem?_set,Ne.symm hk]
   exact h2 k ys u hy hu hk
 ·rw[List.length_set]at hk hk';by_cases a1:k=z
  ·subst a1;rw[gn]at hi;rw[gk k' (Ne.symm hne)];exact fun h=>hd k' hk' i h hi
  ·rw[gk k a1]at hi;by_cases a2:k'=z
   ·subst a2;rw[gn];exact hd k hk i hi
   ·rw[gk k' a2];exact h3 k k' hk hk' hne i hi
 ·rw[List.length_set]at hk;by_cases a1:k=z
  ·subst a1;rw[gn]at hi;exact .inr hi
  ·rw[gk k a1]at hi;exact .inl ⟨hk,hi⟩
theorem zU{t:TypeId}{x y:Operand}{r1 s2 m:Nat}{z:Int}{xs:List α}{hp:Hp}{l:List D}(hrow:∀ε w S A,hp.p ε w S (ε r) A->(∃vs:Array Value,ε s=.agg vs/\vs.size=M.length)->lj 1 te l ε w S (ε r) A)(hll:l.length=M.length)(hl:∀d,l.set z.toNat d=(dD s M.length).set z.toNat d)(hz:z.toNat<M.length)(h:ev T x=some (.ref r (z.toNat*m)))(hy:ev T y=some (.own r1))(hh:af H r=some hp)(hk:af H s=some (.store e tr M))(h1:af H r1=some (aS e tr xs))(hf:af H s2=none)
  (hne:r≠s/\r≠r1/\s≠r1)(hm:m=1)(ht:lay P t=some none)
  (hr:ai P ops c os (a_ T dst .any) ((r,.dF e te s2 [])::(s2,.store e tr (M.set z.toNat xs))::(s,.dead)::(r1,.dead)::H) sps T' H'):
  ai P ops c (⟨dst,.store t x y,ty,pos,aft,none⟩::os) T H (DO x (.ref r (z.toNat*m)) y (.own r1) [(r,hp),(s,.store e tr M),(r1,aS e tr xs)] [(r,.dF e te s2 []),(s2,.store e tr (M.set z.toNat xs)),(s,.dead),(r1,.dead)] [s2]::sps) T' H':=by
 subst hm;refine .cons (sp:=DO x (.ref r (z.toNat*1)) y (.own r1) [(r,hp),(s,.store e tr M),(r1,aS e tr xs)] [(r,.dF e te s2 []),(s2,.store e tr (M.set z.toNat xs)),(s,.dead),(r1,.dead)] [s2]) ?_ (aW.2 ⟨(aw h).1,(aw hy).1⟩) ⟨hh,hk,h1,trivial⟩ ⟨hf,trivial⟩ hr;intro hdst T0 H0 hi dg hnew a w ⟨ε,φ,hs⟩ Q K hK;rw[if_pos (aX rfl _)];obtain⟨hi1,hi2⟩:=aW.1 hi;have hx:a.eval x=.pointer (some ⟨jj (ε r),z.toNat*1,none⟩):=(hs.ev hi1 (aw h).2).1;obtain⟨hye,hyo⟩:=(hs.ev hi2 (aw hy).2).1;obtain⟨hr0,hs0,hr10,_⟩:=dg;obtain⟨vs,G,e1,e2,_⟩:=hs.h s _ hs0;have hro:=hrow ε w _ _ (hs.h r _ hr0) ⟨vs,e1,e2⟩;obtain⟨w',hst,hS⟩:=hs.CC (P:=P) (z:=z.toNat) (d:=D.lit (ε r1)) (v:=ε r1) hr0 hro (by rw[hll];exact hz) (hye▸hyo) rfl (fun q hq=>by
  rw[hl]at hq;obtain⟨d,hd,hq'⟩:=bE.1 hq;rcases List.mem_or_eq_of_mem_set hd with hd|rfl
  ·rw[sH (bE.2 ⟨d,hd,hq'⟩),hs0];simp
  ·cases hq')
 have hrun:(execOp a.eval ⟨dst,.store t x y,ty,pos,aft,none⟩).run P w=.ok .skip w':=by
  have hcl:(a.eval y).cells=#[ε r1]:=by
   have:(ε r1).oneCell'=true:=hye▸hyo;rw[hye];exact vJ this
  rw[Nat.mul_one]at hx;simp only[execOp,Instr.storeAt,hx,Instr.sureAddr,Sem.run_bind,Sem.run_pure,Result.andThen_ok,storeVar,(iN ht w).2,hcl];simp[hst]
 simp only[Oper.wp,hrun,Oper.upon];rw[hl]at hS;have u1:bm H0 [(r,.jM 1 te ((dD s M.length).set z.toNat (D.lit (ε r1))))] s=some (.store e tr M):=by rw[bj,az _ _ (Ne.symm hne.1)];exact hs0
 have u2:bm H0 [(r,.jM 1 te ((dD s M.length).set z.toNat (D.lit (ε r1))))] r1=some (aS e tr xs):=by rw[bj,az _ _ (Ne.symm hne.2.1)];exact hr10
 have u3:bm H0 [(r,.jM 1 te ((dD s M.length).set z.toNat (D.lit (ε r1))))] r=some (.jM 1 te ((dD s M.length).set z.toNat (D.lit (ε r1)))):=by rw[bj,aq]
 have u4:bm H0 [(r,.jM 1 te ((dD s M.length).set z.toNat (D.lit (ε r1))))] s2=none:=by
  rw[bj,az _ _ (fun e=>by rw[←e,hnew.1]at hr0;cases hr0)];exact hnew.1
 obtain⟨vs',G',f1,f2,f3,f4,f5⟩:=hS.h s _ u1;rw[e1]at f1;injection f1 with f1;subst f1;have hzv:z.toNat<vs.size:=by rw[f2];exact hz
 obtain⟨g1,g2,g3,g4⟩:=zw hz f2 (fun k xs v hx hv _=>f3 k xs v hx hv) f4 (hS.h r1 _ u2) (fun k hk i hi hi'=>hS.dj s r1 (by rw[u1];simp) (by rw[u2];simp) hne.2.2 i ((f5 i).2 ⟨k,hk,hi⟩) hi');have cK:lj 1 te (bQ (vs.set z.toNat (ε r1) hzv).toList++([]:List (List α)).map (al e)) ε w' (Am.ak c (bm H0 [(r,.jM 1 te ((dD s M.length).set z.toNat (D.lit (ε r1))))]) φ) (ε r) (φ r):=by
  rw[List.map_nil,List.append_nil,qz];rcases(show lj 1 te _ ε w' _ (ε r) (φ r)from hS.h r _ u3)with⟨h0,_,_⟩|⟨g,n,cap,cs,rest,b1,b2,b3,b4,b5,b6,b7,b8⟩
  ·have:=congrArg List.length h0;rw[List.length_set,bX,List.length_nil]at this;omega
  ·refine .inr ⟨g,n,cap,cs,rest,b1,b2,b3,b4,b5,b6,?_,?_⟩
   ·rw[←b7,List.length_set,List.length_set,bX,mP,Array.length_toList,f2]
   ·rw[List.length_set,bX]at b7;have hcs:cs=vs.toList.set z.toNat (ε r1):=by
     have hl1:=aF b8;rw[List.length_set,bX]at hl1;apply List.ext_getElem
     ·rw[hl1,List.length_set];simpa using f2.symm
     ·intro k k1 k2;have hkl:k<M.length:=by omega
      by_cases hkz:k=z.toNat
      ·subst hkz;rw[List.getElem_set_self];obtain⟨v,hv,hp⟩:=fz b8 (show((dD s M.length).set z.toNat (D.lit (ε r1)))[z.toNat]?=some (D.lit (ε r1))by rw[List.getElem?_set_self (by rw[bX];exact hz)]);rw[List.getElem?_eq_getElem k1]at hv;injection hv with hv;rw[hv];exact hp
      ·rw[List.getElem_set_ne (Ne.symm hkz)];obtain⟨v,hv,_,vs',e1',e2'⟩:=fz b8 (show((dD s M.length).set z.toNat (D.lit (ε r1)))[k]?=some (D.mr s k)by rw[List.getElem?_set_ne (Ne.symm hkz),qZ hkl]);rw[e1]at e1';injection e1' with e1';subst e1';rw[List.getElem?_eq_getElem k1]at hv;injection hv with hv;rw[hv];obtain⟨h3,h4⟩:=Array.getElem?_eq_some_iff.1 e2';simp[←h4]
    rw[hcs,←qz vs (ε r1) z.toNat hzv];exact jN.2 (by simp)
 have hG:=hS.wc (r:=r) (te:=te) (X:=[]) (s2:=s2) (e:=e) (tr:=tr) (M:=M.set z.toNat xs) [s,r1] (fun q hq=>by
   simp only[List.mem_cons,List.not_mem_nil,or_false]at hq;rcases hq with rfl|rfl
   ·rw[u1];simp
   ·rw[u2];simp) u4 (by rw[u3];simp) (by simp[hne.1,hne.2.1]) (vs.set z.toNat (ε r1) hzv) _ g1 g2 g3 (fun k hk i hi=>(g4 k hk i hi).elim (fun h=>⟨s,by simp,(f5 i).2 ⟨k,h.1,h.2⟩⟩) (fun h=>⟨r1,by simp,h⟩)) cK
 rw[ou (by simp[af])]at hG;obtain⟨ε2,φ2,hG⟩:=hG;exact hK _ _ ⟨ε2,φ2,hG.put (d:=.any) (cI hdst) trivial (fun _ h=>by cases h)⟩
theorem ai.ET{t:TypeId}{x y:Operand}{r1 s2 m:Nat}{z:Int}{xs:List α}(hz:z.toNat<M.length)(h:ev T x=some (.ref r (z.toNat*m)))(hy:ev T y=some (.own r1))(hh:af H r=some (.dF e te s []))(hk:af H s=some (.store e tr M))(h1:af H r1=some (aS e tr xs))(hf:af H s2=none)
  (hne:r≠s/\r≠r1/\s≠r1)(hm:m=1)(ht:lay P t=some none)
  (hr:ai P ops c os (a_ T dst .any) ((r,.dF e te s2 [])::(s2,.store e tr (M.set z.toNat xs))::(s,.dead)::(r1,.dead)::H) sps T' H'):
  ai P ops c (⟨dst,.store t x y,ty,pos,aft,none⟩::os) T H (DO x (.ref r (z.toNat*m)) y (.own r1) [(r,.dF e te s []),(s,.store e tr M),(r1,aS e tr xs)] [(r,.dF e te s2 []),(s2,.store e tr (M.set z.toNat xs)),(s,.dead),(r1,.dead)] [s2]::sps) T' H':=
 zU (l:=dD s M.length) (fun ε w S A hA ⟨vs,e1,e2⟩=>by
  obtain⟨vs',e1',h⟩:=hA;rw[e1]at e1';injection e1' with e1';subst e1';rw[List.map_nil,List.append_nil,e2]at h;exact h) (bX _ _) (fun _=>rfl) hz h hy hh hk h1 hf hne hm ht hr
end
end Go.Am
namespace Go.Am
open Go.RowKit
section
variable {P:Program} {os:List Oper} {c:Ctx} {T T':List (Nat×D)} {H H':List (Nat×Hp)} {sps:List Spec}
variable {ops:Array Oper} {dst:Option Nat} {ty:TypeId} {pos:String} {aft:Array Edge}
variable {α:Type} {e:an α} {te tr:TypeId} {r s:Nat} {M X:List (List α)}
theorem Ok.DA{x:Code}{Q:Exit->Act->World->Prop}{k:Nat}{xs:List α}(t:Nat)(ht:aG T t=some (.mr s k))(hk:af H s=some (.store e tr M))(hM:M[k]?=some xs)(hm:Nat.blt 0 e.n=true)
  (h:Ok P c ((t,al e xs)::T) ((s,.dead)::H) x Q):Ok P c T H x Q:=by
 intro a w ⟨ε,φ,hs⟩;have hm0:0<e.n:=by simpa using hm
 obtain⟨hv1,us,f0,fk⟩:=hs.t t _ ht;obtain⟨vs,G,e1,e2,e3,e4,e5⟩:=hs.h s _ hk;rw[e1]at f0;injection f0 with f0;subst f0;have hkl:=(List.getElem?_eq_some_iff.1 hM).1
 let φ':Nat->ca:=cS φ s noBlocks
 have f2:φ' s=noBlocks:=aq _ _ _;have f3:∀q,q≠s->φ' q=φ q:=fun q h1=>az _ _ h1;have hL:∀q,af [(s,Hp.dead)] q=if q=s then some .dead else none:=by
  intro q;simp only[af]
  cases h1:Nat.beq q s with
  |true=>rw[if_pos (Nat.eq_of_beq_eq_true h1)]
  |false=>rw[if_neg (fun e=>by subst e;simp at h1)]
 have cls:∀q,af [(s,Hp.dead)] q≠none->q=s:=by
  intro q h;rw[hL]at h;by_cases h1:q=s
  ·exact h1
  ·simp[h1]at h
 have hR:=hs.ts (L:=[(s,.dead)]) (ε':=ε) (φ':=φ') (fun _ _=>rfl) (fun q hq=>by
   rw[hL]at hq;by_cases h1:q=s
   ·simp[h1]at hq
   ·exact f3 q h1) (fun q k hq hk=>by rw[cls q hq,f2]at hk;exact hk.elim) (fun q q' hq hq' _ k hk=>by rw[cls q hq,f2]at hk;exact hk.elim)
   (fun q y hq=>by
    have h1:q=s:=cls q (by rw[hq];simp);subst h1;rw[hL,if_pos rfl]at hq;injection hq with hq;subst hq;exact f2)
   (fun q y hq q' hq'=>by
    have h1:q=s:=cls q (by rw[hq];simp);subst h1;rw[hL,if_pos rfl]at hq;injection hq with hq;subst hq;cases hq')
 have hSr:∀k,φ s k->Am.ak c (bm (af H) [(s,.dead)]) φ' k:=by
  intro k hk';have hq0:af H s≠none:=by rw[hk];simp
  have hlo:=hs.lo s hq0 k hk';refine⟨hlo.1.elim (fun h=>.inr (.inl h)) (fun h=>.inr (.inr h)),fun q' hq' hf=>?_⟩;by_cases h1:q'=s
  ·rw[h1,f2]at hf;exact hf
  ·rw[f3 q' h1]at hf;have h0:af H q'≠none:=by
    intro h0;apply hq';simp only[bm];rw[hL,if_neg h1];exact h0
   exact hs.dj s q' hq0 h0 (Ne.symm h1) k hk' hf
 refine h a w ⟨ε,φ',pX (by
  have:=hR.1;rw[bg]at this;exact this) ?_ rfl⟩
 have hreg:∀k,Am.ak c (af H) φ k->Am.ak c (af ([(s,Hp.dead)]++H)) φ' k:=by rw[←bg];exact hR.2
 rw[bg]at hSr;exact ks (e3 k xs _ hM fk) hm0 hreg (fun i hi=>hSr i ((e5 i).2 ⟨k,hkl,hi⟩))
end
end Go.Am
namespace Go.Am
open Go.RowKit
set_option maxRecDepth 100000
def pT(M:List (List Rat))(k lo:Nat):Option (List Rat):=M[k]?.bind fun xs=>b_ (lo<=xs.length/\xs.length<=1000000000) (some (xs.drop lo))
theorem AT{M:List (List Rat)}{k lo:Nat}{r:List Rat}(h:pT M k lo=some r):aU PP 204 [(400,Hp.store an.rat 28 M)] [D.mv 400 k lo 3] [(400,Hp.store an.rat 28 M),(7,aS an.rat 28 r)] (D.own 7):=by
 obtain⟨xs,hM,h⟩:=bind_some h;obtain⟨hl,h⟩:=ax h;injection h with h;subst h;refine .of Go.Proofs.Tryz.func204 rfl (by kernel_rfl) rfl rfl rfl rfl rfl rfl (fun A w0 L b=>?_);show Ok PP _ [(0,D.mv 400 k lo 3),(1000400,D.pinned 400 (b 400))] [(400,Hp.store an.rat 28 M)] _ _;refine .ak (.au rfl<|.nil) rfl (.sq ?_);refine .ak (.mv rfl<|.EO cY rfl rfl rfl hM rfl<|.nil) rfl ?_;refine .cQ rfl (fun h=>?_) (.skip (Ok.on ?_))
 ·subst h;refine .ak (.au rfl<|.nil) rfl ?_;refine .jK an.rat 2 7 28 rfl rfl ?_;refine .aN (fun _ _ hb=>hb) rfl (.cons (.tmp rfl) .nil) (.refl _) (.of rfl) ⟨⟨_,rfl,.refl _⟩,⟨_,by rw[List.drop_nil];rfl,.refl _⟩,trivial⟩
 ·refine .ak (.D4 an.rat ct rfl rfl<|.mv rfl<|.E7 (xs:=xs) (lo:=lo) (s:=400) rfl (.refl _) rfl (.refl _) rfl rfl hM hl.1 ct rfl (by simp only[List.length_nil];omega) (by simp only[List.length_nil];omega) rfl<|.au rfl<|.nil) rfl ?_;refine .aN (fun _ _ hb=>hb) rfl (.cons (.tmp rfl) .nil) (.refl _) (.of rfl) (.of rfl)
end Go.Am
namespace Go.Am
open Go.RowKit
set_option maxRecDepth 100000
noncomputable section
def eX(v6:List Rat)(a8:Rat)(v9:List Rat)(v13:Int)(v14:List Rat):Option (St (Int×(List Rat)) (List Rat)):=(if(decide (v13<(v9.length:Int)))=true then(ix v14 v13).bind fun v20=>(ix v6 v13).bind fun v22=>(fR a8 v22).bind fun v24=>(gG v20 v24).bind fun v26=>some (St.next ((IntKind.i64.wrap (v13+1)),(v14.set v13.toNat v26)))else some (St.done v14))
def ju(a2:Int)(a5:Int)(a8:Rat)(a1:List (List Rat)):Option (List Rat):=(ix a1 a2).bind fun v3=>(ix a1 a5).bind fun v6=>(pT a1 a2.toNat 0).bind fun v9=>((Loop (fun(s:Int×(List Rat))=>eX v6 a8 v9 s.1 s.2) (0,v9)).bind fun v28=>some (v28)).bind fun v29=>some v29
theorem se{a2:Int}{a5:Int}{a8:Rat}{a1:List (List Rat)}{r30:List Rat}(h:ju a2 a5 a8 a1=some r30):aU PP 208 [(400,Hp.store an.rat 28 a1)] [D.mr 400 a2.toNat,D.mr 400 a5.toNat,qD a8] [(400,Hp.store an.rat 28 a1),(10,aS an.rat 28 r30)] (D.own 10):=by
 unfold ju at h;refine .of Go.Proofs.Tryz.func208 rfl (by kernel_rfl) rfl rfl rfl rfl rfl rfl (fun A w0 L b=>?_);show Ok PP _ [(0,D.mr 400 a2.toNat),(1,D.mr 400 a5.toNat),(2,qD a8),(1000400,D.pinned 400 (b 400))] [(400,Hp.store an.rat 28 a1)] _ _;obtain⟨v3,e4,h⟩:=bind_some h;obtain⟨v6,e7,h⟩:=bind_some h;refine .ak (.jJ rfl rfl<|.au rfl<|.nil) rfl ?_;obtain⟨v9,e10,h⟩:=bind_some h;refine .ak (.mv rfl<|.ag (Hi:=[(400,Hp.store an.rat 28 a1)]) (Ho:=[(400,Hp.store an.rat 28 a1),(10,aS an.rat 28 v9)]) (d:=D.own 10) (ds:=[D.mr 400 a2.toNat]) (.Bm (AT e10) (fun r=>match r with|400=>400|7=>10|r=>r) (fun r=>match r with|400=>400|10=>7|r=>r) rfl (.r rfl rfl trivial) rfl ⟨.F_ (s:=400),trivial⟩ (.r rfl rfl<|.r rfl rfl<|trivial) rfl (.own (r:=10)) rfl rfl rfl rfl rfl) ⟨rfl,trivial⟩ ⟨rfl,trivial⟩ ⟨rfl,trivial⟩<|.au rfl<|.nil) rfl ?_;obtain⟨v29,hp12,h⟩:=bind_some h;refine .cX (fun i=>v29=i) (fun(i:(List Rat))=>[(7,D.own 10),(1000400,D.pinned 400 (b 400))]) (fun(i:(List Rat))=>[(10,aS an.rat 28 i),(400,Hp.store an.rat 28 a1)]) ?_ ?_
 ·have ho1:=h;have h:=hp12;refine .sl 7 rfl rfl rfl ?_;refine .ak (.mv rfl<|.DQ rfl cY<|.mv rfl<|.nil) rfl ?_;obtain⟨o15,hl16,h⟩:=bind_some h;have ho2:=h;refine .block (.cD (fun(s:Int×(List Rat))=>[(1,D.mr 400 a5.toNat),(5,D.ref 5 0),(7,D.own 10),(12,D.int .i64 (v9.length:Int)),(13,D.int .i64 s.1),(1000400,D.pinned 400 (b 400))]) (fun(s:Int×(List Rat))=>[(5,Hp.box 28 (qC (a8))),(10,aS an.rat 28 s.2),(400,Hp.store an.rat 28 a1)]) hl16 (.k rfl<|.k rfl<|.p rfl .sl<|.k rfl<|.k rfl<|.k rfl<|trivial) (.of rfl) rfl rfl ?_);rintro⟨v13,v14⟩ st17 hb18;have h:eX v6 a8 v9 v13 v14=some st17:=hb18;unfold eX at h
  try dsimp only
  refine .ak (.cm rfl rfl rfl<|.nil) rfl ?_;refine .sq ?_;by_cases c19:(decide (v13<(v9.length:Int)))=true
  ·replace h:=ae c19 h;refine .cL rfl c19 ?_;refine .skip (Ok.on ?_);refine .sq ?_;refine .block ?_;refine .ak (.mv rfl<|.au rfl<|.nil) rfl ?_;refine .sl 7 rfl rfl rfl ?_;obtain⟨v20,e21,h⟩:=bind_some h;obtain⟨v22,e23,h⟩:=bind_some h;obtain⟨v24,e25,h⟩:=bind_some h;obtain⟨v26,e27,h⟩:=bind_some h;refine .dc cq (.mv rfl<|.mv rfl<|.mv rfl<|.mv rfl<|.l4 rfl rfl bf (aj e21).1 (by have:=je e21;simpa using this)<|.Ff rfl rfl aa rfl (aj e21).2 rfl<|.cd (qC (a8)) rfl rfl aa rfl rfl<|.mv rfl<|.mv rfl<|.tY rfl rfl rfl (aj e7).2 bf (aj e23).1 (je e23) rfl<|.m1 rfl rfl (aj e7).2 (aj e23).2 aa rfl rfl<|.ag (lO e25) ⟨rfl,rfl,trivial⟩ trivial trivial<|.ag (kj e27) ⟨rfl,rfl,trivial⟩ trivial trivial<|.l4 rfl rfl bf (aj e21).1 (by have:=je e21;simpa using this)<|.ES v26 rfl rfl rfl aa rfl rfl rfl (de e21)<|.nil) rfl (by kernel_rfl) (Ok.on ?_);refine .region (.ar rfl rfl rfl<|.mv rfl<|.nil) rfl (fun _ _ hs=>⟨((IntKind.i64.wrap (v13+1)),(v14.set v13.toNat v26)),(sj h),hs.sub (.k rfl<|.k rfl<|.p rfl .sl<|.k rfl<|.k rfl<|.k rfl<|trivial) (.of rfl) rfl rfl⟩)
  ·replace h:=ab c19 h;refine .c_ rfl c19 ?_;refine .exit (fun a w hs=>⟨_,(sj h),fun e=>by subst e;have h:=ho2;exact bA (⟨v14,(sj h),hs.sub (.of rfl) (.of rfl) rfl rfl⟩)⟩)
 ·rintro _ rfl
  try dsimp only
  refine .sl 7 rfl rfl rfl ?_;refine .ak (.mv rfl<|.au rfl<|.nil) rfl ?_;refine .vt 6 (.own 10) rfl .sl ?_;cases h;refine .aN (fun _ _ hb=>hb) rfl (.t1 (.tmp rfl)) (.refl _) (.of rfl) (.of rfl)
def bp(a1:List (List Rat))(v10:Int)(v18:Int):Option (St Int (Ex Unit (Bool×(List Rat)×Int))):=(if(decide (v18<v10))=true then(ix a1 v10).bind fun v24=>(ix v24 v18).bind fun v26=>(ix a1 v18).bind fun v28=>(ix v28 v10).bind fun v30=>(j1 v26 v30).bind fun v32=>(if(v32 !=0)=true then some (St.done (Ex.ret (false,[],(2:Int))))else some (St.next (IntKind.i64.wrap (v18+1))))else some (St.done (Ex.cC ())))
def bq(a1:List (List Rat))(v10:Int):Option (St Int (Ex Unit (Bool×(List Rat)×Int))):=(if(decide (v10<(a1.length:Int)))=true then((Loop (fun(s:Int)=>bp a1 v10 s) 0).bind fun o19=>(match o19 with|Ex.cC ()=>some (Ex.cC ())|Ex.ret (r35,r36,r37)=>some (Ex.ret (r35,r36,r37)))).bind fun o16=>(match o16 with|Ex.cC ()=>some (St.next (IntKind.i64.wrap (v10+1)))|Ex.ret (r38,r39,r40)=>some (St.done (Ex.ret (r38,r39,r40))))else some (St.done (Ex.cC ())))
def cN(v3:Int)(v49:Int)(v50:List (List Rat))(v51:List (List Rat)):Option (St (Int×(List (List Rat))×(List (List Rat))) ((List (List Rat))×(List (List Rat)))):=(if(decide (v49<((([]:List (List Rat)).length+(List.replicate v3.toNat ([]:List Rat)).length):Int)))=true then b_ ((0:Int)<=v3/\(56:Int)*v3<=281474976710656/\(v3:Int)<=9223372036854775807) (b_ ((v49:Int)=(v51.length:Int)) ((ix v50 0).bind fun v59=>(ix (v51++[(List.replicate v3.toNat (0:Rat))]) v49).bind fun v61=>(gD 1).bind fun v63=>(ix v61 v49).bind fun v65=>some (St.next ((IntKind.i64.wrap (v49+1)),v50.tail,((v51++[(List.replicate v3.toNat (0:Rat))]).set v49.toNat (v61.set v49.toNat v63))))))else some (St.done (v50,v51)))
def aY(v3:Int)(v74:Int)(v75:List (List Rat))(v95:Int)(v96:List (List Rat)):Option (St (Int×(List (List Rat))) (Ex (List (List Rat)) (Bool×(List Rat)×Int))):=(if(decide (v95<v3))=true then((ix v75 v95).bind fun v104=>(ix v104 v74).bind fun v106=>(eM v106).bind fun v108=>(if(v108==0)=true then some (Ex.cC v96)else(ix v75 v74).bind fun v111=>(ix v111 v74).bind fun v113=>(eM v113).bind fun v115=>(if(v115==0)=true then(ix v75 v95).bind fun v118=>(ix v118 v95).bind fun v120=>(gD 1).bind fun v122=>(gG v120 v122).bind fun v124=>(ix v75 v95).bind fun v126=>(ix v126 v74).bind fun v128=>(ix v75 v95).bind fun v130=>(ix v130 v74).bind fun v132=>(gG v128 v132).bind fun v134=>(gp v124 v134).bind fun v136=>(pR v136).bind fun v138=>(ix v96 v95).bind fun v140=>(ix v96 v74).bind fun v142=>(ju v95 v74 v138 v96).bind fun v144=>some (Ex.ret (false,v144,(0:Int)))else(ix v75 v95).bind fun v146=>(ix v146 v74).bind fun v148=>(ix v75 v74).bind fun v150=>(ix v150 v74).bind fun v152=>(gp v148 v152).bind fun v154=>(pR v154).bind fun v156=>(ix v96 v95).bind fun v158=>(ix v96 v74).bind fun v160=>(ju v95 v74 v156 v96).bind fun v162=>(ix v96 v95).bind fun v164=>some (Ex.cC (v96.set v95.toNat v162))))).bind fun o102=>(match o102 with|Ex.cC v166=>some (St.next ((IntKind.i64.wrap (v95+1)),v166))|Ex.ret (r167,r168,r169)=>some (St.done (Ex.ret (r167,r168,r169))))else some (St.done (Ex.cC v96)))
def fw(v3:Int)(v74:Int)(v175:Int)(v199:Rat)(v201:Int)(v202:List (List Rat)):Option (St (Int×(List (List Rat))) (List (List Rat))):=(if(decide (v201<v3))=true then(ix v202 v175).bind fun v208=>(ix v202 v175).bind fun v210=>(ix v210 v201).bind fun v212=>(ix v202 v74).bind fun v214=>(ix v214 v201).bind fun v216=>(fR v199 v216).bind fun v218=>(jQ v212 v218).bind fun v220=>(ix v208 v201).bind fun v222=>some (St.next ((IntKind.i64.wrap (v201+1)),(v202.set v175.toNat (v208.set v201.toNat v220))))else some (St.done v202))
def bN(v3:Int)(v74:Int)(v175:Int)(v176:List (List Rat)):Option (St (Int×(List (List Rat))) (List (List Rat))):=(if(decide (v175<v3))=true then(ix v176 v74).bind fun v182=>(ix v182 v74).bind fun v184=>(eM v184).bind fun v186=>(if(v186 !=0)=true then((ix v176 v175).bind fun v191=>(ix v191 v74).bind fun v193=>(ix v176 v74).bind fun v195=>(ix v195 v74).bind fun v197=>(gp v193 v197).bind fun v199=>(Loop (fun(s:Int×(List (List Rat)))=>fw v3 v74 v175 v199 s.1 s.2) ((IntKind.i64.wrap (v74+1)),v176)).bind fun v224=>some (v224)).bind fun v225=>some (St.next ((IntKind.i64.wrap (v175+1)),v225))else some (St.done v176))else some (St.done v176))
def aM(v3:Int)(v74:Int)(v75:List (List Rat))(v76:List (List Rat)):Option (St (Int×(List (List Rat))×(List (List Rat))) (Ex Unit (Bool×(List Rat)×Int))):=(if(decide (v74<v3))=true then((ix v75 v74).bind fun v84=>(ix v84 v74).bind fun v86=>(eM v86).bind fun v88=>(if(decide (v88<0))=true then(ix v76 v74).bind fun v91=>some (Ex.ret (false,v91,(0:Int)))else((Loop (fun(s:Int×(List (List Rat)))=>aY v3 v74 v75 s.1 s.2) ((IntKind.i64.wrap (v74+1)),v76)).bind fun o97=>(match o97 with|Ex.cC v170=>some (Ex.cC v170)|Ex.ret (r171,r172,r173)=>some (Ex.ret (r171,r172,r173)))).bind fun o93=>(match o93 with|Ex.cC v174=>(Loop (fun(s:Int×(List (List Rat)))=>bN v3 v74 s.1 s.2) ((IntKind.i64.wrap (v74+1)),v75)).bind fun v226=>some (Ex.cC (v226,v174))|Ex.ret (r227,r228,r229)=>some (Ex.ret (r227,r228,r229))))).bind fun o82=>(match o82 with|Ex.cC (v230,v231)=>some (St.next ((IntKind.i64.wrap (v74+1)),v230,v231))|Ex.ret (r232,r233,r234)=>some (St.done (Ex.ret (r232,r233,r234))))else some (St.done (Ex.cC ())))
def cy(a1:List (List Rat)):Option (Bool×(List Rat)×Int):=(eC a1).bind fun(v2,v3,v4)=>(if(!v4)=true then some (false,[],(2:Int))else(if(v2 !=v3)=true then some (false,[],(2:Int))else((Loop (fun(s:Int)=>bq a1 s) 0).bind fun o11=>(match o11 with|Ex.cC ()=>some (Ex.cC ())|Ex.ret (r41,r42,r43)=>some (Ex.ret (r41,r42,r43)))).bind fun o8=>(match o8 with|Ex.cC ()=>(gL a1).bind fun v44=>b_ ((0:Int)<=v3/\(24:Int)*v3<=281474976710656/\(v3:Int)<=9223372036854775807) (((Loop (fun(s:Int×(List (List Rat))×(List (List Rat)))=>cN v3 s.1 s.2.1 s.2.2) (0,(List.replicate v3.toNat ([]:List Rat)),([]:List (List Rat)))).bind fun(v67,v68)=>some ((v67,v68))).bind fun(v69,v70)=>b_ (v69=[]) (((Loop (fun(s:Int×(List (List Rat))×(List (List Rat)))=>aM v3 s.1 s.2.1 s.2.2) (0,v44,v70)).bind fun o77=>(match o77 with|Ex.cC ()=>some (Ex.cC ())|Ex.ret (r235,r236,r237)=>some (Ex.ret (r235,r236,r237)))).bind fun o72=>(match o72 with|Ex.cC ()=>some (true,[],(0:Int))|Ex.ret (r238,r239,r240)=>some (r238,r239,r240))))|Ex.ret (r241,r242,r243)=>some (r241,r242,r243))))
theorem lU{a1:List (List Rat)}{r244:Bool}{r245:List Rat}{r246:Int}(h:cy a1=some (r244,r245,r246)):aU PP 129 [] [al (an.slice an.rat) a1] [] (D.fU [D.bool r244,al an.rat r245,D.int .i64 r246]):=by
 unfold cy at h;refine .of Go.Proofs.Tryz.func129 rfl (by kernel_rfl) rfl rfl rfl rfl rfl rfl (fun A w0 L b=>?_);show Ok PP _ [(0,al (an.slice an.rat) a1)] [] _ _;refine .ak (.au rfl<|.au rfl<|.au rfl<|.nil) rfl ?_;obtain⟨⟨v2,v3,v4⟩,e5,h⟩:=bind_some h;refine .ak (.mv rfl<|.ag (ir e5) ⟨rfl,trivial⟩ trivial trivial<|.mv rfl<|.ext rfl rfl<|.ext rfl rfl<|.ext rfl rfl<|.au rfl<|.au rfl<|.au rfl<|.nil) rfl ?_;refine .sq ?_;by_cases c6:(!v4)=true
 ·replace h:=ae c6 h;refine .ak (.mv rfl<|.not rfl<|.mv rfl<|.gk c6<|.gk c6<|.gk c6<|.bw rfl c6 rfl<|.nil) rfl ?_;refine .cL rfl rfl ?_;refine .ak (.au rfl<|.au rfl<|.au rfl<|.nil) rfl ?_;cases h;refine .aN (fun _ _ hb=>hb) rfl (.cons (.tmp rfl) (.cons (.tmp rfl) (.t1 (.tmp rfl)))) (.fU ⟨.refl _,.jK _,.refl _,trivial⟩) trivial trivial
 ·replace h:=ab c6 h;refine .ak (.mv rfl<|.not rfl<|.mv rfl<|.gz c6<|.mv rfl<|.gz c6<|.mv rfl<|.gz c6<|.cm rfl rfl rfl<|.br rfl c6 rfl<|.nil) rfl ?_;by_cases c7:(v2 !=v3)=true
  ·replace h:=ae c7 h;refine .cL rfl c7 ?_;refine .ak (.au rfl<|.au rfl<|.au rfl<|.nil) rfl ?_;cases h;refine .aN (fun _ _ hb=>hb) rfl (.cons (.tmp rfl) (.cons (.tmp rfl) (.t1 (.tmp rfl)))) (.fU ⟨.refl _,.jK _,.refl _,trivial⟩) trivial trivial
  ·replace h:=ab c7 h;refine .c_ rfl c7 ?_;refine .skip (Ok.on ?_);obtain⟨o8,hp9,h⟩:=bind_some h;refine .cX (fun i=>o8=Ex.cC i) (fun(i:Unit)=>[(0,al (an.slice an.rat) a1),(6,D.int .i64 v3)]) (fun(i:Unit)=>[]) ?_ ?_
   ·have ho1:=h;have h:=hp9;refine .ak (.mv rfl<|.ig rfl bM<|.mv rfl<|.nil) rfl ?_;obtain⟨o11,hl12,h⟩:=bind_some h;have ho2:=h;refine .block (.cD (fun(s:Int)=>[(0,al (an.slice an.rat) a1),(6,D.int .i64 v3),(34,D.int .i64 (a1.length:Int)),(35,D.int .i64 s)]) (fun(s:Int)=>[]) hl12 (.of rfl) trivial rfl rfl ?_);rintro v10 st13 hb14;have h:bq a1 v10=some st13:=hb14;unfold bq at h
    try dsimp only
    refine .ak (.cm rfl rfl rfl<|.nil) rfl ?_;refine .sq ?_;by_cases c15:(decide (v10<(a1.length:Int)))=true
    ·replace h:=ae c15 h;refine .cL rfl c15 ?_;refine .skip (Ok.on ?_);obtain⟨o16,hp17,h⟩:=bind_some h;refine .cX (fun i=>o16=Ex.cC i) (fun(i:Unit)=>[(0,al (an.slice an.rat) a1),(6,D.int .i64 v3),(34,D.int .i64 (a1.length:Int)),(35,D.int .i64 v10)]) (fun(i:Unit)=>[]) ?_ ?_
     ·have ho3:=h;have h:=hp17;refine .block ?_;refine .ak (.mv rfl<|.au rfl<|.nil) rfl ?_;refine .ak (.mv rfl<|.mv rfl<|.nil) rfl ?_;obtain⟨o19,hl20,h⟩:=bind_some h;have ho4:=h;refine .block (.cD (fun(s:Int)=>[(0,al (an.slice an.rat) a1),(6,D.int .i64 v3),(8,D.int .i64 v10),(34,D.int .i64 (a1.length:Int)),(35,D.int .i64 v10),(38,D.int .i64 v10),(39,D.int .i64 s)]) (fun(s:Int)=>[]) hl20 (.of rfl) trivial rfl rfl ?_);rintro v18 st21 hb22;have h:bp a1 v10 v18=some st21:=hb22;unfold bp at h
      try dsimp only
      refine .ak (.cm rfl rfl rfl<|.nil) rfl ?_;refine .sq ?_;by_cases c23:(decide (v18<v10))=true
      ·replace h:=ae c23 h;refine .cL rfl c23 ?_;refine .skip (Ok.on ?_);refine .sq ?_;refine .block ?_;refine .ak (.mv rfl<|.au rfl<|.nil) rfl ?_;obtain⟨v24,e25,h⟩:=bind_some h;obtain⟨v26,e27,h⟩:=bind_some h;obtain⟨v28,e29,h⟩:=bind_some h;obtain⟨v30,e31,h⟩:=bind_some h;obtain⟨v32,e33,h⟩:=bind_some h;refine .dt cq (.mv rfl<|.mv rfl<|.m8 rfl rfl aK (aj e25).1 (aj e25).2<|.i6 rfl aP<|.mv rfl<|.m8 rfl rfl bf (aj e27).1 (aj e27).2<|.CB (l:=qC (v26)) rfl aa rfl<|.mv rfl<|.mv rfl<|.m8 rfl rfl aK (aj e29).1 (aj e29).2<|.i6 rfl aP<|.mv rfl<|.m8 rfl rfl bf (aj e31).1 (aj e31).2<|.CB (l:=qC (v30)) rfl aa rfl<|.ag (r_ e33) ⟨rfl,rfl,trivial⟩ trivial trivial<|.cm rfl rfl rfl<|.nil) rfl (by kernel_rfl) ?_;by_cases c34:(v32 !=0)=true
       ·replace h:=ae c34 h;refine .cL rfl c34 ?_;refine .ak (.au rfl<|.au rfl<|.au rfl<|.nil) rfl ?_;refine .aN (Hi:=[]) (Ho:=[]) (b:=b) (fn:=Go.Proofs.Tryz.f129) (d:=D.fU [D.bool false,al an.rat ([]),D.int .i64 2]) (fun _ _ hb=>by exact⟨_,(sj h),fun e=>by subst e;have h:=ho4;cases h;have h:=ho3;exact⟨_,(sj h),fun e=>by subst e;have h:=ho2;cases h;have h:=ho1;cases h;exact hb⟩⟩) rfl (.cons (.tmp rfl) (.cons (.tmp rfl) (.t1 (.tmp rfl)))) (.fU ⟨.refl _,.jK _,.refl _,trivial⟩) trivial trivial
       ·replace h:=ab c34 h;refine .c_ rfl c34 ?_;refine .skip (Ok.on ?_);refine .region (.ar rfl rfl rfl<|.mv rfl<|.nil) rfl (fun _ _ hs=>⟨(IntKind.i64.wrap (v18+1)),(sj h),hs.sub (.of rfl) trivial rfl rfl⟩)
      ·replace h:=ab c23 h;refine .c_ rfl c23 ?_;refine .exit (fun a w hs=>⟨_,(sj h),fun e=>by subst e;have h:=ho4;exact bA (⟨(),(sj h),hs.sub (.of rfl) trivial rfl rfl⟩)⟩)
     ·rintro⟨⟩ rfl
      try dsimp only
      refine .region (.ar rfl rfl rfl<|.mv rfl<|.nil) rfl (fun _ _ hs=>⟨(IntKind.i64.wrap (v10+1)),(sj h),hs.sub (.of rfl) trivial rfl rfl⟩)
    ·replace h:=ab c15 h;refine .c_ rfl c15 ?_;refine .exit (fun a w hs=>⟨_,(sj h),fun e=>by subst e;have h:=ho2;exact bA (⟨(),(sj h),hs.sub (.of rfl) trivial rfl rfl⟩)⟩)
   ·rintro⟨⟩ rfl
    try dsimp only
    obtain⟨v44,e45,h⟩:=bind_some h;refine .ak (.mv rfl<|.ag (Hi:=[]) (Ho:=[(61,Hp.dF an.rat 68 3000061 ([])),(3000061,Hp.store an.rat 28 v44)]) (d:=D.own 61) (ds:=[al (an.slice an.rat) a1]) (.Bm (tE e45) (fun r=>match r with|6=>61|4000006=>3000061|r=>r) (fun r=>match r with|61=>6|3000061=>4000006|r=>r) rfl trivial rfl ⟨.refl rfl,trivial⟩ (.p rfl (.dF (s:=3000061))<|.r rfl rfl<|trivial) rfl (.own (r:=61)) rfl rfl rfl rfl rfl) ⟨rfl,trivial⟩ trivial ⟨rfl,rfl,trivial⟩<|.au rfl<|.nil) rfl ?_;obtain⟨k46,h⟩:=ax h;refine .ak (.mv rfl<|.EC (e:=(an.slice an.rat)) ([]) rfl rfl dH rfl ⟨.jK _,trivial⟩ k46.1 k46.2.1 k46.2.2 rfl<|.au rfl<|.nil) rfl ?_;obtain⟨o47,hp48,h⟩:=bind_some h;refine .cX (fun i=>o47=i) (fun(i:(List (List Rat))×(List (List Rat)))=>[(6,D.int .i64 v3),(10,D.own 61),(11,D.own 63)]) (fun(i:(List (List Rat))×(List (List Rat)))=>[(61,Hp.dF an.rat 68 3000061 ([])),(3000061,Hp.store an.rat 28 v44),(63,Hp.dF an.rat 68 4000063 i.1),(4000063,Hp.store an.rat 28 i.2)]) ?_ ?_
    ·have ho1:=h;have h:=hp48;refine .FA 63 4000063 28 rfl rfl ?_;refine .Cx 11 rfl rfl rfl ?_;refine .ak (.mv rfl<|.DQ rfl bM<|.mv rfl<|.nil) rfl ?_;obtain⟨o52,hl53,h⟩:=bind_some h;have ho2:=h;refine .block (.cD (fun(s:Int×(List (List Rat))×(List (List Rat)))=>[(6,D.int .i64 v3),(10,D.own 61),(11,D.own 63),(65,D.int .i64 ((([]:List (List Rat)).length+(List.replicate v3.toNat ([]:List Rat)).length):Int)),(66,D.int .i64 s.1)]) (fun(s:Int×(List (List Rat))×(List (List Rat)))=>[(61,Hp.dF an.rat 68 3000061 ([])),(3000061,Hp.store an.rat 28 v44),(63,Hp.dF an.rat 68 4000063 s.2.1),(4000063,Hp.store an.rat 28 s.2.2)]) hl53 (.k rfl<|.k rfl<|.p rfl .sl<|.k rfl<|.k rfl<|trivial) (.of rfl) rfl rfl ?_);rintro⟨v49,v50,v51⟩ st54 hb55;have h:cN v3 v49 v50 v51=some st54:=hb55;unfold cN at h
     try dsimp only
     refine .ak (.cm rfl rfl rfl<|.nil) rfl ?_;refine .sq ?_;by_cases c56:(decide (v49<((([]:List (List Rat)).length+(List.replicate v3.toNat ([]:List Rat)).length):Int)))=true
     ·replace h:=ae c56 h;refine .cL rfl c56 ?_;refine .skip (Ok.on ?_);refine .sq ?_;refine .block ?_;refine .ak (.mv rfl<|.au rfl<|.nil) rfl ?_;refine .Cx 11 rfl rfl rfl ?_;obtain⟨k57,h⟩:=ax h;obtain⟨k58,h⟩:=ax h;obtain⟨v59,e60,h⟩:=bind_some h;refine .ak (.mv rfl<|.mv rfl<|.mv rfl<|.EC (e:=an.rat) 0 rfl rfl ct rfl ⟨lT,l7,l5,trivial⟩ k57.1 k57.2.1 k57.2.2 rfl<|.l4 rfl rfl aK (by omega) (by have:=de e60;omega)<|.D9 (s2:=3000063) k58 (aj e60).2 rfl rfl rfl rfl rfl rfl ⟨by decide,by decide,by decide⟩ rfl aP<|.nil) rfl ?_;obtain⟨v61,e62,h⟩:=bind_some h;obtain⟨v63,e64,h⟩:=bind_some h;obtain⟨v65,e66,h⟩:=bind_some h;refine .dc cq (.mv rfl<|.mv rfl<|.l4 rfl rfl aK (aj e62).1 (by have:=de e60;omega)<|.rn (de e62) rfl rfl rfl rfl aP<|.mv rfl<|.ag (jT e64) ⟨rfl,trivial⟩ trivial trivial<|.tY rfl rfl rfl (aj e62).2 bf (aj e66).1 (je e66) rfl<|.CI v63 rfl rfl rfl (aj e62).2 (de e66) aa rfl rfl rfl<|.nil) rfl (by kernel_rfl) (Ok.on ?_);refine .region (.ar rfl rfl rfl<|.mv rfl<|.nil) rfl (fun _ _ hs=>⟨((IntKind.i64.wrap (v49+1)),v50.tail,((v51++[(List.replicate v3.toNat (0:Rat))]).set v49.toNat (v61.set v49.toNat v63))),(sj h),hs.oo (fun r=>match r with|4000063=>3000063|r=>r) (.r rfl rfl<|.p rfl (.own (r:=61))<|.p rfl (.D_ (r:=63))<|.r rfl rfl<|.r rfl rfl<|trivial) (.p rfl (.dF (s:=3000061))<|.r rfl rfl<|.p rfl (.dF (s:=4000063))<|.r rfl rfl<|trivial) rfl rfl rfl⟩)
     ·replace h:=ab c56 h;refine .c_ rfl c56 ?_;refine .exit (fun a w hs=>⟨_,(sj h),fun e=>by subst e;have h:=ho2;exact bA (⟨(v50,v51),(sj h),hs.sub (.of rfl) (.of rfl) rfl rfl⟩)⟩)
    ·rintro⟨v69,v70⟩ rfl
     try dsimp only
     obtain⟨k71,h⟩:=ax h;subst k71;obtain⟨o72,hp73,h⟩:=bind_some h;refine .cX (fun i=>o72=Ex.cC i) (fun(i:Unit)=>[]) (fun(i:Unit)=>[]) ?_ ?_
     ·have ho1:=h;have h:=hp73;refine .ak (.mv rfl<|.mv rfl<|.nil) rfl ?_;obtain⟨o77,hl78,h⟩:=bind_some h;have ho2:=h;refine .block (.cD (fun(s:Int×(List (List Rat))×(List (List Rat)))=>[(6,D.int .i64 v3),(10,D.own 61),(11,D.own 63),(82,D.int .i64 v3),(83,D.int .i64 s.1)]) (fun(s:Int×(List (List Rat))×(List (List Rat)))=>[(61,Hp.dF an.rat 68 3000061 ([])),(3000061,Hp.store an.rat 28 s.2.1),(63,Hp.dF an.rat 68 4000063 ([])),(4000063,Hp.store an.rat 28 s.2.2)]) hl78 (.of rfl) (.of rfl) rfl rfl ?_);rintro⟨v74,v75,v76⟩ st79 hb80;have h:aM v3 v74 v75 v76=some st79:=hb80;unfold aM at h
      try dsimp only
      refine .ak (.cm rfl rfl rfl<|.nil) rfl ?_;refine .sq ?_;by_cases c81:(decide (v74<v3))=true
      ·replace h:=ae c81 h;refine .cL rfl c81 ?_;refine .skip (Ok.on ?_);obtain⟨o82,hp83,h⟩:=bind_some h;refine .cX (fun i=>o82=Ex.cC i) (fun(i:(List (List Rat))×(List (List Rat)))=>[(6,D.int .i64 v3),(10,D.own 61),(11,D.own 63),(82,D.int .i64 v3),(83,D.int .i64 v74)]) (fun(i:(List (List Rat))×(List (List Rat)))=>[(61,Hp.dF an.rat 68 3000061 ([])),(3000061,Hp.store an.rat 28 i.1),(63,Hp.dF an.rat 68 4000063 ([])),(4000063,Hp.store an.rat 28 i.2)]) ?_ ?_
       ·have ho3:=h;have h:=hp83;refine .block ?_;refine .ak (.mv rfl<|.au rfl<|.nil) rfl ?_;refine .sq ?_;refine .rC 10 rfl rfl rfl ?_;obtain⟨v84,e85,h⟩:=bind_some h;obtain⟨v86,e87,h⟩:=bind_some h;obtain⟨v88,e89,h⟩:=bind_some h;refine .ak (.mv rfl<|.mv rfl<|.l4 rfl rfl aK (aj e85).1 (by have:=je e85;simpa using this)<|.rn (de e85) rfl rfl rfl rfl aP<|.mv rfl<|.tY rfl rfl rfl (aj e85).2 bf (aj e87).1 (je e87) rfl<|.m1 rfl rfl (aj e85).2 (aj e87).2 aa rfl rfl<|.ag (oB e89) ⟨rfl,trivial⟩ trivial trivial<|.cm rfl rfl rfl<|.nil) rfl ?_;by_cases c90:(decide (v88<0))=true
        ·replace h:=ae c90 h;refine .cL rfl c90 ?_;refine .rC 11 rfl rfl rfl ?_;obtain⟨v91,e92,h⟩:=bind_some h;refine .dt cq (.mv rfl<|.mv rfl<|.l4 rfl rfl aK (aj e92).1 (by have:=je e92;simpa using this)<|.rn (de e92) rfl rfl rfl rfl aP<|.au rfl<|.au rfl<|.au rfl<|.nil) rfl (by kernel_rfl) ?_;refine .DA 3 rfl rfl (aj e92).2 rfl ?_;cases h;have h:=ho3;refine .aN (Hi:=[]) (Ho:=[]) (b:=b) (fn:=Go.Proofs.Tryz.f129) (d:=D.fU [D.bool false,al an.rat v91,D.int .i64 0]) (fun _ _ hb=>by exact⟨_,(sj h),fun e=>by subst e;have h:=ho2;cases h;have h:=ho1;cases h;exact hb⟩) rfl (.cons (.tmp rfl) (.cons (.tmp rfl) (.t1 (.tmp rfl)))) (.refl _) trivial trivial
        ·replace h:=ab c90 h;refine .c_ rfl c90 ?_;refine .skip (Ok.on ?_);obtain⟨o93,hp94,h⟩:=bind_some h;refine .cX (fun i=>o93=Ex.cC i) (fun(i:(List (List Rat)))=>[(6,D.int .i64 v3),(10,D.own 61),(11,D.own 63),(13,D.int .i64 v74),(82,D.int .i64 v3),(83,D.int .i64 v74)]) (fun(i:(List (List Rat)))=>[(61,Hp.dF an.rat 68 3000061 ([])),(3000061,Hp.store an.rat 28 v75),(63,Hp.dF an.rat 68 4000063 ([])),(4000063,Hp.store an.rat 28 i)]) ?_ ?_
         ·have ho4:=h;have h:=hp94;refine .ak (.mv rfl<|.ar rfl rfl rfl<|.au rfl<|.nil) rfl ?_;obtain⟨o97,hl98,h⟩:=bind_some h;have ho5:=h;refine .block (.cD (fun(s:Int×(List (List Rat)))=>[(6,D.int .i64 v3),(10,D.own 61),(11,D.own 63),(13,D.int .i64 v74),(14,D.int .i64 s.1),(82,D.int .i64 v3),(83,D.int .i64 v74)]) (fun(s:Int×(List (List Rat)))=>[(61,Hp.dF an.rat 68 3000061 ([])),(3000061,Hp.store an.rat 28 v75),(63,Hp.dF an.rat 68 4000063 ([])),(4000063,Hp.store an.rat 28 s.2)]) hl98 (.k rfl<|.p rfl .sl<|.k rfl<|.k rfl<|.k rfl<|.k rfl<|.k rfl<|trivial) (.of rfl) rfl rfl ?_);rintro⟨v95,v96⟩ st99 hb100;have h:aY v3 v74 v75 v95 v96=some st99:=hb100;unfold aY at h
          try dsimp only
          refine .sq ?_;refine .ak (.mv rfl<|.mv rfl<|.cm rfl rfl rfl<|.nil) rfl ?_;by_cases c101:(decide (v95<v3))=true
          ·replace h:=ae c101 h;refine .cL rfl c101 ?_;refine .skip (Ok.on ?_);obtain⟨o102,hp103,h⟩:=bind_some h;refine .cX (fun i=>o102=Ex.cC i) (fun(i:(List (List Rat)))=>[(6,D.int .i64 v3),(10,D.own 61),(11,D.own 63),(13,D.int .i64 v74),(14,D.int .i64 v95),(82,D.int .i64 v3),(83,D.int .i64 v74)]) (fun(i:(List (List Rat)))=>[(61,Hp.dF an.rat 68 3000061 ([])),(3000061,Hp.store an.rat 28 v75),(63,Hp.dF an.rat 68 4000063 ([])),(4000063,Hp.store an.rat 28 i)]) ?_ ?_
           ·have ho6:=h;have h:=hp103;refine .block ?_;refine .sq ?_;refine .rC 10 rfl rfl rfl ?_;obtain⟨v104,e105,h⟩:=bind_some h;obtain⟨v106,e107,h⟩:=bind_some h;obtain⟨v108,e109,h⟩:=bind_some h;refine .ak (.mv rfl<|.mv rfl<|.l4 rfl rfl aK (aj e105).1 (by have:=je e105;simpa using this)<|.rn (de e105) rfl rfl rfl rfl aP<|.mv rfl<|.tY rfl rfl rfl (aj e105).2 bf (aj e107).1 (je e107) rfl<|.m1 rfl rfl (aj e105).2 (aj e107).2 aa rfl rfl<|.ag (oB e109) ⟨rfl,trivial⟩ trivial trivial<|.cm rfl rfl rfl<|.nil) rfl ?_;by_cases c110:(v108==0)=true
            ·replace h:=ae c110 h;refine .cL rfl c110 ?_;refine .exit (fun _ _ hs=>⟨v96,(sj h),hs.sub (.k rfl<|.p rfl .sl<|.k rfl<|.k rfl<|.k rfl<|.k rfl<|.k rfl<|trivial) (.of rfl) rfl rfl⟩)
            ·replace h:=ab c110 h;refine .c_ rfl c110 ?_;refine .skip (Ok.on ?_);refine .sq ?_;obtain⟨v111,e112,h⟩:=bind_some h;obtain⟨v113,e114,h⟩:=bind_some h;obtain⟨v115,e116,h⟩:=bind_some h;refine .ak (.mv rfl<|.mv rfl<|.l4 rfl rfl aK (aj e112).1 (by have:=je e112;simpa using this)<|.rn (de e112) rfl rfl rfl rfl aP<|.mv rfl<|.tY rfl rfl rfl (aj e112).2 bf (aj e114).1 (je e114) rfl<|.m1 rfl rfl (aj e112).2 (aj e114).2 aa rfl rfl<|.ag (oB e116) ⟨rfl,trivial⟩ trivial trivial<|.cm rfl rfl rfl<|.nil) rfl ?_;by_cases c117:(v115==0)=true
             ·replace h:=ae c117 h;refine .cL rfl c117 ?_;obtain⟨v118,e119,h⟩:=bind_some h;obtain⟨v120,e121,h⟩:=bind_some h;obtain⟨v122,e123,h⟩:=bind_some h;obtain⟨v124,e125,h⟩:=bind_some h;obtain⟨v126,e127,h⟩:=bind_some h;obtain⟨v128,e129,h⟩:=bind_some h;obtain⟨v130,e131,h⟩:=bind_some h;obtain⟨v132,e133,h⟩:=bind_some h;obtain⟨v134,e135,h⟩:=bind_some h;obtain⟨v136,e137,h⟩:=bind_some h;obtain⟨v138,e139,h⟩:=bind_some h;refine .dt cq (.mv rfl<|.mv rfl<|.l4 rfl rfl aK (aj e119).1 (by have:=je e119;simpa using this)<|.rn (de e119) rfl rfl rfl rfl aP<|.mv rfl<|.tY rfl rfl rfl (aj e119).2 bf (aj e121).1 (je e121) rfl<|.m1 rfl rfl (aj e119).2 (aj e121).2 aa rfl rfl<|.ag (jT e123) ⟨rfl,trivial⟩ trivial trivial<|.ag (kj e125) ⟨rfl,rfl,trivial⟩ trivial trivial<|.mv rfl<|.mv rfl<|.l4 rfl rfl aK (aj e127).1 (by have:=je e127;simpa using this)<|.rn (de e127) rfl rfl rfl rfl aP<|.mv rfl<|.tY rfl rfl rfl (aj e127).2 bf (aj e129).1 (je e129) rfl<|.m1 rfl rfl (aj e127).2 (aj e129).2 aa rfl rfl<|.mv rfl<|.mv rfl<|.l4 rfl rfl aK (aj e131).1 (by have:=je e131;simpa using this)<|.rn (de e131) rfl rfl rfl rfl aP<|.mv rfl<|.tY rfl rfl rfl (aj e131).2 bf (aj e133).1 (je e133) rfl<|.m1 rfl rfl (aj e131).2 (aj e133).2 aa rfl rfl<|.ag (kj e135) ⟨rfl,rfl,trivial⟩ trivial trivial<|.ag (kA e137) ⟨rfl,rfl,trivial⟩ trivial trivial<|.ag (yW e139) ⟨rfl,trivial⟩ trivial trivial<|.fV (qC (0)) aB ⟨lT,l7,l5,trivial⟩ rfl<|.cw (qC (v138)) rfl rfl rfl aa rfl rfl rfl<|.nil) rfl (by kernel_rfl) ?_;refine .rC 11 rfl rfl rfl ?_;obtain⟨v140,e141,h⟩:=bind_some h;obtain⟨v142,e143,h⟩:=bind_some h;obtain⟨v144,e145,h⟩:=bind_some h;refine .dt cq (.mv rfl<|.mv rfl<|.l4 rfl rfl aK (aj e141).1 (by have:=je e141;simpa using this)<|.rn (de e141) rfl rfl rfl rfl aP<|.mv rfl<|.mv rfl<|.l4 rfl rfl aK (aj e143).1 (by have:=je e143;simpa using this)<|.rn (de e143) rfl rfl rfl rfl aP<|.cd (qC (v138)) rfl rfl aa rfl rfl<|.ag (Hi:=[(4000063,Hp.store an.rat 28 v96)]) (Ho:=[(4000063,Hp.store an.rat 28 v96),(159,aS an.rat 28 v144)]) (d:=D.own 159) (ds:=[D.mr 4000063 v95.toNat,D.mr 4000063 v74.toNat,qD v138]) (.Bm (se e145) (fun r=>match r with|400=>4000063|10=>159|r=>r) (fun r=>match r with|4000063=>400|159=>10|r=>r) rfl (.r rfl rfl trivial) rfl ⟨.mr (s:=400),.mr (s:=400),.refl rfl,trivial⟩ (.r rfl rfl<|.r rfl rfl<|trivial) rfl (.own (r:=159)) rfl rfl rfl rfl rfl) ⟨rfl,rfl,rfl,trivial⟩ ⟨rfl,trivial⟩ ⟨rfl,trivial⟩<|.au rfl<|.au rfl<|.au rfl<|.nil) rfl (by kernel_rfl) ?_;refine .kV 3 rfl rfl rfl ?_;cases h;have h:=ho6;refine .aN (Hi:=[]) (Ho:=[]) (b:=b) (fn:=Go.Proofs.Tryz.f129) (d:=D.fU [D.bool false,al an.rat v144,D.int .i64 0]) (fun _ _ hb=>by exact⟨_,(sj h),fun e=>by subst e;have h:=ho5;cases h;have h:=ho4;cases h;have h:=ho3;exact⟨_,(sj h),fun e=>by subst e;have h:=ho2;cases h;have h:=ho1;cases h;exact hb⟩⟩) rfl (.cons (.tmp rfl) (.cons (.tmp rfl) (.t1 (.tmp rfl)))) (.refl _) trivial trivial
             ·replace h:=ab c117 h;refine .c_ rfl c117 ?_;refine .skip (Ok.on ?_);obtain⟨v146,e147,h⟩:=bind_some h;obtain⟨v148,e149,h⟩:=bind_some h;obtain⟨v150,e151,h⟩:=bind_some h;obtain⟨v152,e153,h⟩:=bind_some h;obtain⟨v154,e155,h⟩:=bind_some h;obtain⟨v156,e157,h⟩:=bind_some h;refine .dt cq (.mv rfl<|.mv rfl<|.l4 rfl rfl aK (aj e147).1 (by have:=je e147;simpa using this)<|.rn (de e147) rfl rfl rfl rfl aP<|.mv rfl<|.tY rfl rfl rfl (aj e147).2 bf (aj e149).1 (je e149) rfl<|.m1 rfl rfl (aj e147).2 (aj e149).2 aa rfl rfl<|.mv rfl<|.mv rfl<|.l4 rfl rfl aK (aj e151).1 (by have:=je e151;simpa using this)<|.rn (de e151) rfl rfl rfl rfl aP<|.mv rfl<|.tY rfl rfl rfl (aj e151).2 bf (aj e153).1 (je e153) rfl<|.m1 rfl rfl (aj e151).2 (aj e153).2 aa rfl rfl<|.ag (kA e155) ⟨rfl,rfl,trivial⟩ trivial trivial<|.ag (yW e157) ⟨rfl,trivial⟩ trivial trivial<|.fV (qC (0)) aB ⟨lT,l7,l5,trivial⟩ rfl<|.cw (qC (v156)) rfl rfl rfl aa rfl rfl rfl<|.nil) rfl (by kernel_rfl) ?_;refine .rC 11 rfl rfl rfl ?_;obtain⟨v158,e159,h⟩:=bind_some h;obtain⟨v160,e161,h⟩:=bind_some h;obtain⟨v162,e163,h⟩:=bind_some h;obtain⟨v164,e165,h⟩:=bind_some h;refine .dc cq (.mv rfl<|.mv rfl<|.mv rfl<|.mv rfl<|.l4 rfl rfl aK (aj e159).1 (by have:=je e159;simpa using this)<|.rn (de e159) rfl rfl rfl rfl aP<|.mv rfl<|.mv rfl<|.l4 rfl rfl aK (aj e161).1 (by have:=je e161;simpa using this)<|.rn (de e161) rfl rfl rfl rfl aP<|.cd (qC (v156)) rfl rfl aa rfl rfl<|.ag (Hi:=[(4000063,Hp.store an.rat 28 v96)]) (Ho:=[(4000063,Hp.store an.rat 28 v96),(187,aS an.rat 28 v162)]) (d:=D.own 187) (ds:=[D.mr 4000063 v95.toNat,D.mr 4000063 v74.toNat,qD v156]) (.Bm (se e163) (fun r=>match r with|400=>4000063|10=>187|r=>r) (fun r=>match r with|4000063=>400|187=>10|r=>r) rfl (.r rfl rfl trivial) rfl ⟨.mr (s:=400),.mr (s:=400),.refl rfl,trivial⟩ (.r rfl rfl<|.r rfl rfl<|trivial) rfl (.own (r:=187)) rfl rfl rfl rfl rfl) ⟨rfl,rfl,rfl,trivial⟩ ⟨rfl,trivial⟩ ⟨rfl,trivial⟩<|.l4 rfl rfl aK (aj e165).1 (by have:=je e165;simpa using this)<|.ET (M:=v96) (s2:=3000063) (de e165) rfl rfl rfl rfl rfl rfl ⟨by decide,by decide,by decide⟩ rfl aP<|.nil) rfl (by kernel_rfl) (fun _ _ hs=>⟨(v96.set v95.toNat v162),(sj h),hs.oo (fun r=>match r with|4000063=>3000063|r=>r) (.r rfl rfl<|.p rfl (.D_ (r:=61))<|.p rfl (.D_ (r:=63))<|.r rfl rfl<|.r rfl rfl<|.r rfl rfl<|.r rfl rfl<|trivial) (.p rfl (.dF (s:=3000061))<|.r rfl rfl<|.p rfl (.dF (s:=4000063))<|.r rfl rfl<|trivial) rfl rfl rfl⟩)
           ·rintro v166 rfl
            try dsimp only
            refine .region (.mv rfl<|.ar rfl rfl rfl<|.au rfl<|.nil) rfl (fun _ _ hs=>⟨((IntKind.i64.wrap (v95+1)),v166),(sj h),hs.sub (.of rfl) (.of rfl) rfl rfl⟩)
          ·replace h:=ab c101 h;refine .c_ rfl c101 ?_;refine .exit (fun a w hs=>⟨_,(sj h),fun e=>by subst e;have h:=ho5;exact bA (⟨v96,(sj h),hs.sub (.of rfl) (.of rfl) rfl rfl⟩)⟩)
         ·rintro v174 rfl
          try dsimp only
          refine .ak (.mv rfl<|.ar rfl rfl rfl<|.au rfl<|.nil) rfl ?_;obtain⟨o177,hl178,h⟩:=bind_some h;have ho4:=h;refine .block (.cD (fun(s:Int×(List (List Rat)))=>[(6,D.int .i64 v3),(10,D.own 61),(11,D.own 63),(13,D.int .i64 v74),(17,D.int .i64 s.1),(82,D.int .i64 v3),(83,D.int .i64 v74)]) (fun(s:Int×(List (List Rat)))=>[(61,Hp.dF an.rat 68 3000061 ([])),(3000061,Hp.store an.rat 28 s.2),(63,Hp.dF an.rat 68 4000063 ([])),(4000063,Hp.store an.rat 28 v174)]) hl178 (.of rfl) (.of rfl) rfl rfl ?_);rintro⟨v175,v176⟩ st179 hb180;have h:bN v3 v74 v175 v176=some st179:=hb180;unfold bN at h
          try dsimp only
          refine .sq ?_;refine .rC 10 rfl rfl rfl ?_;by_cases c181:(decide (v175<v3))=true
          ·replace h:=ae c181 h;obtain⟨v182,e183,h⟩:=bind_some h;obtain⟨v184,e185,h⟩:=bind_some h;obtain⟨v186,e187,h⟩:=bind_some h;refine .ak (.mv rfl<|.mv rfl<|.cm rfl rfl rfl<|.mv rfl<|.gy c181<|.mv rfl<|.gy c181<|.mv rfl<|.gy c181<|.l4 rfl rfl aK (aj e183).1 (by have:=je e183;simpa using this)<|.gy c181<|.rn (de e183) rfl rfl rfl rfl aP<|.gy c181<|.mv rfl<|.gy c181<|.tY rfl rfl rfl (aj e183).2 bf (aj e185).1 (je e185) rfl<|.gy c181<|.m1 rfl rfl (aj e183).2 (aj e185).2 aa rfl rfl<|.gy c181<|.ag (oB e187) ⟨rfl,trivial⟩ trivial trivial<|.gy c181<|.cm rfl rfl rfl<|.bw rfl c181 rfl<|.nil) rfl ?_;by_cases c188:(v186 !=0)=true
           ·replace h:=ae c188 h;refine .cL rfl c188 ?_;refine .skip (Ok.on ?_);obtain⟨v225,hp190,h⟩:=bind_some h;refine .cX (fun i=>v225=i) (fun(i:(List (List Rat)))=>[(6,D.int .i64 v3),(10,D.own 61),(11,D.own 63),(13,D.int .i64 v74),(17,D.int .i64 v175),(82,D.int .i64 v3),(83,D.int .i64 v74)]) (fun(i:(List (List Rat)))=>[(61,Hp.dF an.rat 68 3000061 ([])),(3000061,Hp.store an.rat 28 i),(63,Hp.dF an.rat 68 4000063 ([])),(4000063,Hp.store an.rat 28 v174)]) ?_ ?_
            ·have ho5:=h;have h:=hp190;refine .block ?_;obtain⟨v191,e192,h⟩:=bind_some h;obtain⟨v193,e194,h⟩:=bind_some h;obtain⟨v195,e196,h⟩:=bind_some h;obtain⟨v197,e198,h⟩:=bind_some h;obtain⟨v199,e200,h⟩:=bind_some h;refine .dt cq (.mv rfl<|.mv rfl<|.l4 rfl rfl aK (aj e192).1 (by have:=je e192;simpa using this)<|.rn (de e192) rfl rfl rfl rfl aP<|.mv rfl<|.tY rfl rfl rfl (aj e192).2 bf (aj e194).1 (je e194) rfl<|.m1 rfl rfl (aj e192).2 (aj e194).2 aa rfl rfl<|.mv rfl<|.mv rfl<|.l4 rfl rfl aK (aj e196).1 (by have:=je e196;simpa using this)<|.rn (de e196) rfl rfl rfl rfl aP<|.mv rfl<|.tY rfl rfl rfl (aj e196).2 bf (aj e198).1 (je e198) rfl<|.m1 rfl rfl (aj e196).2 (aj e198).2 aa rfl rfl<|.ag (kA e200) ⟨rfl,rfl,trivial⟩ trivial trivial<|.fV (qC (0)) aB ⟨lT,l7,l5,trivial⟩ rfl<|.cw (qC (v199)) rfl rfl rfl aa rfl rfl rfl<|.nil) rfl (by kernel_rfl) ?_;refine .ak (.mv rfl<|.ar rfl rfl rfl<|.au rfl<|.nil) rfl ?_;obtain⟨o203,hl204,h⟩:=bind_some h;have ho6:=h;refine .block (.cD (fun(s:Int×(List (List Rat)))=>[(6,D.int .i64 v3),(10,D.own 61),(11,D.own 63),(13,D.int .i64 v74),(17,D.int .i64 v175),(18,D.ref 18 0),(19,D.int .i64 s.1),(82,D.int .i64 v3),(83,D.int .i64 v74)]) (fun(s:Int×(List (List Rat)))=>[(61,Hp.dF an.rat 68 3000061 ([])),(3000061,Hp.store an.rat 28 s.2),(63,Hp.dF an.rat 68 4000063 ([])),(4000063,Hp.store an.rat 28 v174),(18,Hp.box 28 (qC (v199)))]) hl204 (.k rfl<|.p rfl .sl<|.k rfl<|.k rfl<|.k rfl<|.k rfl<|.k rfl<|.k rfl<|.k rfl<|trivial) (.of rfl) rfl rfl ?_);rintro⟨v201,v202⟩ st205 hb206;have h:fw v3 v74 v175 v199 v201 v202=some st205:=hb206;unfold fw at h
             try dsimp only
             refine .sq ?_;refine .ak (.mv rfl<|.mv rfl<|.cm rfl rfl rfl<|.nil) rfl ?_;by_cases c207:(decide (v201<v3))=true
             ·replace h:=ae c207 h;refine .cL rfl c207 ?_;refine .skip (Ok.on ?_);refine .sq ?_;refine .block ?_;refine .rC 10 rfl rfl rfl ?_;obtain⟨v208,e209,h⟩:=bind_some h;obtain⟨v210,e211,h⟩:=bind_some h;obtain⟨v212,e213,h⟩:=bind_some h;obtain⟨v214,e215,h⟩:=bind_some h;obtain⟨v216,e217,h⟩:=bind_some h;obtain⟨v218,e219,h⟩:=bind_some h;obtain⟨v220,e221,h⟩:=bind_some h;obtain⟨v222,e223,h⟩:=bind_some h;refine .dc cq (.mv rfl<|.mv rfl<|.l4 rfl rfl aK (aj e209).1 (by have:=je e209;simpa using this)<|.rn (de e209) rfl rfl rfl rfl aP<|.mv rfl<|.mv rfl<|.mv rfl<|.l4 rfl rfl aK (aj e211).1 (by have:=je e211;simpa using this)<|.rn (de e211) rfl rfl rfl rfl aP<|.mv rfl<|.tY rfl rfl rfl (aj e211).2 bf (aj e213).1 (je e213) rfl<|.m1 rfl rfl (aj e211).2 (aj e213).2 aa rfl rfl<|.cd (qC (v199)) rfl rfl aa rfl rfl<|.mv rfl<|.mv rfl<|.l4 rfl rfl aK (aj e215).1 (by have:=je e215;simpa using this)<|.rn (de e215) rfl rfl rfl rfl aP<|.mv rfl<|.tY rfl rfl rfl (aj e215).2 bf (aj e217).1 (je e217) rfl<|.m1 rfl rfl (aj e215).2 (aj e217).2 aa rfl rfl<|.ag (lO e219) ⟨rfl,rfl,trivial⟩ trivial trivial<|.ag (qL e221) ⟨rfl,rfl,trivial⟩ trivial trivial<|.tY rfl rfl rfl (aj e209).2 bf (aj e223).1 (je e223) rfl<|.CI v220 rfl rfl rfl (aj e209).2 (de e223) aa rfl rfl rfl<|.nil) rfl (by kernel_rfl) (Ok.on ?_);refine .region (.mv rfl<|.ar rfl rfl rfl<|.au rfl<|.nil) rfl (fun _ _ hs=>⟨((IntKind.i64.wrap (v201+1)),(v202.set v175.toNat (v208.set v201.toNat v220))),(sj h),hs.sub (.k rfl<|.p rfl .sl<|.k rfl<|.k rfl<|.k rfl<|.k rfl<|.k rfl<|.k rfl<|.k rfl<|trivial) (.of rfl) rfl rfl⟩)
             ·replace h:=ab c207 h;refine .c_ rfl c207 ?_;refine .exit (fun a w hs=>⟨_,(sj h),fun e=>by subst e;have h:=ho6;exact bA (⟨v202,(sj h),hs.sub (.of rfl) (.of rfl) rfl rfl⟩)⟩)
            ·rintro _ rfl
             try dsimp only
             refine .region (.mv rfl<|.ar rfl rfl rfl<|.au rfl<|.nil) rfl (fun _ _ hs=>⟨((IntKind.i64.wrap (v175+1)),v225),(sj h),hs.sub (.of rfl) (.of rfl) rfl rfl⟩)
           ·replace h:=ab c188 h;refine .c_ rfl c188 ?_;refine .exit (fun a w hs=>⟨_,(sj h),fun e=>by subst e;have h:=ho4;exact bA (⟨(v176,v174),(sj h),hs.sub (.k rfl<|.p rfl .sl<|.k rfl<|.k rfl<|.k rfl<|trivial) (.of rfl) rfl rfl⟩)⟩)
          ·replace h:=ab c181 h;refine .ak (.mv rfl<|.mv rfl<|.cm rfl rfl rfl<|.mv rfl<|.gm c181<|.gm c181<|.gm c181<|.gm c181<|.gm c181<|.gm c181<|.gm c181<|.gm c181<|.gm c181<|.br rfl c181 rfl<|.nil) rfl ?_;refine .c_ rfl (by decide) ?_;refine .exit (fun a w hs=>⟨_,(sj h),fun e=>by subst e;have h:=ho4;exact bA (⟨(v176,v174),(sj h),hs.sub (.k rfl<|.p rfl .sl<|.k rfl<|.k rfl<|.k rfl<|trivial) (.of rfl) rfl rfl⟩)⟩)
       ·rintro⟨v230,v231⟩ rfl
        try dsimp only
        refine .region (.ar rfl rfl rfl<|.mv rfl<|.nil) rfl (fun _ _ hs=>⟨((IntKind.i64.wrap (v74+1)),v230,v231),(sj h),hs.sub (.of rfl) (.of rfl) rfl rfl⟩)
      ·replace h:=ab c81 h;refine .c_ rfl c81 ?_;refine .exit (fun a w hs=>⟨_,(sj h),fun e=>by subst e;have h:=ho2;exact bA (⟨(),(sj h),hs.sub trivial trivial rfl rfl⟩)⟩)
     ·rintro⟨⟩ rfl
      try dsimp only
      refine .ak (.au rfl<|.au rfl<|.au rfl<|.nil) rfl ?_;cases h;refine .aN (fun _ _ hb=>hb) rfl (.cons (.tmp rfl) (.cons (.tmp rfl) (.t1 (.tmp rfl)))) (.fU ⟨.refl _,.jK _,.refl _,trivial⟩) trivial trivial
end
end Go.Am
namespace Go.Am
variable {n:Nat} {f:Nat->Nat->Rat} {B:Nat}
end Go.Am
namespace Go.Am
variable {n:Nat} {f b S A:Nat->Nat->Rat} {B:Nat}
def Qf(n:Nat)(A:Nat->Nat->Rat)(u v:Nat->Rat):Rat:=bZ (List.range n) fun p=>bZ (List.range n) fun q=>u p*A p q*v q
theorem wU{u v w:Nat->Rat}{c:Rat}:Qf n A (fun p=>u p+c*v p) w=Qf n A u w+c*Qf n A v w:=by
 unfold Qf;rw[←eN,←ib];refine bk fun p _=>?_;rw[←eN,←ib];exact bk fun q _=>by grind
theorem nV{u v w:Nat->Rat}{c:Rat}:Qf n A w (fun p=>u p+c*v p)=Qf n A w u+c*Qf n A w v:=by
 unfold Qf;rw[←eN,←ib];refine bk fun p _=>?_;rw[←eN,←ib];exact bk fun q _=>by grind
theorem Ee{x:Nat->Rat}:Qf n A x x=qf (List.range n) A x:=bk fun p _=>bk fun q _=>by grind
def fQ(i j:Nat):Rat:=if i=j then 1 else 0
theorem wE{i j:Nat}(hi:i<n)(hj:j<n):Qf n A (fQ i) (fQ j)=A i j:=by
 have u0:∀{i p:Nat},p≠i->fQ i p=0:=fun h=>by unfold fQ;rw[if_neg (Ne.symm h)]
 have u1:∀{i:Nat},fQ i i=1:=by intro i;unfold fQ;rw[if_pos rfl]
 unfold Qf;rw[xd List.nodup_range (List.mem_range.2 hi) (fun p _ hp=>mb fun q _=>by rw[u0 hp];grind),xd List.nodup_range (List.mem_range.2 hj) (fun q _ hq=>by rw[u0 hq];grind),u1,u1]
 grind
def nb(b f:Nat->Nat->Rat)(k i j:Nat):Rat:=if k<i then b i j+-(f i k/f k k)*b k j else b i j
theorem E_{k:Nat}(hs:symm S)(h0:S k k≠0)(hf:∀i,k<=i->i<n->f i k=S i k)(hk:k<n)(hQ:∀i j,k<=i->i<n->k<=j->j<n->Qf n A (b i) (b j)=S i j){i j:Nat}(hi:k<i)(dg:i<n)(hj:k<j)(hjn:j<n):Qf n A (nb b f k i) (nb b f k j)=mO S k i j:=by
 have e:∀i,k<i->nb b f k i=fun p=>b i p+-(f i k/f k k)*b k p:=fun i hi=>by funext p;unfold nb;rw[if_pos hi]
 rw[e i hi,e j hj,wU,nV,nV,hQ _ _ (by omega) dg (by omega) hjn,hQ _ _ (by omega) dg (by omega) hk,hQ _ _ (by omega) hk (by omega) hjn,hQ _ _ (by omega) hk (by omega) hk,hf i (by omega) dg,hf j (by omega) hjn,hf k (by omega) hk];unfold mO;rw[hs k j];have h1:S j k/S k k*S k k=S j k:=Rat.div_mul_cancel h0;have h2:S i k/S k k*S k k=S i k:=Rat.div_mul_cancel h0;generalize S i k/S k k=x at*;generalize S j k/S k k=y at*;rw[←h1,←h2]
 grind
def ze(n:Nat)(f:Nat->Nat->Rat):Prop:=∀i j,j<i->i<n->f i j=f j i
theorem xC{a b:Rat}:(fY a b !=0)=true↔a≠b:=by
 rw[bne_iff_ne];unfold fY
 constructor
 ·intro h e;subst e;grind
 ·intro h e;by_cases h1:a<b
  ·rw[if_pos h1]at e;omega
  ·rw[if_neg h1]at e;by_cases h2:b<a
   ·rw[if_pos h2]at e;omega
   ·grind
theorem wI{i:Nat}(hi:i<n)(hn:n<=6)(hf:rF f B)(hB:B<=100000000):∀d k,i-k=d->k<=i->
  (Loop (fun(s:Int)=>bp (aR n n f) (i:Int) s) (k:Int)=some (Ex.cC ())/\Loop (fun(s:Int)=>bJ (aR n n f) (i:Int) s) (k:Int)=some (Ex.cC ())/\∀j,k<=j->j<i->f i j=f j i)\/
  (Loop (fun(s:Int)=>bp (aR n n f) (i:Int) s) (k:Int)=some (Ex.ret (false,[],2))/\Loop (fun(s:Int)=>bJ (aR n n f) (i:Int) s) (k:Int)=some (Ex.ret false)/\∃j,j<i/\f i j≠f j i)
 |0,k,hd,hk=>by
  have:k=i:=by omega
  subst this;refine .inl ⟨cU (body:=fun(s:Int)=>bp (aR n n f) (k:Int) s) ?_,cU (body:=fun(s:Int)=>bJ (aR n n f) (k:Int) s) ?_,fun j h1 h2=>by omega⟩
  ·unfold bp;rw[if_neg (by simp)]
  ·unfold bJ;rw[if_neg (by simp)]
 |d+1,k,hd,hk=>by
  have hlt:k<i:=by omega
  have q1:cJ (f i k):=Nat.le_trans (hf i k) (by omega);have q2:cJ (f k i):=Nat.le_trans (hf k i) (by omega);by_cases he:f i k=f k i
  ·have b1:bp (aR n n f) (i:Int) (k:Int)=some (.next ((k+1:Nat):Int)):=by
    unfold bp;rw[if_pos (decide_eq_true (by omega)),bR hi,Option.bind_some,cA (by omega),Option.bind_some,bR (by omega),Option.bind_some,cA hi,Option.bind_some,nB q1 q2,Option.bind_some,if_neg (by rw[xC];exact fun h=>h he),eE hlt (by omega)]
   have b2:bJ (aR n n f) (i:Int) (k:Int)=some (.next ((k+1:Nat):Int)):=by
    unfold bJ;rw[if_pos (decide_eq_true (by omega)),bR hi,Option.bind_some,cA (by omega),Option.bind_some,bR (by omega),Option.bind_some,cA hi,Option.bind_some,nB q1 q2,Option.bind_some,if_neg (by rw[xC];exact fun h=>h he),eE hlt (by omega)]
   rw[gr (body:=fun(s:Int)=>bp (aR n n f) (i:Int) s) b1,gr (body:=fun(s:Int)=>bJ (aR n n f) (i:Int) s) b2];rcases wI hi hn hf hB d (k+1) (by omega) (by omega)with⟨h1,h2,h3⟩|h
   ·refine .inl ⟨h1,h2,fun j hj hji=>?_⟩;by_cases e:j=k
    ·subst e;exact he
    ·exact h3 j (by omega) hji
   ·exact .inr h
  ·refine .inr ⟨cU (body:=fun(s:Int)=>bp (aR n n f) (i:Int) s) ?_,cU (body:=fun(s:Int)=>bJ (aR n n f) (i:Int) s) ?_,k,hlt,he⟩
   ·unfold bp;rw[if_pos (decide_eq_true (by omega)),bR hi,Option.bind_some,cA (by omega),Option.bind_some,bR (by omega),Option.bind_some,cA hi,Option.bind_some,nB q1 q2,Option.bind_some,if_pos (xC.2 he)]
   ·unfold bJ;rw[if_pos (decide_eq_true (by omega)),bR hi,Option.bind_some,cA (by omega),Option.bind_some,bR (by omega),Option.bind_some,cA hi,Option.bind_some,nB q1 q2,Option.bind_some,if_pos (xC.2 he)]
theorem wG(hn:n<=6)(hf:rF f B)(hB:B<=100000000):∀d i,n-i=d->i<=n->
  (Loop (fun(s:Int)=>bq (aR n n f) s) (i:Int)=some (Ex.cC ())/\Loop (fun(s:Int)=>bK (aR n n f) s) (i:Int)=some (Ex.cC ())/\∀i',i<=i'->i'<n->∀j,j<i'->f i' j=f j i')\/
  (Loop (fun(s:Int)=>bq (aR n n f) s) (i:Int)=some (Ex.ret (false,[],2))/\Loop (fun(s:Int)=>bK (aR n n f) s) (i:Int)=some (Ex.ret false)/\¬ze n f)
 |0,i,hd,hi=>by
  have:i=n:=by omega
  subst this;refine .inl ⟨cU (body:=fun(s:Int)=>bq (aR i i f) s) ?_,cU (body:=fun(s:Int)=>bK (aR i i f) s) ?_,fun j h1 h2=>by omega⟩
  ·unfold bq;rw[bW,if_neg (by simp)]
  ·unfold bK;rw[bW,if_neg (by simp)]
 |d+1,i,hd,hi=>by
  have hlt:i<n:=by omega
  rcases wI hlt hn hf hB i 0 (by omega) (Nat.zero_le _)with⟨h1,h2,h3⟩|⟨h1,h2,j,hj,he⟩
  ·have b1:bq (aR n n f) (i:Int)=some (.next ((i+1:Nat):Int)):=by
    unfold bq;have h1':Loop (fun(s:Int)=>bp (aR n n f) (i:Int) s) 0=some (Ex.cC ()):=h1;rw[bW,if_pos (decide_eq_true (by omega)),h1',Option.bind_some,Option.bind_some,eE hlt (by omega)]
   have b2:bK (aR n n f) (i:Int)=some (.next ((i+1:Nat):Int)):=by
    unfold bK;have h2':Loop (fun(s:Int)=>bJ (aR n n f) (i:Int) s) 0=some (Ex.cC ()):=h2;rw[bW,if_pos (decide_eq_true (by omega)),h2',Option.bind_some,Option.bind_some,eE hlt (by omega)]
   rw[gr (body:=fun(s:Int)=>bq (aR n n f) s) b1,gr (body:=fun(s:Int)=>bK (aR n n f) s) b2];rcases wG hn hf hB d (i+1) (by omega) hlt with⟨g1,g2,g3⟩|g
   ·refine .inl ⟨g1,g2,fun i' hi' dg j hj=>?_⟩;by_cases e:i'=i
    ·subst e;exact h3 j (Nat.zero_le _) hj
    ·exact g3 i' (by omega) dg j hj
   ·exact .inr g
  ·refine .inr ⟨cU (body:=fun(s:Int)=>bq (aR n n f) s) ?_,cU (body:=fun(s:Int)=>bK (aR n n f) s) ?_,fun h=>he (h i j hj hlt)⟩
   ·unfold bq;have h1':Loop (fun(s:Int)=>bp (aR n n f) (i:Int) s) 0=some (Ex.ret (false,[],2)):=h1;rw[bW,if_pos (decide_eq_true (by omega)),h1',Option.bind_some,Option.bind_some]
   ·unfold bK;have h2':Loop (fun(s:Int)=>bJ (aR n n f) (i:Int) s) 0=some (Ex.ret false):=h2;rw[bW,if_pos (decide_eq_true (by omega)),h2',Option.bind_some,Option.bind_some]
theorem vQ(hn:n<=6):Loop (fun(s:Int×(List (List Rat))×(List (List Rat)))=>cN (n:Int) s.1 s.2.1 s.2.2) (0,List.replicate n ([]:List Rat),([]:List (List Rat)))=some ([],aR n n fQ):=by
 have hL:=gg (body:=fun(s:Int×(List (List Rat))×(List (List Rat)))=>cN (n:Int) s.1 s.2.1 s.2.2) n (fun k=>(List.replicate (n-k) [],aR k n fQ)) ([],aR n n fQ) (fun k hk=>by
  unfold cN;obtain⟨d,hd⟩:∃d,n-k=d+1:=⟨n-k-1,by omega⟩;have e1:aR k n fQ++[List.replicate n (0:Rat)]=aR (k+1) n (fun i j=>if i<k then fQ i j else 0):=by
   rw[oM]
   congr 1
   ·exact dw fun i j hi _=>by rw[if_pos hi]
   ·congr 1
    apply List.ext_getElem
    ·simp
    ·intro j h1 h2;simp
  have e2:(List.range n).map (fun j=>if k<k then fQ k j else(0:Rat))=(List.range n).map ((fun i j=>if i<k then fQ i j else(0:Rat)) k):=rfl;rw[if_pos (decide_eq_true (by simp;omega)),aO (by omega),aO (by rw[bW]),hd,List.replicate_succ];have e0:ix (([]:List Rat)::List.replicate d []) 0=some []:=rfl;rw[e0,Option.bind_some,Int.toNat_natCast,e1,bR (by omega),Option.bind_some,wg,Option.bind_some,cA hk,Option.bind_some,List.tail_cons,eE hk (by omega)];rw[show n-(k+1)=d by omega];have e3:=qH (n:=k+1) (m:=n) (f:=fun i j=>if i<k then fQ i j else(0:Rat)) (k:=k) (j:=k) (v:=1);rw[e3,dw (g:=fQ) (fun i j hi _=>by
   by_cases e:i=k/\j=k
   ·rw[if_pos e,e.1,e.2];unfold fQ;rw[if_pos rfl]
   ·rw[if_neg e];by_cases e4:i<k
    ·rw[if_pos e4]
    ·rw[if_neg e4];unfold fQ;rw[if_neg (by omega)])]) (by
  unfold cN;rw[if_neg (by simp),Nat.sub_self];rfl)
 rw[Nat.sub_zero]at hL;exact hL
theorem qO{i k:Nat}{c:Rat}(hi:i<n)(hk:k<n)(hn:n<=6)(hb:rF b B)(hc:sz c<=4*B+4)(hB:B<=1000000000):ju (i:Int) (k:Int) c (aR n n b)=some ((List.range n).map fun j=>b i j+c*b k j):=by
 unfold ju pT;rw[bR hi,Option.bind_some,bR hk,Option.bind_some,Int.toNat_natCast,zu hi,Option.bind_some,aO (by simp;omega),Option.bind_some,List.drop_zero];have hL:=gg (body:=fun(s:Int×(List Rat))=>eX ((List.range n).map (b k)) c ((List.range n).map (b i)) s.1 s.2) n (fun q=>(List.range n).map fun j=>if j<q then b i j+c*b k j else b i j) ((List.range n).map fun j=>if j<n then b i j+c*b k j else b i j) (fun q hq=>by
  unfold eX;have h1:=hb k q;have h2:=hb i q;have h3:=iD c (b k q);rw[if_pos (decide_eq_true (by simp;omega)),cA hq,Option.bind_some,if_neg (by omega),cA hq,Option.bind_some,lX (show cJ c by unfold cJ;omega) (show cJ (b k q)by unfold cJ;omega),Option.bind_some,lH (show cJ (b i q)by unfold cJ;omega) (show cJ (c*b k q)by unfold cJ;omega),Option.bind_some,eE hq (by omega),Int.toNat_natCast]
  congr 3
  apply List.ext_getElem
  ·simp
  ·intro j h4 h5;rw[List.length_set,List.length_map,List.length_range]at h4;by_cases e:j=q
   ·subst e;rw[List.getElem_set_self];simp
   ·rw[List.getElem_set_ne (Ne.symm e)];simp only[List.getElem_map,List.getElem_range];by_cases e2:j<q
    ·rw[if_pos e2,if_pos (by omega)]
    ·rw[if_neg e2,if_neg (by omega)]) (by
  unfold eX;rw[if_neg (by simp)])
 have e0:(List.range n).map (b i)=(List.range n).map fun j=>if j<0 then b i j+c*b k j else b i j:=by
  apply List.map_congr_left;intro j _;rw[if_neg (by omega)]
 rw[←e0]at hL;have:Loop (fun(s:Int×(List Rat))=>eX ((List.range n).map (b k)) c ((List.range n).map (b i)) s.1 s.2) (0,(List.range n).map (b i))=_:=hL;rw[this,Option.bind_some,Option.bind_some]
 congr 1
 apply List.map_congr_left;intro j hj;rw[if_pos (by simpa using hj)]
end Go.Am
namespace Go.Am
variable {n:Nat} {f b S A:Nat->Nat->Rat} {B:Nat}
theorem zh(n k i:Int)(c:Rat):fw n k i c=ee k n i c:=rfl
def jd(f:Nat->Nat->Rat)(k i i' j:Nat):Rat:=if k<i'/\i'<i/\k<j then f i' j-f i' k/f k k*f k j else f i' j
theorem uU{k i:Nat}(hf:rF f B):rF (jd f k i) (4*B+4):=fun i' j=>by
 have h1:=hf i' j;unfold jd
 split
 ·have h2:=hf i' k;have h3:=hf k k;have h4:=hf k j;have h5:=jh (f i' k) (f k k);have h6:=iD (f i' k/f k k) (f k j);have h7:=oi (f i' j) (f i' k/f k k*f k j);omega
 ·omega
theorem oE{k i j:Nat}:jd f k i k j=f k j:=by unfold jd;rw[if_neg (by omega)]
theorem qj{k i j:Nat}:jd f k i i j=f i j:=by unfold jd;rw[if_neg (by omega)]
theorem wL{x:Rat}:(vq x !=0)=true↔x≠0:=CP
theorem mE{x:Rat}:(vq x==0)=true↔x=0:=by rw[beq_iff_eq,wS]
theorem wo{x:Rat}:vq x<0↔x<0:=by unfold vq;grind
theorem Fe{k:Nat}(hk:k<n)(hn:n<=6)(hf:rF f B)(hB:4*B+4<=1000000000)(h0:f k k≠0):
  Loop (fun(s:Int×(List (List Rat)))=>bN (n:Int) (k:Int) s.1 s.2) (((k+1:Nat):Int),aR n n f)=some (aR n n (jd f k n)):=by
 have hL:=qd (body:=fun(s:Int×(List (List Rat)))=>bN (n:Int) (k:Int) s.1 s.2) (k+1) n (fun i=>aR n n (jd f k i)) (aR n n (jd f k n)) hk (fun i hki hi=>by
  unfold bN;have h1:=hf i k;have h2:=hf k k;have h3:=jh (f i k) (f k k);rw[if_pos (decide_eq_true (by omega)),bR hk,Option.bind_some,cA hk,Option.bind_some,oE,eM,Option.bind_some,if_pos (wL.2 h0)];simp only[bR hi,bR hk,cA hk,Option.bind_some,qj,oE];rw[ot h0 (show cJ (f i k)by unfold cJ;omega) (show cJ (f k k)by unfold cJ;omega),Option.bind_some,eE hk (by omega)];rw[zh,y4 hk hi (by omega) (by omega) (by omega) (uU hf) (by omega) hB,Option.bind_some,Option.bind_some,eE hi (by omega)];rw[dw (g:=jd f k (i+1)) (fun i' j _ _=>by
   rw[qj,oE];unfold jd;by_cases e:i'=i/\k+1<=j
   ·rw[if_pos e,if_pos (by omega),e.1]
   ·rw[if_neg e];by_cases e2:k<i'/\i'<i/\k<j
    ·rw[if_pos e2,if_pos (by omega)]
    ·rw[if_neg e2,if_neg (by omega)])]) (by
  unfold bN;rw[if_neg (by simp)])
 have e0:aR n n f=aR n n (jd f k (k+1)):=dw fun i j _ _=>by unfold jd;rw[if_neg (by omega)]
 rw[e0];exact hL
theorem DX{k:Nat}(hk:k<n)(h0:f k k=0):Loop (fun(s:Int×(List (List Rat)))=>bN (n:Int) (k:Int) s.1 s.2) (((k+1:Nat):Int),aR n n f)=some (aR n n f):=by
 refine cU (body:=fun(s:Int×(List (List Rat)))=>bN (n:Int) (k:Int) s.1 s.2) ?_;show bN (n:Int) (k:Int) _ _=_;unfold bN;by_cases h:k+1<n
 ·rw[if_pos (decide_eq_true (by omega)),bR hk,Option.bind_some,cA hk,Option.bind_some,eM,Option.bind_some,if_neg (by rw[wL];exact fun h=>h h0)]
 ·rw[if_neg (by rw[decide_eq_true_eq];omega)]
def tZ(b f:Nat->Nat->Rat)(k i i' j:Nat):Rat:=if k<i'/\i'<i then b i' j+-(f i' k/f k k)*b k j else b i' j
theorem AJ{k i:Nat}(hf:rF f B)(hb:rF b B):rF (tZ b f k i) (4*B+4):=fun i' j=>by
 have h1:=hb i' j;unfold tZ
 split
 ·have h2:=hf i' k;have h3:=hf k k;have h4:=hb k j;have h5:=jh (f i' k) (f k k);have h6:=iD (-(f i' k/f k k)) (b k j);have h7:=i7 (b i' j) (-(f i' k/f k k)*b k j);rw[jO]at h6;omega
 ·omega
theorem AZ{k i j:Nat}:tZ b f k i k j=b k j:=by unfold tZ;rw[if_neg (by omega)]
theorem AF{k i j:Nat}:tZ b f k i i j=b i j:=by unfold tZ;rw[if_neg (by omega)]
theorem DV{k:Nat}(hk:k<n)(hn:n<=6)(hf:rF f B)(hb:rF b B)(hB:4*B+4<=100000000)(h0:f k k≠0):
  Loop (fun(s:Int×(List (List Rat)))=>aY (n:Int) (k:Int) (aR n n f) s.1 s.2) (((k+1:Nat):Int),aR n n b)=some (Ex.cC (aR n n (nb b f k))):=by
 have hL:=qd (body:=fun(s:Int×(List (List Rat)))=>aY (n:Int) (k:Int) (aR n n f) s.1 s.2) (k+1) n (fun i=>aR n n (tZ b f k i)) (Ex.cC (aR n n (tZ b f k n))) hk (fun i hki hi=>by
  unfold aY;have h1:=hf i k;have h2:=hf k k;have h3:=jh (f i k) (f k k);rw[if_pos (decide_eq_true (by omega)),bR hi,Option.bind_some,cA hk,Option.bind_some,eM,Option.bind_some];by_cases hz:f i k=0
  ·rw[if_pos (mE.2 hz),Option.bind_some];simp only;rw[eE hi (by omega),dw (g:=tZ b f k (i+1)) (fun i' j _ _=>by
    unfold tZ;by_cases e:i'=i
    ·subst e;rw[if_neg (by omega),if_pos (by omega),hz,Rat.div_def];grind
    ·by_cases e2:k<i'/\i'<i
     ·rw[if_pos e2,if_pos (by omega)]
     ·rw[if_neg e2,if_neg (by omega)])]
  ·rw[if_neg (by rw[mE];exact hz),bR hk,Option.bind_some,cA hk,Option.bind_some,eM,Option.bind_some,if_neg (by rw[mE];exact h0)];simp only[bR hi,bR hk,cA hk,Option.bind_some];rw[ot h0 (show cJ (f i k)by unfold cJ;omega) (show cJ (f k k)by unfold cJ;omega),Option.bind_some,show pR (f i k/f k k)=some (-(f i k/f k k))from rfl,Option.bind_some,
    qO hi hk hn (AJ hf hb) (by rw[jO];omega) (by omega)]
   simp only[Option.bind_some];rw[eE hi (by omega),Int.toNat_natCast,vi,dw (g:=tZ b f k (i+1)) (fun i' j _ _=>by
    rw[AF,AZ];unfold tZ;by_cases e:i'=i
    ·subst e;rw[if_pos rfl,if_pos (by omega)]
    ·rw[if_neg e];by_cases e2:k<i'/\i'<i
     ·rw[if_pos e2,if_pos (by omega)]
     ·rw[if_neg e2,if_neg (by omega)])]) (by
  unfold aY;rw[if_neg (by simp)])
 have e0:aR n n b=aR n n (tZ b f k (k+1)):=dw fun i j _ _=>by unfold tZ;rw[if_neg (by omega)]
 have e1:aR n n (tZ b f k n)=aR n n (nb b f k):=dw fun i j hi _=>by
  unfold tZ nb;by_cases e:k<i
  ·rw[if_pos ⟨e,hi⟩,if_pos e]
  ·rw[if_neg (fun h=>e h.1),if_neg e]
 rw[e0,←e1];exact hL
def rz(f:Nat->Nat->Rat)(k i:Nat):Rat:=-((f i i+1)/(f i k+f i k))
theorem Em{k:Nat}(hk:k<n)(hn:n<=6)(hf:rF f B)(hb:rF b B)(hB:4*B+4<=100000000)(h0:f k k=0):∀d i,n-i=d->k<i->i<=n->
  Loop (fun(s:Int×(List (List Rat)))=>aY (n:Int) (k:Int) (aR n n f) s.1 s.2) ((i:Int),aR n n b)=
   some (if gA f k n i<n then Ex.ret (false,(List.range n).map (fun j=>b (gA f k n i) j+rz f k (gA f k n i)*b k j),0)else Ex.cC (aR n n b)):=by
 intro d
 induction d with
 |zero=>
  intro i hd hki hi;rw[ya (by omega),if_neg (by omega)];refine cU (body:=fun(s:Int×(List (List Rat)))=>aY (n:Int) (k:Int) (aR n n f) s.1 s.2) ?_;show aY _ _ _ (i:Int) _=_;unfold aY;rw[if_neg (by rw[decide_eq_true_eq];omega)]
 |succ d ih=>
  intro i hd hki hi;have hlt:i<n:=by omega
  rw[yw hlt];by_cases hz:f i k=0
  ·rw[if_pos hz];have hbd:aY (n:Int) (k:Int) (aR n n f) (i:Int) (aR n n b)=some (.next (((i+1:Nat):Int),aR n n b)):=by
    unfold aY;rw[if_pos (decide_eq_true (by omega)),bR hlt,Option.bind_some,cA hk,Option.bind_some,eM,Option.bind_some,if_pos (mE.2 hz),Option.bind_some];simp only;rw[eE hlt (by omega)]
   rw[gr (body:=fun(s:Int×(List (List Rat)))=>aY (n:Int) (k:Int) (aR n n f) s.1 s.2) hbd];exact ih (i+1) (by omega) (by omega) hlt
  ·rw[if_neg hz,if_pos hlt];refine cU (body:=fun(s:Int×(List (List Rat)))=>aY (n:Int) (k:Int) (aR n n f) s.1 s.2) ?_;show aY _ _ _ (i:Int) _=_;unfold aY;have h1:=hf i k;have h2:=hf i i;have s1:sz (1:Rat)<=1:=by decide+kernel
   have h3:=i7 (f i i) 1;have h4:=i7 (f i k) (f i k);have h5:=jh (f i i+1) (f i k+f i k);have hd0:f i k+f i k≠0:=by grind
   rw[if_pos (decide_eq_true (by omega)),bR hlt,Option.bind_some,cA hk,Option.bind_some,eM,Option.bind_some,if_neg (by rw[mE];exact hz),bR hk,Option.bind_some,cA hk,Option.bind_some,eM,Option.bind_some,if_pos (mE.2 h0)];simp only[bR hlt,bR hk,cA hk,cA hlt,Option.bind_some,wg];rw[lH (show cJ (f i i)by unfold cJ;omega) (show cJ 1 by decide+kernel),Option.bind_some,lH (show cJ (f i k)by unfold cJ;omega) (show cJ (f i k)by unfold cJ;omega),Option.bind_some,
    ot hd0 (show cJ (f i i+1)by unfold cJ;omega) (show cJ (f i k+f i k)by unfold cJ;omega),Option.bind_some,show pR ((f i i+1)/(f i k+f i k))=some (rz f k i)from rfl,Option.bind_some,
    qO hlt hk hn hb (by unfold rz;rw[jO];omega) (by omega),Option.bind_some,Option.bind_some]
theorem vf(k d:Nat):List.range' k (d+1)=k::List.range' (k+1) d:=by rw[List.range'_succ]
theorem oj{C:Nat}(hn:n<=6)(hC1:1<=C)(hCn:C*8^n<=20000000):∀d k (f b S:Nat->Nat->Rat),n-k=d->k<=n->rF f (C*8^k)->rF b (C*8^k)->symm S->(∀i j,k<=i->i<n->k<=j->j<n->f i j=S i j)->(∀i j,k<=i->i<n->k<=j->j<n->Qf n A (b i) (b j)=S i j)->
  (Loop (fun(s:Int×(List (List Rat))×(List (List Rat)))=>aM (n:Int) s.1 s.2.1 s.2.2) ((k:Int),aR n n f,aR n n b)=some (Ex.cC ())/\DS (List.range' k (n-k)) S)\/
  ∃w:Nat->Rat,Loop (fun(s:Int×(List (List Rat))×(List (List Rat)))=>aM (n:Int) s.1 s.2.1 s.2.2) ((k:Int),aR n n f,aR n n b)=some (Ex.ret (false,(List.range n).map w,0))/\Qf n A w w<0/\∀j,sz (w j)<=5*(C*8^(n-1))+5
 |0,k,f,b,S,hd,hk,hf,hb,hs,hfS,hQ=>by
  refine .inl ⟨cU (body:=fun(s:Int×(List (List Rat))×(List (List Rat)))=>aM (n:Int) s.1 s.2.1 s.2.2) ?_,fun x=>by rw[hd];show(0:Rat)<=0;exact Rat.le_refl⟩;show aM (n:Int) (k:Int) _ _=_;unfold aM;rw[if_neg (by rw[decide_eq_true_eq];omega)]
 |d+1,k,f,b,S,hd,hk,hf,hb,hs,hfS,hQ=>by
  have hlt:k<n:=by omega
  have hkk:=hfS k k (Nat.le_refl _) hlt (Nat.le_refl _) hlt;have hB:C*8^k<=20000000:=Nat.le_trans (Af hk) hCn;have hnext:4*(C*8^k)+4<=C*8^(k+1):=by
   have e:C*8^(k+1)=C*8^k*8:=by rw[Nat.pow_succ,Nat.mul_assoc]
   have:0<C*8^k:=Nat.mul_pos (by omega) (Nat.pow_pos (by decide));omega
  have hnd:n-(k+1)=d:=by omega
  have hkn:C*8^k<=C*8^(n-1):=Af (by omega);rw[hd,vf];by_cases hneg:f k k<0
  ·refine .inr ⟨b k,cU (body:=fun(s:Int×(List (List Rat))×(List (List Rat)))=>aM (n:Int) s.1 s.2.1 s.2.2) ?_,by rw[hQ k k (Nat.le_refl _) hlt (Nat.le_refl _) hlt,←hkk];exact hneg,fun j=>Nat.le_trans (hb k j) (by omega)⟩;show aM (n:Int) (k:Int) _ _=_;unfold aM;rw[if_pos (decide_eq_true (by omega)),bR hlt,Option.bind_some,cA hlt,Option.bind_some,eM,Option.bind_some,if_pos (decide_eq_true (wo.2 hneg)),bR hlt,Option.bind_some,Option.bind_some]
  ·have hsg:¬(decide (vq (f k k)<0))=true:=by rw[decide_eq_true_eq,wo];exact hneg
   by_cases h0:f k k=0
   ·have hv:=Em hlt hn hf hb (by omega) h0 (n-(k+1)) (k+1) rfl (by omega) hlt;have hge:=uv (f:=f) (k:=k) (n:=n) (n-(k+1)) (k+1) rfl;by_cases hat:gA f k n (k+1)<n
    ·have hne:=uE (f:=f) (k:=k) (n:=n) (n-(k+1)) (k+1) rfl hat;rw[if_pos hat]at hv;generalize gA f k n (k+1)=i at*;refine .inr ⟨fun j=>b i j+rz f k i*b k j,cU (body:=fun(s:Int×(List (List Rat))×(List (List Rat)))=>aM (n:Int) s.1 s.2.1 s.2.2) ?_,?_,fun j=>?_⟩
     ·show aM (n:Int) (k:Int) _ _=_;unfold aM;rw[if_pos (decide_eq_true (by omega)),bR hlt,Option.bind_some,cA hlt,Option.bind_some,eM,Option.bind_some,if_neg hsg,eE hlt (by omega),hv,Option.bind_some,Option.bind_some,Option.bind_some]
     ·rw[wU,nV,nV,hQ i i (by omega) hat (by omega) hat,hQ i k (by omega) hat (by omega) hlt,hQ k i (by omega) hlt (by omega) hat,hQ k k (by omega) hlt (by omega) hlt,←hkk,h0,hs k i,←hfS i k (by omega) hat (by omega) hlt,←hfS i i (by omega) hat (by omega) hat];unfold rz;have hd0:f i k+f i k≠0:=by grind
      have h1:(f i i+1)/(f i k+f i k)*(f i k+f i k)=f i i+1:=Rat.div_mul_cancel hd0;generalize (f i i+1)/(f i k+f i k)=x at*
      grind
     ·have h1:=hf i k;have h2:=hf i i;have s1:sz (1:Rat)<=1:=by decide+kernel
      have h3:=i7 (f i i) 1;have h4:=i7 (f i k) (f i k);have h5:=jh (f i i+1) (f i k+f i k);have h6:=iD (rz f k i) (b k j);have h7:=i7 (b i j) (rz f k i*b k j);have h8:=hb i j;have h9:=hb k j;show sz (b i j+rz f k i*b k j)<=_;have e:sz (rz f k i)=sz ((f i i+1)/(f i k+f i k)):=by unfold rz;rw[jO]
      omega
    ·have hall:=rS (f:=f) (k:=k) (n:=n) (n-(k+1)) (k+1) rfl hat;rw[if_neg hat]at hv;have hrow:∀i,k<i->i<n->S k i=0:=fun i h1 h2=>by rw[hs,←hfS i k (by omega) h2 (by omega) hlt];exact hall i h1 h2
     have hb1:aM (n:Int) (k:Int) (aR n n f) (aR n n b)=some (.next (((k+1:Nat):Int),aR n n f,aR n n b)):=by
      unfold aM;rw[if_pos (decide_eq_true (by omega)),bR hlt,Option.bind_some,cA hlt,Option.bind_some,eM,Option.bind_some,if_neg hsg,eE hlt (by omega),hv,Option.bind_some,Option.bind_some];simp only;rw[DX hlt h0,Option.bind_some,Option.bind_some]
     rw[gr (body:=fun(s:Int×(List (List Rat))×(List (List Rat)))=>aM (n:Int) s.1 s.2.1 s.2.2) hb1];rcases oj hn hC1 hCn d (k+1) f b S (by omega) hlt (fun i j=>Nat.le_trans (hf i j) (by omega)) (fun i j=>Nat.le_trans (hb i j) (by omega)) hs (fun i j h1 h2 h3 h4=>hfS i j (by omega) h2 (by omega) h4) (fun i j h1 h2 h3 h4=>hQ i j (by omega) h2 (by omega) h4)with⟨g1,g2⟩|g
     ·refine .inl ⟨g1,AH hs (by rw[←hkk];exact h0) (fun i hi=>?_) (by rw[hnd]at g2;exact g2)⟩;rw[List.mem_range'_1]at hi;exact hrow i (by omega) (by omega)
     ·exact .inr g
   ·have hpos:0<S k k:=by rw[←hkk];grind
    have hv:=DV hlt hn hf hb (by omega) h0;have hb1:aM (n:Int) (k:Int) (aR n n f) (aR n n b)=some (.next (((k+1:Nat):Int),aR n n (jd f k n),aR n n (nb b f k))):=by
     unfold aM;rw[if_pos (decide_eq_true (by omega)),bR hlt,Option.bind_some,cA hlt,Option.bind_some,eM,Option.bind_some,if_neg hsg,eE hlt (by omega),hv,Option.bind_some,Option.bind_some];simp only;rw[Fe hlt hn hf (by omega) h0,Option.bind_some,Option.bind_some]
    rw[gr (body:=fun(s:Int×(List (List Rat))×(List (List Rat)))=>aM (n:Int) s.1 s.2.1 s.2.2) hb1];have hnbs:rF (nb b f k) (C*8^(k+1)):=fun i j=>by
     have h1:=AJ (k:=k) (i:=i+1) hf hb i j;have e:tZ b f k (i+1) i j=nb b f k i j:=by
      unfold tZ nb;by_cases e:k<i
      ·rw[if_pos ⟨e,by omega⟩,if_pos e]
      ·rw[if_neg (fun h=>e h.1),if_neg e]
     rw[e]at h1;omega
    rcases oj hn hC1 hCn d (k+1) (jd f k n) (nb b f k) (mO S k) (by omega) hlt (fun i j=>Nat.le_trans (uU hf i j) hnext) hnbs (wa hs) (fun i j h1 h2 h3 h4=>by
      unfold jd mO;rw[if_pos ⟨by omega,h2,by omega⟩,hfS i j (by omega) h2 (by omega) h4,hfS i k (by omega) h2 (by omega) hlt,hkk,hfS k j (by omega) hlt (by omega) h4])
     (fun i j h1 h2 h3 h4=>E_ hs (by rw[←hkk];exact h0) (fun i h1 h2=>hfS i k h1 h2 (Nat.le_refl _) hlt) hlt hQ (by omega) h2 (by omega) h4)with⟨g1,g2⟩|g
    ·exact .inl ⟨g1,yC hs hpos (by rw[hnd]at g2;exact g2)⟩
    ·exact .inr g
theorem xg{C:Nat}(f:Nat->Nat->Rat)(hn:n<=6)(hC1:1<=C)(hCn:C*8^n<=20000000)(hf:rF f C):
  (¬ze n f/\cy (aR n n f)=some (false,[],2)/\iL (aR n n f)=some false)\/
  (ze n f/\iL (aR n n f)=some true/\((cy (aR n n f)=some (true,[],0)/\(symm f->DS (List.range n) f))\/
   ∃w:Nat->Rat,cy (aR n n f)=some (false,(List.range n).map w,0)/\(symm f->Qf n f w w<0)/\∀j,sz (w j)<=5*(C*8^(n-1))+5)):=by
 have hc:cM (aR n n f)=n:=by
  by_cases h:n=0
  ·subst h;rfl
  ·exact mg (by omega)
 have hrl:∀r∈aR n n f,r.length<=30:=fun r hr=>by rw[yq hr];omega
 have hC2:C<=20000000:=by have:=Nat.le_trans (Af (C:=C) (Nat.zero_le n)) hCn;simpa using this
 rcases wG hn hf (by omega) n 0 rfl (Nat.zero_le _)with⟨h1,h2,h3⟩|⟨h1,h2,h3⟩
 ·have h1':Loop (fun(s:Int)=>bq (aR n n f) s) 0=some (Ex.cC ()):=h1;have h2':Loop (fun(s:Int)=>bK (aR n n f) s) 0=some (Ex.cC ()):=h2;have hsy:ze n f:=fun i j hj hi=>h3 i (Nat.zero_le _) hi j hj;refine .inr ⟨hsy,by unfold iL;rw[h2'];rfl,?_⟩
  -- a symmetric form that is the same on the rows and columns
  let S:Nat->Nat->Rat:=fun i j=>if i<n/\j<n then f i j else 0
  have hS:symm S:=fun i j=>by
   show(if i<n/\j<n then f i j else 0)=if j<n/\i<n then f j i else 0;by_cases e:i<n/\j<n
   ·rw[if_pos e,if_pos ⟨e.2,e.1⟩];rcases Nat.lt_trichotomy i j with h|h|h
    ·exact(hsy j i h e.2).symm
    ·subst h;rfl
    ·exact hsy i j h e.1
   ·rw[if_neg e,if_neg (fun h=>e ⟨h.2,h.1⟩)]
  have hfS:∀i j,i<n->j<n->f i j=S i j:=fun i j hi hj=>by show _=if i<n/\j<n then f i j else 0;rw[if_pos ⟨hi,hj⟩]
  have hm:=oj (A:=f) hn hC1 hCn n 0 f fQ S rfl (Nat.zero_le _) (by simpa using hf) (fun i j=>by
    have:sz (fQ i j)<=1:=by unfold fQ;split<;>decide+kernel
    rw[Nat.pow_zero];omega) hS (fun i j _ hi _ hj=>hfS i j hi hj) (fun i j _ hi _ hj=>by rw[wE hi hj];exact hfS i j hi hj)
  have hpre:∀X,Loop (fun(s:Int×(List (List Rat))×(List (List Rat)))=>aM (n:Int) s.1 s.2.1 s.2.2) (0,aR n n f,aR n n fQ)=some X->cy (aR n n f)=(match X with|Ex.cC ()=>some (true,[],(0:Int))|Ex.ret (r238,r239,r240)=>some (r238,r239,r240)):=fun X hX=>by
   unfold cy;rw[jZ _ (by rw[bW];omega),kQ,hc,bW,Option.bind_some];simp only[Bool.not_true,Bool.false_eq_true,if_false];rw[if_neg (by simp),h1',Option.bind_some,Option.bind_some];simp only;rw[yD _ (by rw[bW];omega) hrl,Option.bind_some,aO (by omega),Int.toNat_natCast,vQ hn,Option.bind_some,Option.bind_some];simp only;rw[aO trivial,hX,Option.bind_some]
   cases X with
   |cC u=>rfl
   |ret r=>rfl
  rcases hm with⟨g1,g2⟩|⟨w,g1,g2,g3⟩
  ·refine .inl ⟨hpre _ g1,fun _ x=>?_⟩;have:=g2 x;rw[Nat.sub_zero,←List.range_eq_range']at this
   rwa [Ai (m':=S) (x':=x) (fun i hi j hj=>hfS i j (by simpa using hi) (by simpa using hj)) (fun _ _=>rfl)]
  ·exact .inr ⟨w,hpre _ g1,fun _=>g2,g3⟩
 ·have h1':Loop (fun(s:Int)=>bq (aR n n f) s) 0=some (Ex.ret (false,[],2)):=h1;have h2':Loop (fun(s:Int)=>bK (aR n n f) s) 0=some (Ex.ret false):=h2;refine .inl ⟨h3,?_,by unfold iL;rw[h2'];rfl⟩;unfold cy;rw[jZ _ (by rw[bW];omega),kQ,hc,bW,Option.bind_some];simp only[Bool.not_true,Bool.false_eq_true,if_false];rw[if_neg (by simp),h1']
  rfl
end Go.Am
namespace Go.Am
variable {n:Nat} {f:Nat->Nat->Rat}
end Go.Am
namespace Go.Am
variable {n m:Nat} {f g:Nat->Nat->Rat}
end Go.Am
namespace Go.Am
open Go.RowKit
set_option maxRecDepth 100000
noncomputable section
def dA(a2:List Rat)(v3:List Rat)(v10:Int)(v11:Rat):Option (St (Int×Rat) Rat):=(if(decide (v10<(v3.length:Int)))=true then(ix v3 v10).bind fun v17=>(ix a2 v10).bind fun v19=>(fR v17 v19).bind fun v21=>(gG v11 v21).bind fun v23=>some (St.next ((IntKind.i64.wrap (v10+1)),v23))else some (St.done v11))
def fM(a1:List (List Rat))(a2:List Rat):Option Bool:=(nZ a1 a2).bind fun(v3,v4)=>(if(v4 !=0)=true then some false else(if((v3.length:Int) !=(a2.length:Int))=true then some false else((Loop (fun(s:Int×Rat)=>dA a2 v3 s.1 s.2) (0,0)).bind fun v25=>some (v25)).bind fun v26=>(eM v26).bind fun v27=>some (decide (v27<0))))
theorem nX{a1:List (List Rat)}{a2:List Rat}{r29:Bool}(h:fM a1 a2=some r29):aU PP 130 [] [al (an.slice an.rat) a1,al an.rat a2] [] (D.bool r29):=by
 unfold fM at h;refine .of Go.Proofs.Tryz.func130 rfl (by kernel_rfl) rfl rfl rfl rfl rfl rfl (fun A w0 L b=>?_);show Ok PP _ [(0,al (an.slice an.rat) a1),(1,al an.rat a2)] [] _ _;refine .ak (.au rfl<|.nil) rfl ?_;obtain⟨⟨v3,v4⟩,e5,h⟩:=bind_some h;refine .ak (.mv rfl<|.mv rfl<|.ag (BU e5) ⟨rfl,rfl,trivial⟩ trivial trivial<|.mv rfl<|.ext rfl rfl<|.ext rfl rfl<|.au rfl<|.au rfl<|.nil) rfl ?_;refine .sq ?_;by_cases c6:(v4 !=0)=true
 ·replace h:=ae c6 h;refine .ak (.mv rfl<|.cm rfl rfl rfl<|.mv rfl<|.gk c6<|.gk c6<|.gk c6<|.gk c6<|.gk c6<|.bw rfl c6 rfl<|.nil) rfl ?_;refine .cL rfl rfl ?_;refine .ak (.au rfl<|.nil) rfl ?_;cases h;refine .aN (fun _ _ hb=>hb) rfl (.t1 (.tmp rfl)) (.refl _) trivial trivial
 ·replace h:=ab c6 h;refine .ak (.mv rfl<|.cm rfl rfl rfl<|.mv rfl<|.gz c6<|.mv rfl<|.gz c6<|.ig rfl cY<|.gz c6<|.mv rfl<|.gz c6<|.ig rfl cY<|.gz c6<|.cm rfl rfl rfl<|.br rfl c6 rfl<|.nil) rfl ?_;by_cases c7:((v3.length:Int) !=(a2.length:Int))=true
  ·replace h:=ae c7 h;refine .cL rfl c7 ?_;refine .ak (.au rfl<|.nil) rfl ?_;cases h;refine .aN (fun _ _ hb=>hb) rfl (.t1 (.tmp rfl)) (.refl _) trivial trivial
  ·replace h:=ab c7 h;refine .c_ rfl c7 ?_;refine .skip (Ok.on ?_);refine .ak (.fV (qC (0)) aB ⟨lT,l7,l5,trivial⟩ rfl<|.nil) rfl ?_;obtain⟨v26,hp9,h⟩:=bind_some h;refine .cX (fun i=>v26=i) (fun(i:Rat)=>[(7,D.ref 7 0)]) (fun(i:Rat)=>[(7,Hp.box 28 (qC (i)))]) ?_ ?_
   ·have ho1:=h;have h:=hp9;refine .ak (.au rfl<|.nil) rfl ?_;obtain⟨o12,hl13,h⟩:=bind_some h;have ho2:=h;refine .block (.cD (fun(s:Int×Rat)=>[(1,al an.rat a2),(5,al an.rat v3),(7,D.ref 7 0),(8,D.int .i64 s.1)]) (fun(s:Int×Rat)=>[(7,Hp.box 28 (qC (s.2)))]) hl13 (.of rfl) (.of rfl) rfl rfl ?_);rintro⟨v10,v11⟩ st14 hb15;have h:dA a2 v3 v10 v11=some st14:=hb15;unfold dA at h
    try dsimp only
    refine .sq ?_;refine .ak (.mv rfl<|.mv rfl<|.ig rfl cY<|.cm rfl rfl rfl<|.nil) rfl ?_;by_cases c16:(decide (v10<(v3.length:Int)))=true
    ·replace h:=ae c16 h;refine .cL rfl c16 ?_;refine .skip (Ok.on ?_);refine .sq ?_;refine .block ?_;obtain⟨v17,e18,h⟩:=bind_some h;obtain⟨v19,e20,h⟩:=bind_some h;obtain⟨v21,e22,h⟩:=bind_some h;obtain⟨v23,e24,h⟩:=bind_some h;refine .dc cq (.cd (qC (v11)) rfl rfl aa rfl rfl<|.mv rfl<|.mv rfl<|.m8 rfl rfl bf (aj e18).1 (aj e18).2<|.CB (l:=qC (v17)) rfl aa rfl<|.mv rfl<|.mv rfl<|.m8 rfl rfl bf (aj e20).1 (aj e20).2<|.CB (l:=qC (v19)) rfl aa rfl<|.ag (lO e22) ⟨rfl,rfl,trivial⟩ trivial trivial<|.ag (kj e24) ⟨rfl,rfl,trivial⟩ trivial trivial<|.cw (qC (v23)) rfl rfl rfl aa rfl rfl rfl<|.nil) rfl (by kernel_rfl) (Ok.on ?_);refine .region (.mv rfl<|.ar rfl rfl rfl<|.au rfl<|.nil) rfl (fun _ _ hs=>⟨((IntKind.i64.wrap (v10+1)),v23),(sj h),hs.sub (.of rfl) (.of rfl) rfl rfl⟩)
    ·replace h:=ab c16 h;refine .c_ rfl c16 ?_;refine .exit (fun a w hs=>⟨_,(sj h),fun e=>by subst e;have h:=ho2;exact bA (⟨v11,(sj h),hs.sub (.of rfl) (.of rfl) rfl rfl⟩)⟩)
   ·rintro _ rfl
    try dsimp only
    obtain⟨v27,e28,h⟩:=bind_some h;refine .ak (.cd (qC (v26)) rfl rfl aa rfl rfl<|.ag (oB e28) ⟨rfl,trivial⟩ trivial trivial<|.cm rfl rfl rfl<|.au rfl<|.nil) rfl ?_;cases h;refine .aN (fun _ _ hb=>hb) rfl (.t1 (.tmp rfl)) (.refl _) trivial trivial
end
end Go.Am
namespace Go.Am
variable {M:List (List Rat)} {n:Nat}
theorem oU{g:Nat->Rat}:∀{l l':List Nat},bZ (l++l') g=bZ l g+bZ l' g
 |[],l'=>by show bZ l' g=0+_;grind
 |a::l,l'=>by
  show g a+bZ (l++l') g=g a+bZ l g+_;rw[oU];grind
theorem kt{g h:Nat->Rat}:∀n,ff g h n=bZ (List.range n) fun j=>g j*h j
 |0=>rfl
 |n+1=>by
  rw[List.range_succ,oU,←kt n];show ff g h n+g n*h n=_+(g n*h n+0)
  grind
theorem uC{w:Nat->Rat}(h:right M=true)(hl:M.length=n)(hc:cM M=n)(hn:n<=6)(hb:bd M 100000000)(hw:∀j,sz (w j)<=100000000)(hneg:Qf n (ij M) w w<0):fM M ((List.range n).map w)=some true:=by
 have hgd:∀j,((List.range n).map w).getD j 0=if j<n then w j else 0:=fun j=>by
  by_cases e:j<n
  ·rw[fh (by simpa using e),if_pos e];simp
  ·rw[kM (by simpa using e),if_neg e]
 have hvb:∀j,sz (((List.range n).map w).getD j 0)<=100000000:=fun j=>by
  rw[hgd]
  split
  ·exact hw j
  ·decide+kernel
 have hA:=(AA (M:=M) (v:=(List.range n).map w) (b:=100000000) h (by omega) (by simpa using hc) (by simp;omega) hb hvb (by decide) (Nat.le_refl _)).1;rw[hl,hc]at hA;have hu:∀i,ff (fun j=>ij M i j) (fun j=>((List.range n).map w).getD j 0) n=bZ (List.range n) fun j=>ij M i j*w j:=fun i=>by
  rw[kt];exact bk fun j hj=>by rw[hgd,if_pos (List.mem_range.1 hj)]
 have hus:∀i,sz (ff (fun j=>ij M i j) (fun j=>((List.range n).map w).getD j 0) n)<=2000000000:=fun i=>by
  have h1:=oc (g:=fun j=>ij M i j) (h:=fun j=>((List.range n).map w).getD j 0) (b:=100000000) (fun j=>ow hb (by decide) i j) hvb n;have h2:n*(2*100000000+2)<=6*(2*100000000+2):=Nat.mul_le_mul_right _ hn;omega
 generalize hU:(fun i=>ff (fun j=>ij M i j) (fun j=>((List.range n).map w).getD j 0) n)=u at*;have hus':∀i,sz (u i)<=2000000000:=fun i=>by rw[←hU];exact hus i
 have hu':∀i,u i=bZ (List.range n) fun j=>ij M i j*w j:=fun i=>by rw[←hU];exact hu i
 have hL:=gg (body:=fun(s:Int×Rat)=>dA ((List.range n).map w) ((List.range n).map u) s.1 s.2) n (fun i=>ff u w i) (ff u w n) (fun i hi=>by
  unfold dA;have h1:=hus' i;have h2:=hw i;have h3:=iD (u i) (w i);have h4:=oc (g:=u) (h:=w) (b:=2000000000) hus' (fun j=>Nat.le_trans (hw j) (by decide)) i;have h5:i*(2*2000000000+2)<=6*(2*2000000000+2):=Nat.mul_le_mul_right _ (by omega);rw[if_pos (decide_eq_true (by simp;omega)),cA hi,Option.bind_some,cA hi,Option.bind_some,lX (show cJ (u i)by unfold cJ;omega) (show cJ (w i)by unfold cJ;omega),Option.bind_some,lH (show cJ (ff u w i)by unfold cJ;omega) (show cJ (u i*w i)by unfold cJ;omega),Option.bind_some,eE hi (by omega)]
  rfl) (by
  unfold dA;rw[if_neg (by simp)])
 have hL':Loop (fun(s:Int×Rat)=>dA ((List.range n).map w) ((List.range n).map u) s.1 s.2) (0,0)=some (ff u w n):=hL;have hval:ff u w n=Qf n (ij M) w w:=by
  rw[kt];unfold Qf;refine bk fun i _=>?_;rw[hu' i,show(bZ (List.range n) fun j=>ij M i j*w j)*w i=w i*bZ (List.range n) (fun j=>ij M i j*w j)by grind,←eN];exact bk fun j _=>by grind
 unfold fM;rw[hA,Option.bind_some];simp only;rw[if_neg (by simp),if_neg (by simp),hL',Option.bind_some,Option.bind_some,eM,Option.bind_some,hval]
 congr 1
 rw[decide_eq_true_eq,wo];exact hneg
end Go.Am
namespace Go.Am
open Go.RowKit
def D.qK(n:Nat):D where
 p:=fun _ _ _ v=>∃A cap,v=.slice A n cap
 nm:=[]
 sh:=.one
 mono:=fun h _ _=>h
 hJ:=fun⟨_,_,e⟩=>by subst e;rfl
theorem Le.qK{α:Type}{e:an α}{xs:List α}:Le (al e xs) (.qK xs.length):=⟨fun _ _ _ _ ⟨A,cap,h,_⟩=>⟨A,cap,h⟩,fun _ h=>by cases h⟩
theorem Plain.qK{n:Nat}:Plain (.qK n):=fun _ _ _ _ _ _ _ h=>h
theorem rK.fU{ρ:Nat->Nat}{l l':List D}(h:ph ρ l l'):rK ρ (.fU l) (.fU l'):=⟨fun _ _ _ _ ⟨cs,e,ha⟩=>⟨cs,e,h.all ha⟩,fun r hr=>h.bz r hr⟩
section
variable {P:Program} {os:List Oper} {c:Ctx} {T T':List (Nat×D)} {H H':List (Nat×Hp)} {sps:List Spec}
variable {ops:Array Oper} {dst:Option Nat} {ty:TypeId} {pos:String} {aft:Array Edge}
theorem ai.Fv{t:TypeId}{x:Operand}{n:Nat}(hx:ev T x=some (.qK n))(ht:isSlice P t=true)(hr:ai P ops c os (a_ T dst (.int .i64 n)) H sps T' H'):
  ai P ops c (⟨dst,.call {callee:=.builtin .len,args:=#[x],argTypes:=#[t]},ty,pos,aft,none⟩::os) T H (ps [(x,.qK n)] (.int .i64 n)::sps) T' H':=
 .pure [(x,.qK n)] rfl (by simpa using hx) (i9 rfl) (fun ε w S a ha=>by
  obtain⟨A,cap,h2⟩:=ha (x,.qK n) (by simp);dsimp only at h2;exact⟨_,iw a w (by rw[h2];exact oe ht A n cap w),rfl⟩) hr
theorem ai.C3{f:FuncId}{xs:List Operand}{ats:Array TypeId}{ds ds0:List D}{d d':D}(R:List (Nat×Hp))(hc:aU P f [] ds [] d)(hle:Le d d')(he:vv T xs ds0)(dg:hasAll H R)(hsee:sn R ds0 ds)(hpl:Plain d')(hnm:d'.nm=[])
  (hr:ai P ops c os (a_ T dst d') H sps T' H'):
  ai P ops c (⟨dst,.call {callee:=.value (.func f),args:=xs.toArray,argTypes:=ats},ty,pos,aft,none⟩::os) T H ({ins:=(xs.zip ds0).flatMap fun x=>eL x.1 x.2,dg:=R,out:=d',cK:=[],news:=[]}::sps) T' H':=by
 refine .cons (sp:={ins:=(xs.zip ds0).flatMap fun x=>eL x.1 x.2,dg:=R,out:=d',cK:=[],news:=[]}) ?_ (dV (fP he)) (oK dg) trivial hr;intro hdst T0 H0 hi hin0 _ a w ⟨ε,φ,hs⟩ Q K hK;rw[if_pos (aX rfl _)];have hx:∀x∈xs.zip ds0,eP T0 (eL x.1 x.2):=cl hi;have hget0:=mx hin0;have hall0:bI ε w (Am.ak c H0 φ) ds0 (xs.map a.eval):=ie he (fun x h=>(hs.ev (hx x h) (aw (fP he x h)).2).1);have hall:=sn.all (S':=fun k=>Am.ak c H0 φ k\/∃q,af R q≠none/\φ q k) (fun q h hq=>hs.h q h (hget0 q h hq)) (fun k hk=>.inl hk) (fun q hq k hk=>.inr ⟨q,hq,hk⟩) hsee hall0;simp only[Oper.wp,l_ hc.ok a w,Oper.upon];refine(hc.calls (fun k=>Am.ak c H0 φ k\/∃q,af R q≠none/\φ q k) w ε φ (xs.map a.eval) (fun r hr=>absurd rfl hr) (fun r r' hr=>absurd rfl hr) (fun r h hr=>by cases hr) hall).mono ?_;rintro e w' ⟨v,ε',φ',rfl,_,hv,_,_,_,hbel⟩;have hb:Below w.heap.size w w':=⟨hbel.os,hbel.tape,hbel.output,hbel.size,fun k hk=>hbel.block k hk (fun⟨r,hr,_⟩=>hr rfl)⟩;have hS:=hs.grow hb;exact hK _ _ ⟨ε,φ,hS.put (d:=d') (cI hdst) (hpl _ _ _ _ _ _ _ (hle.1 _ _ _ _ hv)) (by rw[hnm];intro r hr;cases hr)⟩
end
end Go.Am
