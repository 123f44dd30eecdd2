/- Part 4 of 7 of what the laws of layer 1 share: contracts of functions of the program, each for every argument of its description; no condition beyond it. -/
import Derived.Test.YtgnepgenefcnpaaGreatDoorBgC
set_option linter.unusedVariables false
set_option linter.unusedSimpArgs false
namespace Go.Am
open Go.RowKit
set_option maxRecDepth 100000
noncomputable section
section
variable {P:Program} {n:Nat} {c:Ctx} {T T':List (Nat×D)} {H H':List (Nat×Hp)} {Q:Exit->Act->World->Prop} {ops:Array Oper}
theorem y4{o:Oper}{a:Act}{next next':Act->World->Prop}(hn:∀a w,next a w->next' a w):∀{r:Result Next},o.upon P a next Q r->o.uponIn Fence.wide n P a next' Q r
 |.ok (.value v) w',h=>hn _ _ h
 |.ok .skip w',h=>hn _ _ h
 |.ok (.defer d) w',h=>hn _ _ h
 |.ok (.enter f args) w',h=>⟨fun hd=>(by simp[Fence.wide]at hd),callsIn_wide.2 (Calls.mono h fun e w'' hr=>by
   cases e with
   |returned v=>exact hn _ _ hr
   |panicked chain=>exact hr
   |outgrown=>exact hr)⟩
 |.ok (.row row args) w',h=>⟨fun hd=>(by simp[Fence.wide]at hd),fun c cs _=>let⟨v,w',r,s⟩:=h c cs;⟨v,w',hn _ _ r,stepsIn_wide.2 s⟩⟩
 |.halt (.panic v) w',h=>h
 |.ok (.round ..) _,h=>h.elim
theorem tv{l:List Oper}{sps:List Spec}(h:an P ops c l T H sps T' H'):∀(k:Nat) (rest:List Nat),(∀i,i<l.length->ops[k+i]?=l[i]?)->iG l=true->eP c.n l=true->
  (∀a w,Sat c (aP T') (ai H') a w->wpOpsIn Fence.wide n P ops Q rest a w)->∀a w,Sat c (aP T) (ai H) a w->wpOpsIn Fence.wide n P ops Q (List.range' k l.length++rest) a w:=by
 induction h with
 |nil=>exact fun k rest _ _ _ hk a w hs=>hk a w hs
 |@cons o os T H sp sps T' H' hs hi hh hn _ ih=>
  intro k rest hops hnd hd hk a w hsat
  obtain⟨h1,h2⟩:=me hd
  have ho:ops[k]?=some o:=by have:=hops 0 (by simp);simpa using this
  have hnd0:=mz hnd 0 o (by simp)
  have hnd1:iG os=true:=by
   unfold iG at hnd|-
   rw[List.all_cons,Bool.and_eq_true]at hnd
   exact hnd.2
  have:=hs h1 (aP T) (ai H) hi hh hn a w hsat Q (wpOpsIn Fence.wide n P ops Q (List.range' (k+1) os.length++rest)) (fun a' w' hs'=>ih (k+1) rest (fun i hi=>by
   have:=hops (i+1) (by simp;omega)
   rw[show k+1+i=k+(i+1)by omega,this];simp) hnd1 h2 hk a' w' (by rw[ij,bw]at hs';exact hs'))
  rw[List.length_cons,List.range'_succ,List.cons_append]
  unfold wpOpsIn
  rw[ho]
  simp only
  split
  ·rename_i hw
   rw[if_pos hw]at this
   refine⟨fun _ _=>trivial,?_⟩
   rw[Oper.semAt_eq _ _ _ hnd0]
   exact y4 (fun _ _ h=>h) this
  ·rename_i hw
   rw[if_neg hw]at this
   exact⟨fun _ _=>trivial,this⟩
theorem wc{id:Nat}{pre post:List Oper}{o:Oper}{T1 T2 T3:List (Nat×D)}{H1 H2 H3:List (Nat×Hp)}{sps sps2:List Spec}(hpre:an P (pre++o::post).toArray c pre T H sps T1 H1)(hn1:iG pre=true)(hd1:eP c.n pre=true)
  (hg:o.guard=none)(ho:∀a w (K:Act->World->Prop),(∀a' w',Sat c (aP T2) (ai H2) a' w'->K a' w')->Sat c (aP T1) (ai H1) a w->o.wpIn Fence.wide n P a w K Q)
  (hpost:an P (pre++o::post).toArray c post T2 H2 sps2 T3 H3)(hn2:iG post=true)(hd2:eP c.n post=true)(hQ:∀a w,Sat c (aP T3) (ai H3) a w->Q .normal a w):Ok P c T H (.region id (pre++o::post).toArray false) Q:=by
 intro a w hs
 refine(wpIn_wide (n:=n)).1 (wpIn_region ?_)
 have e1:List.range (pre++o::post).toArray.size=List.range' 0 pre.length++(pre.length::(List.range' (pre.length+1) post.length++[])):=by
  rw[List.range_eq_range',List.append_nil]
  have:(pre++o::post).toArray.size=pre.length+(post.length+1):=by simp
  rw[this,←List.range'_append_1,List.range'_succ,Nat.zero_add]
 rw[e1]
 refine tv hpre 0 _ (fun i hi=>by simp[List.getElem?_append_left hi]) hn1 hd1 (fun a w hs=>?_) a w hs
 unfold wpOpsIn
 have e2:(pre++o::post).toArray[pre.length]?=some o:=by simp
 rw[e2]
 simp only
 rw[if_pos (bj hg _)]
 refine ho a w _ (fun a' w' hs'=>?_) hs
 refine tv hpost _ _ (fun i hi=>?_) hn2 hd2 (fun a w hs=>?_) a' w' hs'
 ·rw[List.getElem?_toArray,List.getElem?_append_right (by omega),show pre.length+1+i-pre.length=i+1 by omega,List.getElem?_cons_succ]
 ·exact hQ a w hs
theorem tJ{σ ρ α:Type}{l:Nat}{TC:List (Nat×D)}{tm:Array Value}{C:St σ ρ->List (Nat×Hp)}{dx:α->D}{step:σ->α->Option (St σ ρ)}{s:σ}{x0:α}{st:St σ ρ}{id nc:Nat}{pre post:List Oper}{x y:Operand}{dst:Option Nat}{ty:TypeId}{pos:String}{aft:Array Edge}{ats:Array TypeId}{T1 T3:List (Nat×D)}{H1 H3:List (Nat×Hp)}{sps sps2:List Spec}
  (hY:pC P l TC tm C dx step)(hst:step s x0=some st)(hdx:(dx x0).nm=[])
  (hpre:an P (pre++⟨dst,.call {callee:=.value x,args:=#[y],argTypes:=ats},ty,pos,aft,none⟩::post).toArray c pre T H sps T1 H1)
  (hx:ev T1 x=some (.lit (.func (.yield l) #[] #[])))(hy:ev T1 y=some (dx x0))(hH:ai H1 nc=some (.caller TC tm (C (.next s))))
  (hpost:an P (pre++⟨dst,.call {callee:=.value x,args:=#[y],argTypes:=ats},ty,pos,aft,none⟩::post).toArray c post (br T1 dst (.bool (nk st))) ((nc,.caller TC tm (C st))::H1) sps2 T3 H3)
  (hn1:iG pre=true)(hn2:iG post=true)(hd1:eP c.n pre=true)(hd2:eP c.n post=true)(hd:∀t,dst=some t->t<c.n)
  (hQ:∀a w,Sat c (aP T3) (ai H3) a w->Q .normal a w):Ok P c T H (.region id (pre++⟨dst,.call {callee:=.value x,args:=#[y],argTypes:=ats},ty,pos,aft,none⟩::post).toArray false) Q:=
 wc (n:=0) hpre hn1 hd1 rfl (fun _ _ _ hK hs=>Bo hY hst hx hy hdx hH hd hK hs) hpost hn2 hd2 hQ
end
theorem uU(a:Rat):aS PP 163 [] [qD a] [(1,Hp.box 28 (qC a))] (.pJ 223 [] [.ref 1 0]):=by
 refine .of Go.Proofs.Tryz.func163 rfl (by kernel_rfl) rfl rfl rfl rfl rfl rfl (fun A w0 L b=>?_)
 show Ok PP _ [(0,qD a)] [] _ _
 refine .al (.ie rfl rfl<|.aq rfl<|.nil) rfl ?_
 refine .al (.Gs (l:=[]) (m:=[.ref 1 0]) trivial ⟨rfl,trivial⟩<|.aq rfl<|.nil) rfl ?_
 exact .aH (fun _ _ hb=>hb) rfl (.cons (.tmp rfl) .nil) (.refl _) trivial (.of rfl)
def lA{σ ρ:Type}(step:σ->Rat->Option (St σ ρ))(x:Rat×σ):Option (St (Rat×σ) (Rat×St σ ρ)):=
 (ox x.1).bind fun n=>(step x.2 n).bind fun st=>match st with
  |.done r=>some (.done (x.1,.done r))
  |.next s=>(ky x.1 n).bind fun a=>(i_ a).bind fun g=>if(g==0)=true then some (.done (a,.next s))else(gz 1).bind fun one=>(gS one a).bind fun b=>some (.next (b,s))
theorem Ag(d:D):Le d .any:=⟨fun _ _ _ _ _=>trivial,fun r hr=>by cases hr⟩
theorem EM{σ ρ:Type}{l:Nat}{T:List (Nat×D)}{tm:Array Value}{C:St σ ρ->List (Nat×Hp)}{step:σ->Rat->Option (St σ ρ)}(hY:pC PP l T tm C qD step){a aE:Rat}{s0:σ}{cH:St σ ρ}(h:Loop (lA step) (a,s0)=some (aE,cH)):
  aS PP 223 [(0,.box 28 (qC a)),(1,.caller T tm (C (.next s0)))] [.lit (.func (.yield l) #[] #[]),.ref 0 0] [(0,.box 28 (qC aE)),(1,.caller T tm (C cH))] .any:=by
 refine .of Go.Proofs.Tryz.func223 rfl (by kernel_rfl) rfl rfl rfl rfl rfl rfl (fun A w0 L b=>?_)
 show Ok PP _ [(0,.lit (.func (.yield l) #[] #[])),(1,.ref 0 0),(1000000,.pinned 0 (b 0)),(1000001,.pinned 1 (b 1))] [(0,.box 28 (qC a)),(1,.caller T tm (C (.next s0)))] _ _
 refine .block (.b8 (fun(s:Rat×σ)=>[(0,D.lit (.func (.yield l) #[] #[])),(1,D.ref 0 0),(1000000,D.pinned 0 (b 0)),(1000001,D.pinned 1 (b 1))]) (fun(s:Rat×σ)=>[(0,Hp.box 28 (qC s.1)),(1,Hp.caller T tm (C (.next s.2)))]) h (.of rfl) (.of rfl) rfl rfl ?_)
 rintro⟨x,s⟩ st0 hb
 have h:lA step (x,s)=some st0:=hb
 clear hb
 unfold lA at h
 show Ok PP _ [(0,D.lit (.func (.yield l) #[] #[])),(1,D.ref 0 0),(1000000,D.pinned 0 (b 0)),(1000001,D.pinned 1 (b 1))] [(0,Hp.box 28 (qC x)),(1,Hp.caller T tm (C (.next s)))] _ _
 refine .block ?_
 obtain⟨v,e1,h⟩:=bind_some h
 refine .al (.b_ (qC x) rfl rfl ae rfl rfl<|.ah (yA e1) ⟨rfl,trivial⟩ trivial trivial<|.gd (qC (0)) aJ ⟨nr,nT,nS,trivial⟩ rfl<|.cH (qC v) rfl rfl rfl ae rfl rfl rfl<|.nil) rfl ?_
 obtain⟨st,hst,h⟩:=bind_some h
 refine .sq ?_
 refine .seq (K:=fun a w=>Sat ⟨A,w0.heap.size,w0,Go.Proofs.Tryz.f223.ntmps,L⟩ (aP [(9,D.bool (!nk st)),(0,D.lit (.func (.yield l) #[] #[])),(1,D.ref 0 0),(3,D.ref 3 0),(1000000,D.pinned 0 (b 0)),(1000001,D.pinned 1 (b 1))]) (ai [(0,Hp.box 28 (qC x)),(1,Hp.caller T tm (C st)),(3,Hp.box 28 (qC v))]) a w) ?_ ?_
 ·refine tJ (pre:=[_,_]) (post:=[_]) (nc:=1) hY hst rfl (.mv rfl<|.b_ (qC v) rfl rfl ae rfl rfl<|.nil) rfl rfl rfl (.not rfl<|.nil) rfl rfl rfl rfl (fun t ht=>by injection ht with ht;subst ht;exact Nat.le_of_ble_eq_true rfl) ?_
  exact fun a w hs=>hs.sub (.of rfl) (.of rfl) rfl rfl
 show Ok PP _ [(9,D.bool (!nk st)),(0,D.lit (.func (.yield l) #[] #[])),(1,D.ref 0 0),(3,D.ref 3 0),(1000000,D.pinned 0 (b 0)),(1000001,D.pinned 1 (b 1))] [(0,Hp.box 28 (qC x)),(1,Hp.caller T tm (C st)),(3,Hp.box 28 (qC v))] _ _
 cases st with
 |done r=>
  refine .cT rfl ?_
  refine .aH (Hi:=[(0,.box 28 (qC a)),(1,.caller T tm (C (.next s0)))]) (Ho:=[(0,.box 28 (qC x)),(1,.caller T tm (C (.done r)))]) (b:=b) (fn:=Go.Proofs.Tryz.f223) (d:=.any) (fun _ _ hb=>by
   refine⟨_,(Option.some.inj h).symm,fun e=>?_⟩
   injection e with e1 e2
   subst e1;subst e2
   exact hb) rfl .nil (Ag _) (.of rfl) (.of rfl)
 |next s'=>
  simp only at h
  refine .cF rfl (.skip (Ok.on ?_))
  obtain⟨v2,e2,h⟩:=bind_some h
  refine .sq ?_
  refine .al (.b_ (qC x) rfl rfl ae rfl rfl<|.b_ (qC v) rfl rfl ae rfl rfl<|.ah (sN e2) ⟨rfl,rfl,trivial⟩ trivial trivial<|.cH (qC v2) rfl rfl rfl ae rfl rfl rfl<|.nil) rfl ?_
  obtain⟨v3,e3,h⟩:=bind_some h
  refine .al (.b_ (qC v2) rfl rfl ae rfl rfl<|.ah (wA e3) ⟨rfl,trivial⟩ trivial trivial<|.cm rfl rfl rfl<|.nil) rfl ?_
  by_cases c1:(v3==0)=true
  ·replace h:=aa c1 h
   refine .cj rfl c1 ?_
   exact .aH (Hi:=[(0,.box 28 (qC a)),(1,.caller T tm (C (.next s0)))]) (Ho:=[(0,.box 28 (qC v2)),(1,.caller T tm (C (.next s')))]) (b:=b) (fn:=Go.Proofs.Tryz.f223) (d:=.any) (fun _ _ hb=>by
    refine⟨_,(Option.some.inj h).symm,fun e=>?_⟩
    injection e with e1 e2
    subst e1;subst e2
    exact hb) rfl .nil (Ag _) (.of rfl) (.of rfl)
  ·replace h:=ab c1 h
   refine .ck rfl c1 (.skip (Ok.on ?_))
   obtain⟨v4,e4,h⟩:=bind_some h
   obtain⟨v5,e5,h⟩:=bind_some h
   exact .c_ cg (.ah (kX e4) ⟨rfl,trivial⟩ trivial trivial<|.b_ (qC v2) rfl rfl ae rfl rfl<|.ah (nH e5) ⟨rfl,rfl,trivial⟩ trivial trivial<|.cH (qC v5) rfl rfl rfl ae rfl rfl rfl<|.nil) rfl (by kernel_rfl)
    (fun _ _ hs=>⟨(v5,s'),(Option.some.inj h).symm,hs.sub (.of rfl) (.of rfl) rfl rfl⟩)
def xI(T:List (Nat×D)):List (Nat×D)->Prop
 |[]=>True
 |(t,d)::l=>aP T t=some d/\xI T l
theorem pP{T:List (Nat×D)}:∀{l:List (Nat×D)},xI T l->∀t d,aP l t=some d->aP T t=some d
 |[],_,r,h,hh=>by cases hh
 |(r0,h0)::l,ha,r,h,hh=>by
  simp only[aP]at hh
  cases hb:Nat.beq r r0 with
  |true=>rw[hb]at hh;injection hh with hh;subst hh;rw[Nat.eq_of_beq_eq_true hb];exact ha.1
  |false=>rw[hb]at hh;exact pP ha.2 r h hh
theorem vY{σ ρ:Type}{j:Nat}{Q:Exit->Act->World->Prop}{st:St σ ρ}{a:Act}{w:World}(h:Q .normal a w):Exit.inBlock j Q (xT j st) a w:=by
 cases st with
 |next s=>exact h
 |done r=>exact aZ h
abbrev Ns:=Rat×Rat×Rat×Rat
def Ns.fin:St Ns Ns->Ns
 |.next s=>s
 |.done s=>s
def k8(most:Int)(s:Ns)(n:Rat):Option (St Ns Ns):=
 (iR n s.2.1).bind fun v32=>(lT v32 s.2.2.2).bind fun v34=>(gz most).bind fun v37=>(mF v34 v37).bind fun v38=>
  if(decide (v38>0))=true then(gz most).bind fun v41=>(ky v41 s.2.2.2).bind fun v43=>(gS v43 s.2.1).bind fun v45=>(ox v45).bind fun v46=>(iR v46 s.1).bind fun v49=>(lT v49 s.2.2.1).bind fun v51=>(iR v46 s.2.1).bind fun v54=>(lT v54 s.2.2.2).bind fun v56=>some (.done (v51,v56,s.1,s.2.1))
  else(iR n s.1).bind fun v61=>(lT v61 s.2.2.1).bind fun v63=>some (.next (v63,v34,s.1,s.2.1))
def uC(a:Rat)(most:Int):Option (Rat×Int):=
 if(decide (most<1))=true then some (0,3)else(rR a).bind fun v17=>(gz most).bind fun v19=>(mF v17 v19).bind fun v20=>if(decide (v20<=0))=true then some (a,0)else(gz 1).bind fun v23=>(gz 0).bind fun v24=>
  (Loop (lA (k8 most)) (a,(v23,v24,v24,v23))).bind fun x=>(gS (Ns.fin x.2).1 (Ns.fin x.2).2.1).bind fun v70=>(gS (Ns.fin x.2).2.2.1 (Ns.fin x.2).2.2.2).bind fun v73=>(l5 a v70 v73).bind fun r=>some (r,0)
def zT(a:Rat)(most:Int)(st:St Ns Ns):List (Nat×Hp):=
 [(2,Hp.box 28 (qC a)),(3,Hp.box 2 [D.int .i64 most]),(4,Hp.box 28 (qC 0)),(6,Hp.box 28 (qC (Ns.fin st).1)),(7,Hp.box 28 (qC (Ns.fin st).2.1)),(8,Hp.box 28 (qC (Ns.fin st).2.2.1)),(9,Hp.box 28 (qC (Ns.fin st).2.2.2))]
def DM:List (Nat×D):=[(2,D.ref 2 0),(3,D.ref 3 0),(4,D.ref 4 0),(6,D.ref 6 0),(7,D.ref 7 0),(8,D.ref 8 0),(9,D.ref 9 0)]
theorem Ed{a:Rat}{most:Int}{r:Rat}{e:Int}(h:uC a most=some (r,e)):aS PP 28 [] [qD a,D.int .i64 most] [] (D.iC [qD r,D.int .i64 e]):=by
 unfold uC at h
 refine .ofM Go.Proofs.Tryz.func28 rfl (by kernel_rfl) rfl rfl rfl rfl rfl rfl (fun A w0 L b=>?_)
 show Ok PP _ [(0,qD a),(1,D.int .i64 most)] [] _ _
 refine .al (.ie rfl rfl<|.GP rfl rfl rfl<|.gd (qC (0)) aJ ⟨nr,nT,nS,trivial⟩ rfl<|.aq rfl<|.nil) rfl ?_
 refine .sq ?_
 refine .al (.bg (D.int .i64 most) rfl rfl gE rfl<|.cm rfl rfl rfl<|.nil) rfl ?_
 by_cases c1:(decide (most<1))=true
 ·replace h:=aa c1 h
  refine .cj rfl c1 ?_
  refine .al (.nW (qC (0)) [] aJ cR trivial trivial ⟨nr,nT,nS,trivial⟩<|.cH (qC (0)) rfl rfl rfl ae rfl rfl rfl<|.aq rfl<|.nil) rfl ?_
  cases h
  exact .aH vC rfl (.cons (.agg rfl rfl ae rfl) (.cons (.tmp rfl) .nil)) (.refl _) trivial trivial
 replace h:=ab c1 h
 refine .ck rfl c1 (.skip (Ok.on ?_))
 obtain⟨v17,e17,h⟩:=bind_some h
 obtain⟨v19,e19,h⟩:=bind_some h
 obtain⟨v20,e20,h⟩:=bind_some h
 refine .sq ?_
 refine .dc cg (.b_ (qC (a)) rfl rfl ae rfl rfl<|.ah (Aa e17) ⟨rfl,trivial⟩ trivial trivial<|.bg (D.int .i64 most) rfl rfl gE rfl<|.ah (kX e19) ⟨rfl,trivial⟩ trivial trivial<|.ah (ve e20) ⟨rfl,rfl,trivial⟩ trivial trivial<|.cm rfl rfl rfl<|.nil) rfl (by kernel_rfl) ?_
 by_cases c2:(decide (v20<=0))=true
 ·replace h:=aa c2 h
  refine .cj rfl c2 ?_
  refine .al (.b_ (qC (a)) rfl rfl ae rfl rfl<|.cH (qC (a)) rfl rfl rfl ae rfl rfl rfl<|.aq rfl<|.nil) rfl ?_
  cases h
  exact .aH vC rfl (.cons (.agg rfl rfl ae rfl) (.cons (.tmp rfl) .nil)) (.refl _) trivial trivial
 replace h:=ab c2 h
 refine .ck rfl c2 (.skip (Ok.on ?_))
 obtain⟨v23,e23,h⟩:=bind_some h
 obtain⟨v24,e24,h⟩:=bind_some h
 refine .al (.ah (kX e23) ⟨rfl,trivial⟩ trivial trivial<|.ah (kX e24) ⟨rfl,trivial⟩ trivial trivial<|.ah (kX e24) ⟨rfl,trivial⟩ trivial trivial<|.ah (kX e23) ⟨rfl,trivial⟩ trivial trivial<|.gd (qC (0)) aJ ⟨nr,nT,nS,trivial⟩ rfl<|.gd (qC (0)) aJ ⟨nr,nT,nS,trivial⟩ rfl<|.gd (qC (0)) aJ ⟨nr,nT,nS,trivial⟩ rfl<|.gd (qC (0)) aJ ⟨nr,nT,nS,trivial⟩ rfl<|.cH (qC (v23)) rfl rfl rfl ae rfl rfl rfl<|.cH (qC (v24)) rfl rfl rfl ae rfl rfl rfl<|.cH (qC (v24)) rfl rfl rfl ae rfl rfl rfl<|.cH (qC (v23)) rfl rfl rfl ae rfl rfl rfl<|.nil) rfl ?_
 refine .sq ?_
 refine .al (.b_ (qC (a)) rfl rfl ae rfl rfl<|.ah (uU a) ⟨rfl,trivial⟩ trivial ⟨rfl,trivial⟩<|.nil) rfl ?_
 obtain⟨⟨aE,cH⟩,hl,h⟩:=bind_some h
 refine .block ?_
 refine Ok.Eh (σ:=Ns) (ρ:=Ns) (α:=Rat) (rb:=1) (tb:=28) (j:=0) (rd:=900) (dd:=901) (lb:=qC a) (lb':=qC aE) (C:=zT a most) (dx:=qD) (step:=k8 most) (s0:=(v23,v24,v24,v23)) (cH:=cH) DM [2,3,4,6,7,8,9]
  rfl (by kernel_rfl) rfl rfl ?_ ?_ rfl rfl rfl rfl (fun _=>rfl) (fun _ _ _ _=>rfl) (fun _ _=>rfl) (fun _=>rfl) (Nat.le_of_ble_eq_true rfl) (fun l b fn tm hY=>EM hY hl)
  (fun x=>[(10,Hp.box 28 (qC x))]) (fun β _ _ _=>[(10,D.ref 10 0),(2,D.ref 2 0),(3,D.ref 3 0),(4,D.ref 4 0),(6,D.ref 6 0),(7,D.ref 7 0),(8,D.ref 8 0),(9,D.ref 9 0)]++pins β [900,901,2,3,4,6,7,8,9]) ?_ ?_ ?_ ?_
 ·exact pP ⟨rfl,rfl,rfl,rfl,rfl,rfl,rfl,trivial⟩
 ·exact sr ⟨rfl,rfl,rfl,rfl,rfl,rfl,rfl,trivial⟩
 ·exact fun β l b x=>(.of rfl)
 ·-- the left side
  intro l b o s x st hst A w0 L β
  refine kI.region (fun⟨_,_,hf⟩=>hf.elim) rfl (.gd (qC (0)) aJ ⟨nr,nT,nS,trivial⟩ rfl<|.cH (qC (x)) rfl rfl rfl ae rfl rfl rfl<|.nil) rfl (fun a' w' hs=>hs.sub (T':=[(10,D.ref 10 0),(2,D.ref 2 0),(3,D.ref 3 0),(4,D.ref 4 0),(6,D.ref 6 0),(7,D.ref 7 0),(8,D.ref 8 0),(9,D.ref 9 0),(1000900,D.pinned 900 (β 900)),(1000901,D.pinned 901 (β 901)),(1000002,D.pinned 2 (β 2)),(1000003,D.pinned 3 (β 3)),(1000004,D.pinned 4 (β 4)),(1000006,D.pinned 6 (β 6)),(1000007,D.pinned 7 (β 7)),(1000008,D.pinned 8 (β 8)),(1000009,D.pinned 9 (β 9))]) (H':=bX 900 901 o (zT a most) (.next s)++[(10,Hp.box 28 (qC x))]) (.of rfl) (.of rfl) rfl rfl)
 ·-- the body
  intro l b o s n st hst A w0 L β
  obtain⟨p,q,lp,lq⟩:=s
  unfold k8 at hst
  simp only at hst
  show kI PP _ [(10,D.ref 10 0),(2,D.ref 2 0),(3,D.ref 3 0),(4,D.ref 4 0),(6,D.ref 6 0),(7,D.ref 7 0),(8,D.ref 8 0),(9,D.ref 9 0),(1000900,D.pinned 900 (β 900)),(1000901,D.pinned 901 (β 901)),(1000002,D.pinned 2 (β 2)),(1000003,D.pinned 3 (β 3)),(1000004,D.pinned 4 (β 4)),(1000006,D.pinned 6 (β 6)),(1000007,D.pinned 7 (β 7)),(1000008,D.pinned 8 (β 8)),(1000009,D.pinned 9 (β 9))] [(900,Hp.obj o),(901,Hp.obj (.deferred (some []))),(2,Hp.box 28 (qC a)),(3,Hp.box 2 [D.int .i64 most]),(4,Hp.box 28 (qC 0)),(6,Hp.box 28 (qC p)),(7,Hp.box 28 (qC q)),(8,Hp.box 28 (qC lp)),(9,Hp.box 28 (qC lq)),(10,Hp.box 28 (qC n))] _ _
  refine .block ?_
  obtain⟨v32,e32,hst⟩:=bind_some hst
  obtain⟨v34,e34,hst⟩:=bind_some hst
  obtain⟨v37,e37,hst⟩:=bind_some hst
  obtain⟨v38,e38,hst⟩:=bind_some hst
  refine .dc (by rintro⟨_,_,hf⟩;exact hf) rfl cg (.b_ (qC (n)) rfl rfl ae rfl rfl<|.b_ (qC (q)) rfl rfl ae rfl rfl<|.ah (oN e32) ⟨rfl,rfl,trivial⟩ trivial trivial<|.b_ (qC (lq)) rfl rfl ae rfl rfl<|.ah (pQ e34) ⟨rfl,rfl,trivial⟩ trivial trivial<|.gd (qC (0)) aJ ⟨nr,nT,nS,trivial⟩ rfl<|.cH (qC (v34)) rfl rfl rfl ae rfl rfl rfl<|.nil) rfl (by kernel_rfl) ?_
  refine .sq ?_
  refine .dc (by rintro⟨_,_,hf⟩;exact hf) rfl cg (.b_ (qC (v34)) rfl rfl ae rfl rfl<|.bg (D.int .i64 most) rfl rfl gE rfl<|.ah (kX e37) ⟨rfl,trivial⟩ trivial trivial<|.ah (ve e38) ⟨rfl,rfl,trivial⟩ trivial trivial<|.cm rfl rfl rfl<|.nil) rfl (by kernel_rfl) ?_
  by_cases c3:(decide (v38>0))=true
  ·replace hst:=aa c3 hst
   refine .cj rfl c3 ?_
   obtain⟨v41,e41,hst⟩:=bind_some hst
   obtain⟨v43,e43,hst⟩:=bind_some hst
   obtain⟨v45,e45,hst⟩:=bind_some hst
   obtain⟨v46,e46,hst⟩:=bind_some hst
   obtain⟨v49,e49,hst⟩:=bind_some hst
   obtain⟨v51,e51,hst⟩:=bind_some hst
   obtain⟨v54,e54,hst⟩:=bind_some hst
   obtain⟨v56,e56,hst⟩:=bind_some hst
   refine .dc (by rintro⟨_,_,hf⟩;exact hf) rfl cg (.bg (D.int .i64 most) rfl rfl gE rfl<|.ah (kX e41) ⟨rfl,trivial⟩ trivial trivial<|.b_ (qC (lq)) rfl rfl ae rfl rfl<|.ah (sN e43) ⟨rfl,rfl,trivial⟩ trivial trivial<|.b_ (qC (q)) rfl rfl ae rfl rfl<|.ah (nH e45) ⟨rfl,rfl,trivial⟩ trivial trivial<|.ah (yA e46) ⟨rfl,trivial⟩ trivial trivial<|.gd (qC (0)) aJ ⟨nr,nT,nS,trivial⟩ rfl<|.cH (qC (v46)) rfl rfl rfl ae rfl rfl rfl<|.nil) rfl (by kernel_rfl) ?_
   refine .dc (by rintro⟨_,_,hf⟩;exact hf) rfl cg (.b_ (qC (v46)) rfl rfl ae rfl rfl<|.b_ (qC (p)) rfl rfl ae rfl rfl<|.ah (oN e49) ⟨rfl,rfl,trivial⟩ trivial trivial<|.b_ (qC (lp)) rfl rfl ae rfl rfl<|.ah (pQ e51) ⟨rfl,rfl,trivial⟩ trivial trivial<|.b_ (qC (v46)) rfl rfl ae rfl rfl<|.b_ (qC (q)) rfl rfl ae rfl rfl<|.ah (oN e54) ⟨rfl,rfl,trivial⟩ trivial trivial<|.b_ (qC (lq)) rfl rfl ae rfl rfl<|.ah (pQ e56) ⟨rfl,rfl,trivial⟩ trivial trivial<|.b_ (qC (p)) rfl rfl ae rfl rfl<|.b_ (qC (q)) rfl rfl ae rfl rfl<|.cH (qC (v51)) rfl rfl rfl ae rfl rfl rfl<|.cH (qC (v56)) rfl rfl rfl ae rfl rfl rfl<|.cH (qC (p)) rfl rfl rfl ae rfl rfl rfl<|.cH (qC (q)) rfl rfl rfl ae rfl rfl rfl<|.nil) rfl (by kernel_rfl) ?_
   have e0:=Option.some.inj hst
   subst e0
   exact .exit (fun a' w' hs=>⟨rfl,⟨_,rfl⟩,[(1000900,D.pinned 900 (β 900)),(1000901,D.pinned 901 (β 901)),(1000002,D.pinned 2 (β 2)),(1000003,D.pinned 3 (β 3)),(1000004,D.pinned 4 (β 4)),(1000006,D.pinned 6 (β 6)),(1000007,D.pinned 7 (β 7)),(1000008,D.pinned 8 (β 8)),(1000009,D.pinned 9 (β 9))],(.of rfl),hs.sub (.of rfl) (.of rfl) rfl rfl⟩)
  ·replace hst:=ab c3 hst
   refine .ck rfl c3 (.skip (kI.on ?_))
   obtain⟨v61,e61,hst⟩:=bind_some hst
   obtain⟨v63,e63,hst⟩:=bind_some hst
   have e0:=Option.some.inj hst
   subst e0
   exact .c_ (by rintro⟨_,_,hf⟩;exact hf) rfl cg (.b_ (qC (n)) rfl rfl ae rfl rfl<|.b_ (qC (p)) rfl rfl ae rfl rfl<|.ah (oN e61) ⟨rfl,rfl,trivial⟩ trivial trivial<|.b_ (qC (lp)) rfl rfl ae rfl rfl<|.ah (pQ e63) ⟨rfl,rfl,trivial⟩ trivial trivial<|.b_ (qC (v34)) rfl rfl ae rfl rfl<|.b_ (qC (p)) rfl rfl ae rfl rfl<|.b_ (qC (q)) rfl rfl ae rfl rfl<|.cH (qC (v63)) rfl rfl rfl ae rfl rfl rfl<|.cH (qC (v34)) rfl rfl rfl ae rfl rfl rfl<|.cH (qC (p)) rfl rfl rfl ae rfl rfl rfl<|.cH (qC (q)) rfl rfl rfl ae rfl rfl rfl<|.nil) rfl (by kernel_rfl)
    (fun a' w' hs=>⟨⟨_,rfl⟩,[(1000900,D.pinned 900 (β 900)),(1000901,D.pinned 901 (β 901)),(1000002,D.pinned 2 (β 2)),(1000003,D.pinned 3 (β 3)),(1000004,D.pinned 4 (β 4)),(1000006,D.pinned 6 (β 6)),(1000007,D.pinned 7 (β 7)),(1000008,D.pinned 8 (β 8)),(1000009,D.pinned 9 (β 9))],(.of rfl),hs.sub (.of rfl) (.of rfl) rfl rfl⟩)
 ·-- behind the loop
  intro l b o a' w' hd hs
  obtain⟨v70,e70,h⟩:=bind_some h
  obtain⟨v73,e73,h⟩:=bind_some h
  obtain⟨rr,er,h⟩:=bind_some h
  have hs':Sat _ (aP ((2000001,D.pinned 901 (ptrTo b))::DM)) (ai ((901,Hp.obj (.deferred (some [])))::zT a most cH)) _ _:=hs.sub (.of rfl) (.of rfl) rfl rfl
  refine vY ?_
  show Code.wp PP _ _ a' w'
  refine(show DS PP [mark b] ⟨A,w0.heap.size,w0,_,L⟩ [(2000001,D.pinned 901 (ptrTo b)),(2,D.ref 2 0),(3,D.ref 3 0),(4,D.ref 4 0),(6,D.ref 6 0),(7,D.ref 7 0),(8,D.ref 8 0),(9,D.ref 9 0)] [(901,Hp.obj (.deferred (some []))),(2,Hp.box 28 (qC a)),(3,Hp.box 2 [D.int .i64 most]),(4,Hp.box 28 (qC 0)),(6,Hp.box 28 (qC (Ns.fin cH).1)),(7,Hp.box 28 (qC (Ns.fin cH).2.1)),(8,Hp.box 28 (qC (Ns.fin cH).2.2.1)),(9,Hp.box 28 (qC (Ns.fin cH).2.2.2))] _ _ from ?_) a' w' hd hs'
  refine DS.dc cg (.b_ (qC (a)) rfl rfl ae rfl rfl<|.b_ (qC ((Ns.fin cH).1)) rfl rfl ae rfl rfl<|.b_ (qC ((Ns.fin cH).2.1)) rfl rfl ae rfl rfl<|.ah (nH e70) ⟨rfl,rfl,trivial⟩ trivial trivial<|.b_ (qC ((Ns.fin cH).2.2.1)) rfl rfl ae rfl rfl<|.b_ (qC ((Ns.fin cH).2.2.2)) rfl rfl ae rfl rfl<|.ah (nH e73) ⟨rfl,rfl,trivial⟩ trivial trivial<|.ah (Bu er) ⟨rfl,rfl,rfl,trivial⟩ trivial trivial<|.cH (qC (rr)) rfl rfl rfl ae rfl rfl rfl<|.aq rfl<|.nil) rfl (by kernel_rfl) ?_
  intro a2 w2 hd2 hs2
  cases h
  refine wp_ret ?_
  have hs3:=hs2.sub (T':=[(2000001,D.pinned 901 (ptrTo b)),(4,D.ref 4 0),(5,D.int .i64 0)]) (H':=[(901,Hp.obj (.deferred (some []))),(4,Hp.box 28 (qC r))]) (.of rfl) (.of rfl) rfl rfl
  exact Sat.Gq hd2 hs3 (fun ε φ hs=>hs.t 2000001 _ rfl) rfl (.cons (.agg rfl rfl ae rfl) (.cons (.tmp rfl) .nil)) (.refl _) trivial trivial
end
end Go.Am
namespace Go.Am
theorem Ef(x:Rat):1<=sz x:=by
 have h:=x.den_nz
 have h1:bA 1<=bA x.den:=cW (by omega)
 rw[mf]at h1
 exact Nat.le_trans h1 (Nat.le_max_right _ _)
theorem qQ(a b:Rat):sz (a/b)<=sz a+sz b:=by
 by_cases h:b=0
 ·subst h
  have e:a/0=0:=by rw[Rat.div_def,Rat.inv_zero,Rat.mul_zero]
  have:=Ef a
  rw[e]
  have e2:sz (0:Rat)=1:=rfl
  omega
 ·exact ET a b h
theorem Gi(a:Rat):a<=(((a.num.natAbs:Nat):Int):Rat)/\-a<=(((a.num.natAbs:Nat):Int):Rat):=by
 have hd:(0:Rat)<(((a.den:Nat):Int):Rat):=by
  have:=a.den_nz
  exact_mod_cast (by omega:(0:Int)<((a.den:Nat):Int))
 have key:∀z:Int,z<=((a.num.natAbs:Nat):Int)->(z:Rat)/(((a.den:Nat):Int):Rat)<=(((a.num.natAbs:Nat):Int):Rat):=by
  intro z hz
  apply Rat.not_lt.1
  intro h
  rw[Rat.lt_div_iff hd]at h
  have h2:(((a.num.natAbs:Nat):Int)*((a.den:Nat):Int))<z:=by exact_mod_cast h
  have h3:((a.num.natAbs:Nat):Int)*1<=((a.num.natAbs:Nat):Int)*((a.den:Nat):Int):=Int.mul_le_mul_of_nonneg_left (by have:=a.den_nz;omega) (by omega)
  omega
 have e:=qA a
 refine⟨?_,?_⟩
 ·have:=key a.num (by omega)
  rw[e]at this;exact this
 ·have:=key (-a.num) (by omega)
  have e2:((-a.num:Int):Rat)/(((a.den:Nat):Int):Rat)=-a:=by
   rw[show((-a.num:Int):Rat)=-(a.num:Rat)by simp]
   have:-(a.num:Rat)/(((a.den:Nat):Int):Rat)=-((a.num:Rat)/(((a.den:Nat):Int):Rat)):=by grind
   rw[this,e]
  rw[e2]at this;exact this
theorem zC{a:Rat}{p q most:Int}(hq:0<=q)(hm:q<=most)(h1:a*(q:Rat)-(p:Rat)<=1)(h2:-1<=a*(q:Rat)-(p:Rat)):p.natAbs<=a.num.natAbs*most.toNat+1:=by
 obtain⟨a1,a2⟩:=Gi a
 have hqr:(0:Rat)<=(q:Rat):=by exact_mod_cast hq
 generalize a.num.natAbs=N at*
 have b1:a*(q:Rat)<=((N:Int):Rat)*(q:Rat):=Rat.mul_le_mul_of_nonneg_right a1 hqr
 have b2:-a*(q:Rat)<=((N:Int):Rat)*(q:Rat):=Rat.mul_le_mul_of_nonneg_right a2 hqr
 have c1:(p:Rat)<=((N:Int):Rat)*(q:Rat)+1:=by grind
 have c2:-(p:Rat)<=((N:Int):Rat)*(q:Rat)+1:=by grind
 have d1:p<=(N:Int)*q+1:=by exact_mod_cast c1
 have d2:-p<=(N:Int)*q+1:=by exact_mod_cast c2
 have d3:(N:Int)*q<=(N:Int)*most:=Int.mul_le_mul_of_nonneg_left hm (by omega)
 obtain⟨m,rfl⟩:=Int.eq_ofNat_of_zero_le (show 0<=most by omega)
 rw[Int.toNat_natCast]
 have d4:((N*m:Nat):Int)=(N:Int)*(m:Int):=Int.natCast_mul N m
 omega
theorem Gv{a:Rat}{most:Int}{t:Rat}{p q lp lq:Int}(h:CF a most t p q lp lq)(hq1:1<=q):p.natAbs<=a.num.natAbs*most.toNat+1:=by
 have ht:1<=t:=by
  rcases h.one with⟨e1,_⟩|⟨_,e2⟩
  ·omega
  ·exact e2
 have hqr:(1:Rat)<=(q:Rat):=by exact_mod_cast hq1
 have hlqr:(0:Rat)<=(lq:Rat):=by exact_mod_cast h.zQ
 have hW:1<=t*(q:Rat)+(lq:Rat):=by
  have:=Rat.mul_le_mul_of_nonneg_right ht (show(0:Rat)<=(q:Rat)by grind)
  grind
 have hrel:=h.rel
 have f1:(a*q-p)*(t*q+lq)=-((p*lq-lp*q:Int):Rat):=by
  have:((p*lq-lp*q:Int):Rat)=(p:Rat)*lq-lp*q:=by simp
  rw[this];grind
 have hdet:((p*lq-lp*q:Int):Rat)=1\/((p*lq-lp*q:Int):Rat)=-1:=by
  rcases h.FX with e|e<;>rw[e]<;>simp
 have hu:∀u:Rat,u*(t*q+lq)<=1->u<=1:=fun u hu=>Rat.not_lt.1 (fun hc=>by
  have:=Rat.mul_le_mul_of_nonneg_left hW (show(0:Rat)<=u by grind)
  grind)
 refine zC h.hq h.mq (hu _ ?_) ?_
 ·rcases hdet with e|e<;>rw[e]at f1<;>grind
 ·have:=hu (-(a*q-p)) (by rcases hdet with e|e<;>rw[e]at f1<;>grind)
  grind
theorem C7(t:Rat):t-(t.floor:Rat)=mkRat (t.num%(t.den:Int)) t.den:=by
 have hd:(((t.den:Nat):Int):Rat)≠0:=by
  have:=t.den_nz
  exact_mod_cast (by omega:((t.den:Nat):Int)≠0)
 rw[Rat.mkRat_eq_div]
 have e1:=qA t
 have e2:t.floor=t.num/(t.den:Int):=Rat.floor_def t
 have e3:((t.num:Int):Rat)=(((t.den:Nat):Int):Rat)*((t.num/(t.den:Int):Int):Rat)+((t.num%(t.den:Int):Int):Rat):=by
  have:=(Int.mul_ediv_add_emod t.num (t.den:Int)).symm
  exact_mod_cast this
 have e4:((t.den:Nat):Rat)=(((t.den:Nat):Int):Rat):=rfl
 rw[e2,e4]
 generalize ((t.num:Int):Rat)=N at*
 generalize (((t.den:Nat):Int):Rat)=D at*
 generalize ((t.num/(t.den:Int):Int):Rat)=F at*
 generalize ((t.num%(t.den:Int):Int):Rat)=R at*
 rw[←e1,e3]
 grind
theorem Bs(t:Rat)(h:t-(t.floor:Rat)≠0):(1/(t-(t.floor:Rat))).den<t.den/\sz (1/(t-(t.floor:Rat)))<=sz t:=by
 rw[C7]at h|-
 have hd:=t.den_nz
 have hr0:t.num%(t.den:Int)≠0:=fun e=>h (by rw[e];simp)
 have hr1:=Int.emod_nonneg t.num (show(t.den:Int)≠0 by omega)
 have hr2:=Int.emod_lt_of_pos t.num (show 0<(t.den:Int)by omega)
 obtain⟨r,hr⟩:=Int.eq_ofNat_of_zero_le hr1
 rw[hr]at h hr0 hr2|-
 have e:1/mkRat (r:Int) t.den=mkRat (t.den:Int) r:=by
  rw[Rat.mkRat_eq_div,Rat.mkRat_eq_div]
  have h1:((r:Nat):Rat)≠0:=by
   have:((r:Nat):Int)≠0:=hr0
   exact_mod_cast this
  have h2:((t.den:Nat):Rat)≠0:=by exact_mod_cast hd
  have e3:(((r:Nat):Int):Rat)=((r:Nat):Rat):=rfl
  have e4:(((t.den:Nat):Int):Rat)=((t.den:Nat):Rat):=rfl
  rw[e3,e4];grind
 rw[e]
 have hs:=(gA.1 (Nat.le_refl (sz t))).2
 refine⟨Nat.lt_of_le_of_lt (i5 _ _ (by omega)) (by omega),DD _ _ _ (by omega) (by rw[Int.natAbs_natCast];exact hs) (Nat.le_trans (cW (by omega)) hs)⟩
theorem A3(x y:Rat):iD ((x.den:Nat):Rat) ((y.den:Nat):Rat)=fg x.den y.den:=by
 unfold iD fg
 have h1:(((x.den:Nat):Rat)<((y.den:Nat):Rat))↔x.den<y.den:=by exact_mod_cast Iff.rfl
 have h2:(((y.den:Nat):Rat)<((x.den:Nat):Rat))↔y.den<x.den:=by exact_mod_cast Iff.rfl
 simp only[h1,h2]
theorem zA(a x y:Rat)(ha:sz a<=100000000000)(hx:sz x<=110000000000)(hy:sz y<=110000000000):∃r,l5 a x y=some r/\(r=x\/r=y)/\¬better a x r/\¬better a y r:=by
 have qa:eC a:=Nat.le_trans ha (by omega)
 have qx:eC x:=Nat.le_trans hx (by omega)
 have qy:eC y:=Nat.le_trans hy (by omega)
 have q1:eC (iL (x-a)):=by have:=qW x a;unfold eC;rw[xR];omega
 have q2:eC (iL (y-a)):=by have:=qW y a;unfold eC;rw[xR];omega
 have q3:eC ((x.den:Nat):Rat):=by have:=wN x;unfold eC;omega
 have q4:eC ((y.den:Nat):Rat):=by have:=wN y;unfold eC;omega
 have eA:∀v:Rat,yB v=some (iL v):=fun v=>rfl
 have e1:ky x a=some (x-a):=aQ ⟨qx,qa⟩
 have e2:ky y a=some (y-a):=aQ ⟨qy,qa⟩
 have e3:mF (iL (x-a)) (iL (y-a))=some (iD (iL (x-a)) (iL (y-a))):=aQ ⟨q1,q2⟩
 have e4:rR x=some (x.den:Rat):=aQ qx
 have e5:rR y=some (y.den:Rat):=aQ qy
 have e6:mF ((x.den:Nat):Rat) ((y.den:Nat):Rat)=some (fg x.den y.den):=by rw[←A3];exact aQ ⟨q3,q4⟩
 have e7:mF x y=some (iD x y):=aQ ⟨qx,qy⟩
 unfold l5
 simp only[e1,e2,eA,e3,e4,e5,e6,e7,Option.bind_some]
 have t1:∀u v:Rat,(iD u v=-1/\u<v)\/(iD u v=1/\v<u)\/(iD u v=0/\u=v):=by intro u v;unfold iD;grind
 have t2:∀u v:Nat,(fg u v=-1/\u<v)\/(fg u v=1/\v<u)\/(fg u v=0/\u=v):=by intro u v;unfold fg;grind
 have c1:=t1 (iL (x-a)) (iL (y-a))
 have c2:=t2 x.den y.den
 have c3:=t1 x y
 clear t1 t2 e1 e2 eA e3 e4 e5 e6 e7 q1 q2 q3 q4 qa qx qy ha hx hy
 rcases c1 with⟨h1,k1⟩|⟨h1,k1⟩|⟨h1,k1⟩
 ·rw[h1];exact⟨x,rfl,.inl rfl,by unfold better;grind,by unfold better;grind⟩
 ·rw[h1];exact⟨y,rfl,.inr rfl,by unfold better;grind,by unfold better;grind⟩
 ·rw[h1]
  rcases c2 with⟨h2,k2⟩|⟨h2,k2⟩|⟨h2,k2⟩
  ·rw[h2];exact⟨x,rfl,.inl rfl,by unfold better;grind,by unfold better;grind⟩
  ·rw[h2];exact⟨y,rfl,.inr rfl,by unfold better;grind,by unfold better;grind⟩
  ·rw[h2]
   rcases c3 with⟨h3,k3⟩|⟨h3,k3⟩|⟨h3,k3⟩
   ·rw[h3];exact⟨x,rfl,.inl rfl,by unfold better;grind,by unfold better;grind⟩
   ·rw[h3];exact⟨y,rfl,.inr rfl,by unfold better;grind,by unfold better;grind⟩
   ·rw[h3];exact⟨y,rfl,.inr rfl,by unfold better;grind,by unfold better;grind⟩
def nI(a:Rat)(most:Int)(x:Rat×Ns):Prop:=∃p q lp lq:Int,x.2=((p:Rat),(q:Rat),(lp:Rat),(lq:Rat))/\CF a most x.1 p q lp lq/\sz x.1<=sz a/\sz ((p:Int):Rat)<=sz a+80/\sz ((lp:Int):Rat)<=sz a+80
def nQ(a:Rat)(most:Int)(r:Rat×St Ns Ns):Prop:=(Ns.fin r.2).2.1≠0/\(Ns.fin r.2).2.2.2≠0/\sz (Ns.fin r.2).1<=3*sz a+10000/\sz (Ns.fin r.2).2.1<=10000/\sz (Ns.fin r.2).2.2.1<=3*sz a+10000/\sz (Ns.fin r.2).2.2.2<=10000/\
 ∀z,(z=(Ns.fin r.2).1/(Ns.fin r.2).2.1\/z=(Ns.fin r.2).2.2.1/(Ns.fin r.2).2.2.2)->¬better a ((Ns.fin r.2).1/(Ns.fin r.2).2.1) z->¬better a ((Ns.fin r.2).2.2.1/(Ns.fin r.2).2.2.2) z->wM a most.toNat z
theorem oO{q most:Int}(h0:0<=q)(h:q<=most)(hm:eE most):sz ((q:Int):Rat)<=65:=by
 unfold eE at hm
 exact Nat.le_trans (ph q) (Nat.succ_le_succ (dI (n:=64) (by omega)))
theorem Gk{a:Rat}{most:Int}(hm:eE most){p:Int}(h:p.natAbs<=a.num.natAbs*most.toNat+1):sz ((p:Int):Rat)<=sz a+80:=by
 unfold eE at hm
 have h1:bA most.toNat<=64:=dI (by omega)
 have h2:=cA (gA.1 (Nat.le_refl (sz a))).1 h1
 have h3:bA 1<=sz a+64:=by rw[mf];omega
 have h4:=Nat.le_trans (cW h) (oo h2 h3)
 have:=ph p
 omega
theorem zf(a:Rat)(most:Int)(ha:sz a<=10000000000)(hm:eE most)(h1:1<=most)(hden:most<(a.den:Int)):
  ∃r,Loop (lA (k8 most)) (a,((1:Rat),(0:Rat),(0:Rat),(1:Rat)))=some r/\nQ a most r:=by
 refine bI (body:=lA (k8 most)) (a,((1:Rat),(0:Rat),(0:Rat),(1:Rat))) (nI a most) (fun x=>x.1.den) (nQ a most) ⟨1,0,0,1,by simp,AW a most h1,Nat.le_refl _,?_,?_⟩ ?_
 ·have:=ph 1
  have e:bA (1:Int).natAbs=1:=rfl
  omega
 ·have:=ph 0
  have e:bA (0:Int).natAbs=0:=rfl
  omega
 rintro⟨t,s⟩ ⟨p,q,lp,lq,rfl,hc,ht,hp,hlp⟩
 simp only at hc ht
 have hq:=oO hc.hq hc.mq hm
 have zQ:=oO hc.zQ hc.Gn hm
 have hmm:=oO (show 0<=most by omega) (Int.le_refl most) hm
 have hf:=wq t
 have qt:eC t:=Nat.le_trans ht (by omega)
 have e1:ox t=some (t.floor:Rat):=aQ qt
 have s2:=lZ (t.floor:Rat) (q:Rat)
 have e2:iR (t.floor:Rat) (q:Rat)=some ((t.floor:Rat)*(q:Rat)):=aQ ⟨by unfold eC;omega,by unfold eC;omega⟩
 have s3:=rX ((t.floor:Rat)*(q:Rat)) (lq:Rat)
 have e3:lT ((t.floor:Rat)*(q:Rat)) (lq:Rat)=some ((t.floor:Rat)*(q:Rat)+(lq:Rat)):=aQ ⟨by unfold eC;omega,by unfold eC;omega⟩
 have e4:gz most=some (most:Rat):=aQ hm
 have e5:mF ((t.floor:Rat)*(q:Rat)+(lq:Rat)) (most:Rat)=some (iD ((t.floor:Rat)*(q:Rat)+(lq:Rat)) (most:Rat)):=aQ ⟨by unfold eC;omega,by unfold eC;omega⟩
 have ei:(t.floor:Rat)*(q:Rat)+(lq:Rat)=((t.floor*q+lq:Int):Rat):=by simp
 unfold lA k8
 simp only[e1,e2,e3,e4,e5,Option.bind_some]
 by_cases hbig:most<t.floor*q+lq
 ·right
  have hcq:iD ((t.floor:Rat)*(q:Rat)+(lq:Rat)) (most:Rat)=1:=by
   have:(most:Rat)<(t.floor:Rat)*(q:Rat)+(lq:Rat):=by rw[ei];exact_mod_cast hbig
   unfold iD;grind
  obtain⟨k,hk⟩:∃k:Int,k=(((most:Rat)-(lq:Rat))/(q:Rat)).floor:=⟨_,rfl⟩
  obtain⟨b1,b2,b3,b4⟩:=AQ h1 hc hbig hk
  have hq0:(q:Rat)≠0:=by
   have:(0:Rat)<(q:Rat):=by exact_mod_cast (by omega:(0:Int)<q)
   grind
  have u1:=qW (most:Rat) (lq:Rat)
  have u2:=qQ ((most:Rat)-(lq:Rat)) (q:Rat)
  have u3:=wq (((most:Rat)-(lq:Rat))/(q:Rat))
  have f1:ky (most:Rat) (lq:Rat)=some ((most:Rat)-(lq:Rat)):=aQ ⟨by unfold eC;omega,by unfold eC;omega⟩
  have f2:gS ((most:Rat)-(lq:Rat)) (q:Rat)=some (((most:Rat)-(lq:Rat))/(q:Rat)):=aQ ⟨hq0,by unfold eC;omega,by unfold eC;omega⟩
  have f3:ox (((most:Rat)-(lq:Rat))/(q:Rat))=some (k:Rat):=by rw[hk];exact aQ (by unfold eC;omega)
  rw[←hk]at u3
  have u4:=lZ (k:Rat) (p:Rat)
  have u5:=rX ((k:Rat)*(p:Rat)) (lp:Rat)
  have u6:=lZ (k:Rat) (q:Rat)
  have u7:=rX ((k:Rat)*(q:Rat)) (lq:Rat)
  have f4:iR (k:Rat) (p:Rat)=some ((k:Rat)*(p:Rat)):=aQ ⟨by unfold eC;omega,by unfold eC;omega⟩
  have f5:lT ((k:Rat)*(p:Rat)) (lp:Rat)=some ((k:Rat)*(p:Rat)+(lp:Rat)):=aQ ⟨by unfold eC;omega,by unfold eC;omega⟩
  have f6:iR (k:Rat) (q:Rat)=some ((k:Rat)*(q:Rat)):=aQ ⟨by unfold eC;omega,by unfold eC;omega⟩
  have f7:lT ((k:Rat)*(q:Rat)) (lq:Rat)=some ((k:Rat)*(q:Rat)+(lq:Rat)):=aQ ⟨by unfold eC;omega,by unfold eC;omega⟩
  refine⟨(t,.done ((k:Rat)*(p:Rat)+(lp:Rat),(k:Rat)*(q:Rat)+(lq:Rat),(p:Rat),(q:Rat))),?_,?_⟩
  ·simp only[hcq,f1,f2,f3,f4,f5,f6,f7,Option.bind_some];rfl
  ·have ex:(k:Rat)*(p:Rat)+(lp:Rat)=((k*p+lp:Int):Rat):=by simp
   have ed:(k:Rat)*(q:Rat)+(lq:Rat)=((k*q+lq:Int):Rat):=by simp
   have hd0:((k*q+lq:Int):Rat)≠0:=by
    have:(0:Rat)<((k*q+lq:Int):Rat):=by exact_mod_cast (by omega:(0:Int)<k*q+lq)
    grind
   refine⟨?_,hq0,?_,?_,?_,?_,?_⟩<;>simp only[Ns.fin]
   ·rw[ed];exact hd0
   ·omega
   ·omega
   ·omega
   ·omega
   ·rw[ex,ed];exact b4
 ·left
  have hcq:(decide (iD ((t.floor:Rat)*(q:Rat)+(lq:Rat)) (most:Rat)>0))=false:=by
   have:(t.floor:Rat)*(q:Rat)+(lq:Rat)<=(most:Rat):=by rw[ei];exact_mod_cast (by omega:t.floor*q+lq<=most)
   rw[decide_eq_false_iff_not]
   unfold iD;grind
  have hle:t.floor*q+lq<=most:=by omega
  have hne:t-(t.floor:Rat)≠0:=fun e=>by
   have:=EX hc hle e
   omega
  obtain⟨d1,d2⟩:=Bs t hne
  have hcn:=CU hc hle hne
  have hq1:1<=t.floor*q+lq:=by
   rcases hcn.one with⟨e,_⟩|⟨e,_⟩
   ·exfalso
    rcases hc.one with⟨e1,e2⟩|⟨e1,e2⟩
    ·rw[e1,e2]at e;omega
    ·have h3:1<=t.floor:=Rat.le_floor_iff.2 (by simpa using e2)
     have h4:1*q<=t.floor*q:=Int.mul_le_mul_of_nonneg_right h3 hc.hq
     have:=hc.zQ
     omega
   ·exact e
  have hpn:=Gk hm (Gv hcn hq1)
  have u1:=lZ (t.floor:Rat) (p:Rat)
  have u2:=rX ((t.floor:Rat)*(p:Rat)) (lp:Rat)
  have u3:=qW t (t.floor:Rat)
  have f1:iR (t.floor:Rat) (p:Rat)=some ((t.floor:Rat)*(p:Rat)):=aQ ⟨by unfold eC;omega,by unfold eC;omega⟩
  have f2:lT ((t.floor:Rat)*(p:Rat)) (lp:Rat)=some ((t.floor:Rat)*(p:Rat)+(lp:Rat)):=aQ ⟨by unfold eC;omega,by unfold eC;omega⟩
  have f3:ky t (t.floor:Rat)=some (t-(t.floor:Rat)):=aQ ⟨qt,by unfold eC;omega⟩
  have f4:i_ (t-(t.floor:Rat))=some 1:=by
   have:=Rat.floor_le t
   show some (zN _)=_
   unfold zN;grind
  have f5:gz 1=some 1:=by decide+kernel
  have f6:gS 1 (t-(t.floor:Rat))=some (1/(t-(t.floor:Rat))):=aQ ⟨hne,by decide,by unfold eC;omega⟩
  refine⟨(1/(t-(t.floor:Rat)),((t.floor:Rat)*(p:Rat)+(lp:Rat),(t.floor:Rat)*(q:Rat)+(lq:Rat),(p:Rat),(q:Rat))),?_,⟨t.floor*p+lp,t.floor*q+lq,p,q,by simp,hcn,Nat.le_trans d2 ht,hpn,hp⟩,d1⟩
  simp only[hcq,f1,f2,f3,f4,f5,f6,Option.bind_some,Bool.false_eq_true,if_false]
  rfl
theorem A5(a:Rat){n:Nat}(h:a.den<=n):wM a n a:=⟨h,fun y _=>by
 by_cases e:y=a
 ·subst e;exact nA _ _
 ·have:a-a=0:=by grind
  unfold better iL
  rw[this]
  grind⟩
theorem Ci(a:Rat)(most:Int)(ha:sz a<=10000000000)(hm:eE most):uC a most=some (if most<1 then(0,3)else(lV a most.toNat,0)):=by
 unfold uC
 by_cases c1:most<1
 ·rw[if_pos (decide_eq_true c1),if_pos c1]
 rw[if_neg (by simpa using c1),if_neg c1]
 have qa:eC a:=Nat.le_trans ha (by omega)
 have hmm:=oO (show 0<=most by omega) (Int.le_refl most) hm
 have sd:=wN a
 have e1:rR a=some (a.den:Rat):=aQ qa
 have e2:gz most=some (most:Rat):=aQ hm
 have e3:mF ((a.den:Nat):Rat) (most:Rat)=some (iD ((a.den:Nat):Rat) (most:Rat)):=aQ ⟨by unfold eC;omega,by unfold eC;omega⟩
 have e4:gz 1=some 1:=by decide+kernel
 have e5:gz 0=some 0:=by decide+kernel
 simp only[e1,e2,e3,e4,e5,Option.bind_some]
 have hcast:((a.den:Nat):Rat)=(((a.den:Nat):Int):Rat):=rfl
 by_cases c2:(a.den:Int)<=most
 ·have:(decide (iD ((a.den:Nat):Rat) (most:Rat)<=0))=true:=by
   have:(((a.den:Nat):Int):Rat)<=(most:Rat):=by exact_mod_cast c2
   rw[decide_eq_true_eq,hcast]
   unfold iD;grind
  rw[if_pos this]
  have:=sL (A5 a (n:=most.toNat) (by omega)) (rB a most.toNat (by omega))
  rw[←this]
 ·have:¬(decide (iD ((a.den:Nat):Rat) (most:Rat)<=0))=true:=by
   have:(most:Rat)<(((a.den:Nat):Int):Rat):=by exact_mod_cast (by omega:most<((a.den:Nat):Int))
   rw[decide_eq_true_eq,hcast]
   unfold iD;grind
  rw[if_neg this]
  obtain⟨r,hr,g1,g2,g3,g4,g5,g6,g7⟩:=zf a most ha hm (by omega) (by omega)
  rw[hr]
  simp only[Option.bind_some]
  generalize Ns.fin r.2=s at*
  obtain⟨p,q,lp,lq⟩:=s
  simp only at g1 g2 g3 g4 g5 g6 g7|-
  have f1:gS p q=some (p/q):=aQ ⟨g1,by unfold eC;omega,by unfold eC;omega⟩
  have f2:gS lp lq=some (lp/lq):=aQ ⟨g2,by unfold eC;omega,by unfold eC;omega⟩
  have s1:=qQ p q
  have s2:=qQ lp lq
  obtain⟨z,hz,k1,k2,k3⟩:=zA a (p/q) (lp/lq) (by omega) (by omega) (by omega)
  rw[f1]
  simp only[Option.bind_some]
  rw[f2]
  simp only[Option.bind_some]
  rw[hz]
  have:=sL (g7 z k1 k2 k3) (rB a most.toNat (by omega))
  simp only[Option.bind_some]
  rw[this]
def A6(a:Rat)(most:Int):Option (Rat×Int):=bZ (sz a<=10000000000/\eE most) (some (if most<1 then(0,3)else(lV a most.toNat,0)))
theorem D5{a1:Rat}{a2:Int}{r3:Rat}{r4:Int}(h:A6 a1 a2=some (r3,r4)):aS PP 28 [] [qD a1,D.int .i64 a2] [] (D.iC [qD r3,D.int .i64 r4]):=by
 obtain⟨⟨h1,h2⟩,h⟩:=aw h
 have e:=Ci a1 a2 h1 h2
 rw[h]at e
 exact Ed e
end Go.Am
namespace Go.Am
end Go.Am
namespace Go.Am
open Go.RowKit
set_option maxRecDepth 100000
noncomputable section
def wB(a1:Rat):Option (Rat×Rat):=(iR a1 a1).bind fun v2=>(gz 1).bind fun v4=>(lT v4 v2).bind fun v6=>(gz 1).bind fun v8=>(ky v8 v2).bind fun v10=>(gS v10 v6).bind fun v12=>(lT a1 a1).bind fun v14=>(gS v14 v6).bind fun v16=>some (v12,v16)
theorem D8{a1:Rat}{r18:Rat}{r19:Rat}(h:wB a1=some (r18,r19)):aS PP 61 [] [qD a1] [] (D.agg (qC (r18)++qC (r19))):=by
 unfold wB at h
 refine .of Go.Proofs.Tryz.func61 rfl (by kernel_rfl) rfl rfl rfl rfl rfl rfl (fun A w0 L b=>?_)
 show Ok PP _ [(0,qD a1)] [] _ _
 refine .al (.ie rfl rfl<|.gd (qC (0)++qC (0)) mh ⟨nr,nT,nS,nr,nT,nS,trivial⟩ rfl<|.nil) rfl ?_
 obtain⟨v2,e3,h⟩:=bind_some h
 refine .al (.b_ (qC (a1)) rfl rfl ae rfl rfl<|.b_ (qC (a1)) rfl rfl ae rfl rfl<|.ah (oN e3) ⟨rfl,rfl,trivial⟩ trivial trivial<|.gd (qC (0)) aJ ⟨nr,nT,nS,trivial⟩ rfl<|.cH (qC (v2)) rfl rfl rfl ae rfl rfl rfl<|.nil) rfl ?_
 obtain⟨v4,e5,h⟩:=bind_some h
 obtain⟨v6,e7,h⟩:=bind_some h
 refine .dc cg (.ah (kX e5) ⟨rfl,trivial⟩ trivial trivial<|.b_ (qC (v2)) rfl rfl ae rfl rfl<|.ah (pQ e7) ⟨rfl,rfl,trivial⟩ trivial trivial<|.gd (qC (0)) aJ ⟨nr,nT,nS,trivial⟩ rfl<|.cH (qC (v6)) rfl rfl rfl ae rfl rfl rfl<|.nil) rfl (by kernel_rfl) ?_
 obtain⟨v8,e9,h⟩:=bind_some h
 obtain⟨v10,e11,h⟩:=bind_some h
 obtain⟨v12,e13,h⟩:=bind_some h
 obtain⟨v14,e15,h⟩:=bind_some h
 obtain⟨v16,e17,h⟩:=bind_some h
 refine .dc cg (.ah (kX e9) ⟨rfl,trivial⟩ trivial trivial<|.b_ (qC (v2)) rfl rfl ae rfl rfl<|.ah (sN e11) ⟨rfl,rfl,trivial⟩ trivial trivial<|.b_ (qC (v6)) rfl rfl ae rfl rfl<|.ah (nH e13) ⟨rfl,rfl,trivial⟩ trivial trivial<|.b_ (qC (a1)) rfl rfl ae rfl rfl<|.b_ (qC (a1)) rfl rfl ae rfl rfl<|.ah (pQ e15) ⟨rfl,rfl,trivial⟩ trivial trivial<|.b_ (qC (v6)) rfl rfl ae rfl rfl<|.ah (nH e17) ⟨rfl,rfl,trivial⟩ trivial trivial<|.nW (qC (v12)++qC (v16)) [(0,_,qD v12,qC (v12)),(3,_,qD v16,qC (v16))] mh tZ ⟨rfl,rfl,.agg _,rfl,rfl,rfl,.agg _,rfl,trivial⟩ ⟨rfl,rfl,trivial⟩ ⟨.refl _,.refl _,.refl _,.refl _,.refl _,.refl _,trivial⟩<|.cH (qC (v12)++qC (v16)) rfl rfl rfl lH rfl rfl rfl<|.nil) rfl (by kernel_rfl) ?_
 cases h
 refine .aH (fun _ _ hb=>hb) rfl (.cons (.agg rfl rfl lH rfl) .nil) (.refl _) trivial trivial
end
end Go.Am
namespace Go.Am
open Go.RowKit
set_option maxRecDepth 100000
noncomputable section
end
end Go.Am
namespace Go.Am
open Go.RowKit
set_option maxRecDepth 100000
noncomputable section
def jy(a3:Int)(v8:Rat)(v11:Rat)(v15:Int)(v16:Rat)(v17:Rat):Option (St (Int×Rat×Rat) (Rat×Rat)):=(if(decide (v15<(Int.tmod a3 4)))=true then(iR v16 v8).bind fun v23=>(iR v17 v11).bind fun v25=>some (St.next ((IntKind.u8.wrap (v15+1)),v23,v25))else some (St.done (v16,v17)))
def mI(a1:Int)(a2:Int)(a3:Int):Option (Rat×Rat):=((if(a2==0)=true then some (1)else some (a2))).bind fun v7=>(B9 a1 v7).bind fun(v8,v9)=>(Ds a1 v7).bind fun v11=>((Loop (fun(s:Int×Rat×Rat)=>jy a3 v8 v11 s.1 s.2.1 s.2.2) (0,v8,v11)).bind fun(v27,v28)=>some ((v27,v28))).bind fun(v29,v30)=>some (v29,v30)
theorem Bm{a1:Int}{a2:Int}{a3:Int}{r31:Rat}{r32:Rat}(h:mI a1 a2 a3=some (r31,r32)):aS PP 27 [] [D.agg ([D.int .i64 a1,D.int .i64 a2,D.int .u8 a3])] [] (D.iC [qD r31,p8 r32]):=by
 unfold mI at h
 refine .of Go.Proofs.Tryz.func27 rfl (by kernel_rfl) rfl rfl rfl rfl rfl rfl (fun A w0 L b=>?_)
 show Ok PP _ [(0,D.agg ([D.int .i64 a1,D.int .i64 a2,D.int .u8 a3]))] [] _ _
 refine .al (.ie rfl rfl<|.gd (qC (0)) aJ ⟨nr,nT,nS,trivial⟩ rfl<|.gd (lU (0)) bC ⟨DW,DO,.refl _,DL,trivial⟩ rfl<|.nil) rfl ?_
 obtain⟨v7,hp5,h⟩:=bind_some h
 refine .cd (fun i=>v7=i) (fun(i:Int)=>[(1,D.ref 1 0),(2,D.ref 2 0),(3,D.ref 3 0)]) (fun(i:Int)=>[(1,Hp.box 43 ([D.int .i64 a1,D.int .i64 i,D.int .u8 a3])),(2,Hp.box 28 (qC (0))),(3,Hp.box 37 (lU (0)))]) ?_ ?_
 ·have ho1:=h
  clear h
  have h:=hp5
  clear hp5
  refine .al (.fa rfl ft<|.bg (D.int .i64 a2) rfl rfl gE rfl<|.cm rfl rfl rfl<|.nil) rfl ?_
  by_cases c6:(a2==0)=true
  ·replace h:=aa c6 h
   refine .cj rfl c6 ?_
   refine .region (.fa rfl ft<|.w8 ([D.int .i64 a1,D.int .i64 1,D.int .u8 a3]) rfl rfl rfl gE rfl rfl rfl<|.nil) rfl (fun _ _ hs=>⟨1,(Option.some.inj h).symm,hs.sub (.of rfl) (.of rfl) rfl rfl⟩)
  ·replace h:=ab c6 h
   refine .ck rfl c6 ?_
   refine .skip (fun _ _ hs=>⟨a2,(Option.some.inj h).symm,hs.sub (.of rfl) (.of rfl) rfl rfl⟩)
 ·rintro _ rfl
  try dsimp only
  obtain⟨⟨v8,v9⟩,e10,h⟩:=bind_some h
  refine .al (.fa rfl j2<|.bg (D.int .i64 a1) rfl rfl gE rfl<|.fa rfl ft<|.bg (D.int .i64 v7) rfl rfl gE rfl<|.ah (F7 e10) ⟨rfl,rfl,trivial⟩ trivial trivial<|.mv rfl<|.ext rfl rfl<|.ext rfl rfl<|.gd (qC (0)) aJ ⟨nr,nT,nS,trivial⟩ rfl<|.cH (qC (v8)) rfl rfl rfl ae rfl rfl rfl<|.aq rfl<|.nil) rfl ?_
  obtain⟨v11,e12,h⟩:=bind_some h
  refine .al (.fa rfl j2<|.bg (D.int .i64 a1) rfl rfl gE rfl<|.fa rfl ft<|.bg (D.int .i64 v7) rfl rfl gE rfl<|.ah (Gp e12) ⟨rfl,rfl,trivial⟩ trivial trivial<|.gd (lU (0)) bC ⟨DW,DO,.refl _,DL,trivial⟩ rfl<|.cH (lU (v11)) rfl rfl rfl ao rfl rfl rfl<|.nil) rfl ?_
  refine .dc cg (.b_ (qC (v8)) rfl rfl ae rfl rfl<|.b_ (lU (v11)) rfl rfl ao rfl rfl<|.gd (qC (0)) aJ ⟨nr,nT,nS,trivial⟩ rfl<|.gd (lU (0)) bC ⟨DW,DO,.refl _,DL,trivial⟩ rfl<|.cH (qC (v8)) rfl rfl rfl ae rfl rfl rfl<|.cH (lU (v11)) rfl rfl rfl ao rfl rfl rfl<|.nil) rfl (by kernel_rfl) ?_
  obtain⟨o13,hp14,h⟩:=bind_some h
  refine .cd (fun i=>o13=i) (fun(i:Rat×Rat)=>[(2,D.ref 2 0),(3,D.ref 3 0),(7,D.ref 7 0),(8,D.ref 8 0)]) (fun(i:Rat×Rat)=>[(2,Hp.box 28 (qC (0))),(3,Hp.box 37 (lU (0))),(7,Hp.box 28 (qC (i.1))),(8,Hp.box 37 (lU (i.2)))]) ?_ ?_
  ·have ho1:=h
   clear h
   have h:=hp14
   clear hp14
   refine .al (.aq rfl<|.nil) rfl ?_
   obtain⟨o18,hl19,h⟩:=bind_some h
   have ho2:=h
   clear h
   refine .block (.b8 (fun(s:Int×Rat×Rat)=>[(1,D.ref 1 0),(2,D.ref 2 0),(3,D.ref 3 0),(4,D.ref 4 0),(6,D.ref 6 0),(7,D.ref 7 0),(8,D.ref 8 0),(9,D.int .u8 s.1)]) (fun(s:Int×Rat×Rat)=>[(1,Hp.box 43 ([D.int .i64 a1,D.int .i64 v7,D.int .u8 a3])),(2,Hp.box 28 (qC (0))),(3,Hp.box 37 (lU (0))),(4,Hp.box 28 (qC (v8))),(6,Hp.box 37 (lU (v11))),(7,Hp.box 28 (qC (s.2.1))),(8,Hp.box 37 (lU (s.2.2)))]) hl19 (.of rfl) (.of rfl) rfl rfl ?_)
   rintro⟨v15,v16,v17⟩ st20 hb21
   have h:jy a3 v8 v11 v15 v16 v17=some st20:=hb21
   clear hb21
   unfold jy at h
   try dsimp only
   refine .sq ?_
   refine .al (.mv rfl<|.fa rfl np<|.bg (D.int .u8 a3) rfl rfl mi rfl<|.ar rfl rfl (uc (by decide))<|.cm rfl rfl rfl<|.nil) rfl ?_
   by_cases c22:(decide (v15<(Int.tmod a3 4)))=true
   ·replace h:=aa c22 h
    refine .cj rfl c22 ?_
    refine .skip (Ok.on ?_)
    refine .sq ?_
    refine .block ?_
    obtain⟨v23,e24,h⟩:=bind_some h
    refine .al (.b_ (qC (v16)) rfl rfl ae rfl rfl<|.b_ (qC (v8)) rfl rfl ae rfl rfl<|.ah (oN e24) ⟨rfl,rfl,trivial⟩ trivial trivial<|.cH (qC (v23)) rfl rfl rfl ae rfl rfl rfl<|.nil) rfl ?_
    obtain⟨v25,e26,h⟩:=bind_some h
    refine .region (.b_ (lU (v17)) rfl rfl ao rfl rfl<|.b_ (lU (v11)) rfl rfl ao rfl rfl<|.ah (Bb e26) ⟨rfl,rfl,trivial⟩ trivial trivial<|.cH (lU (v25)) rfl rfl rfl ao rfl rfl rfl<|.nil) rfl (Ok.on ?_)
    refine .region (.mv rfl<|.ar rfl rfl rfl<|.aq rfl<|.nil) rfl (fun _ _ hs=>⟨((IntKind.u8.wrap (v15+1)),v23,v25),(Option.some.inj h).symm,hs.sub (.of rfl) (.of rfl) rfl rfl⟩)
   ·replace h:=ab c22 h
    refine .ck rfl c22 ?_
    refine .exit (fun a w hs=>⟨_,(Option.some.inj h).symm,fun e=>by subst e;have h:=ho2;exact aZ (⟨(v16,v17),(Option.some.inj h).symm,hs.sub (.of rfl) (.of rfl) rfl rfl⟩)⟩)
  ·rintro⟨v29,v30⟩ rfl
   try dsimp only
   refine .dc cg (.b_ (qC (v29)) rfl rfl ae rfl rfl<|.b_ (lU (v30)) rfl rfl ao rfl rfl<|.cH (qC (v29)) rfl rfl rfl ae rfl rfl rfl<|.cH (lU (v30)) rfl rfl rfl ao rfl rfl rfl<|.nil) rfl (by kernel_rfl) ?_
   cases h
   refine .aH (fun _ _ hb=>hb) rfl (.cons (.agg rfl rfl ae rfl) (.cons (.agg rfl rfl ao rfl) .nil)) (.refl _) trivial trivial
def l9(a1:Rat)(a2:Rat):Option Bool:=(po a1).bind fun v3=>(po a2).bind fun v5=>some (v3==v5)
theorem Au{a1:Rat}{a2:Rat}{r7:Bool}(h:l9 a1 a2=some r7):aS PP 26 [] [qD a1,p8 a2] [] (D.bool r7):=by
 unfold l9 at h
 refine .of Go.Proofs.Tryz.func26 rfl (by kernel_rfl) rfl rfl rfl rfl rfl rfl (fun A w0 L b=>?_)
 show Ok PP _ [(0,qD a1),(1,p8 a2)] [] _ _
 refine .al (.ie rfl rfl<|.ie rfl rfl<|.aq rfl<|.nil) rfl ?_
 obtain⟨v3,e4,h⟩:=bind_some h
 obtain⟨v5,e6,h⟩:=bind_some h
 refine .dc cg (.b_ (qC (a1)) rfl rfl ae rfl rfl<|.ah (Bq e4) ⟨rfl,trivial⟩ trivial trivial<|.b_ (lU (a2)) rfl rfl ao rfl rfl<|.ah (Ee e6) ⟨rfl,trivial⟩ trivial trivial<|.Ep rfl rfl<|.aq rfl<|.nil) rfl (by kernel_rfl) ?_
 cases h
 refine .aH (fun _ _ hb=>hb) rfl (.cons (.tmp rfl) .nil) (.refl _) trivial trivial
def jl(a1:List (Int×Int×Int))(v4:Int)(v5:List Rat)(v6:List Rat):Option (St (Int×(List Rat)×(List Rat)) ((List Rat)×(List Rat))):=(if(decide (v4<(a1.length:Int)))=true then(ix a1 v4).bind fun(v12,v13,v14)=>(mI v12 v13 v14).bind fun(v16,v17)=>bZ ((v5.length+([v16]).length)*56<=140737488355328/\v5.length+([v16]).length<=9223372036854775807) (bZ ((v6.length+([v17]).length)*64<=140737488355328/\v6.length+([v17]).length<=9223372036854775807) (some (St.next ((IntKind.i64.wrap (v4+1)),(v5++[v16]),(v6++[v17])))))else some (St.done (v5,v6)))
def kM(a1:List (Int×Int×Int)):Option ((List Rat)×(List Rat)):=((Loop (fun(s:Int×(List Rat)×(List Rat))=>jl a1 s.1 s.2.1 s.2.2) (0,[],[])).bind fun(v21,v22)=>some ((v21,v22))).bind fun(v23,v24)=>some (v23,v24)
theorem u9{a1:List (Int×Int×Int)}{r25:List Rat}{r26:List Rat}(h:kM a1=some (r25,r26)):aS PP 53 [] [ag (ak.prod (ak.int .i64) (ak.prod (ak.int .i64) (ak.int .u8))) a1] [] (D.iC [ag ak.rat r25,ag ak.rq r26]):=by
 unfold kM at h
 refine .of Go.Proofs.Tryz.func53 rfl (by kernel_rfl) rfl rfl rfl rfl rfl rfl (fun A w0 L b=>?_)
 show Ok PP _ [(0,ag (ak.prod (ak.int .i64) (ak.prod (ak.int .i64) (ak.int .u8))) a1)] [] _ _
 refine .al (.aq rfl<|.aq rfl<|.nil) rfl ?_
 refine .al (.aq rfl<|.nil) rfl ?_
 refine .al (.aq rfl<|.nil) rfl ?_
 obtain⟨o2,hp3,h⟩:=bind_some h
 refine .cd (fun i=>o2=i) (fun(i:(List Rat)×(List Rat))=>[(4,D.own 2000004),(5,D.own 2000005)]) (fun(i:(List Rat)×(List Rat))=>[(2000004,a_ ak.rat 28 i.1),(2000005,a_ ak.rq 37 i.2)]) ?_ ?_
 ·have ho1:=h
  clear h
  have h:=hp3
  clear hp3
  refine .al (.aq rfl<|.nil) rfl ?_
  refine .jJ ak.rat 4 2000004 28 rfl rfl ?_
  refine .jJ ak.rq 5 2000005 37 rfl rfl ?_
  obtain⟨o7,hl8,h⟩:=bind_some h
  have ho2:=h
  clear h
  refine .block (.b8 (fun(s:Int×(List Rat)×(List Rat))=>[(0,ag (ak.prod (ak.int .i64) (ak.prod (ak.int .i64) (ak.int .u8))) a1),(4,D.own 2000004),(5,D.own 2000005),(6,D.int .i64 s.1)]) (fun(s:Int×(List Rat)×(List Rat))=>[(2000004,a_ ak.rat 28 s.2.1),(2000005,a_ ak.rq 37 s.2.2)]) hl8 (.of rfl) (.of rfl) rfl rfl ?_)
  rintro⟨v4,v5,v6⟩ st9 hb10
  have h:jl a1 v4 v5 v6=some st9:=hb10
  clear hb10
  unfold jl at h
  try dsimp only
  refine .sq ?_
  refine .al (.mv rfl<|.mv rfl<|.ep rfl gQ<|.cm rfl rfl rfl<|.nil) rfl ?_
  by_cases c11:(decide (v4<(a1.length:Int)))=true
  ·replace h:=aa c11 h
   refine .cj rfl c11 ?_
   refine .skip (Ok.on ?_)
   refine .sq ?_
   refine .block ?_
   obtain⟨⟨v12,v13,v14⟩,e15,h⟩:=bind_some h
   obtain⟨⟨v16,v17⟩,e18,h⟩:=bind_some h
   refine .al (.mv rfl<|.mv rfl<|.ko rfl rfl nJ (af e15).1 (af e15).2<|.EW (l:=[D.int .i64 v12,D.int .i64 v13,D.int .u8 v14]) rfl oG rfl<|.ah (Bm e18) ⟨rfl,trivial⟩ trivial trivial<|.mv rfl<|.ext rfl rfl<|.ext rfl rfl<|.gd (qC (0)) aJ ⟨nr,nT,nS,trivial⟩ rfl<|.gd (lU (0)) bC ⟨DW,DO,.refl _,DL,trivial⟩ rfl<|.cH (qC (v16)) rfl rfl rfl ae rfl rfl rfl<|.cH (lU (v17)) rfl rfl rfl ao rfl rfl rfl<|.nil) rfl ?_
   refine .sl 4 rfl rfl rfl ?_
   obtain⟨k19,h⟩:=aw h
   refine .al (.mv rfl<|.b_ (qC (v16)) rfl rfl ae rfl rfl<|.zP (e:=ak.rat) [v16] [(0,_,qD v16,qC (v16))] fh rfl rfl rfl ⟨rfl,rfl,.agg _,rfl,trivial⟩ ⟨rfl,trivial⟩ rfl rfl<|.yU (ys:=[v16]) rfl .sl rfl (.refl _) rfl fh rfl k19.1 k19.2 rfl<|.aq rfl<|.nil) rfl ?_
   refine .sl 5 rfl rfl rfl ?_
   obtain⟨k20,h⟩:=aw h
   refine .region (.mv rfl<|.b_ (lU (v17)) rfl rfl ao rfl rfl<|.zP (e:=ak.rq) [v17] [(0,_,p8 v17,lU (v17))] cY rfl rfl rfl ⟨rfl,rfl,.agg _,rfl,trivial⟩ ⟨rfl,trivial⟩ rfl rfl<|.yU (ys:=[v17]) rfl .sl rfl (.refl _) rfl cY rfl k20.1 k20.2 rfl<|.aq rfl<|.nil) rfl (Ok.on ?_)
   refine .region (.mv rfl<|.ar rfl rfl rfl<|.aq rfl<|.nil) rfl (fun _ _ hs=>⟨((IntKind.i64.wrap (v4+1)),(v5++[v16]),(v6++[v17])),(Option.some.inj h).symm,hs.nE (fun r=>match r with|2000004=>26|2000005=>30|r=>r) ⟨⟨_,rfl,.refl rfl⟩,⟨_,rfl,.own (r:=2000004)⟩,⟨_,rfl,.own (r:=2000005)⟩,⟨_,rfl,.refl rfl⟩,trivial⟩ ⟨⟨_,rfl,.refl rfl⟩,⟨_,rfl,.refl rfl⟩,trivial⟩ rfl rfl rfl⟩)
  ·replace h:=ab c11 h
   refine .ck rfl c11 ?_
   refine .exit (fun a w hs=>⟨_,(Option.some.inj h).symm,fun e=>by subst e;have h:=ho2;exact aZ (⟨(v5,v6),(Option.some.inj h).symm,hs.sub (.of rfl) (.of rfl) rfl rfl⟩)⟩)
 ·rintro⟨v23,v24⟩ rfl
  try dsimp only
  refine .sl 4 rfl rfl rfl ?_
  refine .sl 5 rfl rfl rfl ?_
  refine .al (.mv rfl<|.mv rfl<|.aq rfl<|.aq rfl<|.nil) rfl ?_
  refine .rJ 2 (.own 2000004) rfl .sl ?_
  refine .kJ 2 rfl rfl rfl ?_
  refine .rJ 3 (.own 2000005) rfl .sl ?_
  refine .kJ 3 rfl rfl rfl ?_
  cases h
  refine .aH (fun _ _ hb=>hb) rfl (.cons (.tmp rfl) (.cons (.tmp rfl) .nil)) (.refl _) trivial trivial
def gu(a1:List Rat)(a2:List Rat)(v6:Int):Option (St Int (Ex Unit Bool)):=(if(decide (v6<(a1.length:Int)))=true then(ix a1 v6).bind fun v12=>(ix a2 v6).bind fun v14=>(l9 v12 v14).bind fun v16=>(if(!v16)=true then some (St.done (Ex.ret false))else some (St.next (IntKind.i64.wrap (v6+1))))else some (St.done (Ex.da ())))
def jV(a1:List Rat)(a2:List Rat):Option Bool:=(if((a1.length:Int) !=(a2.length:Int))=true then some false else((Loop (fun(s:Int)=>gu a1 a2 s) 0).bind fun o7=>(match o7 with|Ex.da ()=>some (Ex.da ())|Ex.ret r19=>some (Ex.ret r19))).bind fun o4=>(match o4 with|Ex.da ()=>some true|Ex.ret r20=>some r20))
theorem mY{a1:List Rat}{a2:List Rat}{r21:Bool}(h:jV a1 a2=some r21):aS PP 112 [] [ag ak.rat a1,ag ak.rq a2] [] (D.bool r21):=by
 unfold jV at h
 refine .of Go.Proofs.Tryz.func112 rfl (by kernel_rfl) rfl rfl rfl rfl rfl rfl (fun A w0 L b=>?_)
 show Ok PP _ [(0,ag ak.rat a1),(1,ag ak.rq a2)] [] _ _
 refine .al (.aq rfl<|.nil) rfl ?_
 refine .sq ?_
 refine .al (.mv rfl<|.ep rfl dp<|.mv rfl<|.ep rfl gp<|.cm rfl rfl rfl<|.nil) rfl ?_
 by_cases c3:((a1.length:Int) !=(a2.length:Int))=true
 ·replace h:=aa c3 h
  refine .cj rfl c3 ?_
  refine .al (.aq rfl<|.nil) rfl ?_
  cases h
  refine .aH (fun _ _ hb=>hb) rfl (.cons (.tmp rfl) .nil) (.refl _) trivial trivial
 ·replace h:=ab c3 h
  refine .ck rfl c3 ?_
  refine .skip (Ok.on ?_)
  obtain⟨o4,hp5,h⟩:=bind_some h
  refine .cd (fun i=>o4=Ex.da i) (fun(i:Unit)=>[]) (fun(i:Unit)=>[]) ?_ ?_
  ·have ho1:=h
   clear h
   have h:=hp5
   clear hp5
   refine .al (.aq rfl<|.nil) rfl ?_
   obtain⟨o7,hl8,h⟩:=bind_some h
   have ho2:=h
   clear h
   refine .block (.b8 (fun(s:Int)=>[(0,ag ak.rat a1),(1,ag ak.rq a2),(5,D.int .i64 s)]) (fun(s:Int)=>[]) hl8 (.of rfl) trivial rfl rfl ?_)
   rintro v6 st9 hb10
   have h:gu a1 a2 v6=some st9:=hb10
   clear hb10
   unfold gu at h
   try dsimp only
   refine .sq ?_
   refine .al (.mv rfl<|.mv rfl<|.ep rfl dp<|.cm rfl rfl rfl<|.nil) rfl ?_
   by_cases c11:(decide (v6<(a1.length:Int)))=true
   ·replace h:=aa c11 h
    refine .cj rfl c11 ?_
    refine .skip (Ok.on ?_)
    refine .sq ?_
    refine .block ?_
    obtain⟨v12,e13,h⟩:=bind_some h
    obtain⟨v14,e15,h⟩:=bind_some h
    obtain⟨v16,e17,h⟩:=bind_some h
    refine .dc cg (.mv rfl<|.mv rfl<|.ko rfl rfl cz (af e13).1 (af e13).2<|.EW (l:=qC (v12)) rfl ae rfl<|.mv rfl<|.mv rfl<|.ko rfl rfl bE (af e15).1 (af e15).2<|.EW (l:=lU (v14)) rfl ao rfl<|.ah (Au e17) ⟨rfl,rfl,trivial⟩ trivial trivial<|.not rfl<|.nil) rfl (by kernel_rfl) ?_
    by_cases c18:(!v16)=true
    ·replace h:=aa c18 h
     refine .cj rfl c18 ?_
     refine .al (.aq rfl<|.nil) rfl ?_
     refine .aH (Hi:=[]) (Ho:=[]) (b:=b) (fn:=Go.Proofs.Tryz.f112) (d:=D.bool false) (fun _ _ hb=>by exact⟨_,(Option.some.inj h).symm,fun e=>by subst e;have h:=ho2;cases h;have h:=ho1;cases h;exact hb⟩) rfl (.cons (.tmp rfl) .nil) (.refl _) trivial trivial
    ·replace h:=ab c18 h
     refine .ck rfl c18 ?_
     refine .skip (Ok.on ?_)
     refine .region (.mv rfl<|.ar rfl rfl rfl<|.aq rfl<|.nil) rfl (fun _ _ hs=>⟨(IntKind.i64.wrap (v6+1)),(Option.some.inj h).symm,hs.sub (.of rfl) trivial rfl rfl⟩)
   ·replace h:=ab c11 h
    refine .ck rfl c11 ?_
    refine .exit (fun a w hs=>⟨_,(Option.some.inj h).symm,fun e=>by subst e;have h:=ho2;exact aZ (⟨(),(Option.some.inj h).symm,hs.sub trivial trivial rfl rfl⟩)⟩)
  ·rintro⟨⟩ rfl
   try dsimp only
   refine .al (.aq rfl<|.nil) rfl ?_
   cases h
   refine .aH (fun _ _ hb=>hb) rfl (.cons (.tmp rfl) .nil) (.refl _) trivial trivial
def qR(a1:List UInt8):Option Rat:=(qd a1).bind fun(v2,v3)=>some v2
theorem yo{a1:List UInt8}{r5:Rat}(h:qR a1=some r5):aS PP 100 [] [bU a1] [] (qD r5):=by
 unfold qR at h
 refine .of Go.Proofs.Tryz.func100 rfl (by kernel_rfl) rfl rfl rfl rfl rfl rfl (fun A w0 L b=>?_)
 show Ok PP _ [(0,bU a1)] [] _ _
 refine .al (.gd (qC (0)) aJ ⟨nr,nT,nS,trivial⟩ rfl<|.nil) rfl ?_
 obtain⟨⟨v2,v3⟩,e4,h⟩:=bind_some h
 refine .al (.mv rfl<|.ah (uv e4) ⟨rfl,trivial⟩ trivial trivial<|.mv rfl<|.ext rfl rfl<|.ext rfl rfl<|.gd (qC (0)) aJ ⟨nr,nT,nS,trivial⟩ rfl<|.cH (qC (v2)) rfl rfl rfl ae rfl rfl rfl<|.aq rfl<|.nil) rfl ?_
 refine .al (.b_ (qC (v2)) rfl rfl ae rfl rfl<|.cH (qC (v2)) rfl rfl rfl ae rfl rfl rfl<|.nil) rfl ?_
 cases h
 refine .aH (fun _ _ hb=>hb) rfl (.cons (.agg rfl rfl ae rfl) .nil) (.refl _) trivial trivial
def kB(a1:Rat)(a2:List UInt8):Option Bool:=(po a1).bind fun v3=>some (v3==a2)
theorem cq{a1:Rat}{a2:List UInt8}{r5:Bool}(h:kB a1 a2=some r5):aS PP 141 [] [qD a1,bU a2] [] (D.bool r5):=by
 unfold kB at h
 refine .of Go.Proofs.Tryz.func141 rfl (by kernel_rfl) rfl rfl rfl rfl rfl rfl (fun A w0 L b=>?_)
 show Ok PP _ [(0,qD a1),(1,bU a2)] [] _ _
 refine .al (.ie rfl rfl<|.aq rfl<|.nil) rfl ?_
 obtain⟨v3,e4,h⟩:=bind_some h
 refine .al (.b_ (qC (a1)) rfl rfl ae rfl rfl<|.ah (Bq e4) ⟨rfl,trivial⟩ trivial trivial<|.mv rfl<|.Ep rfl rfl<|.aq rfl<|.nil) rfl ?_
 cases h
 refine .aH (fun _ _ hb=>hb) rfl (.cons (.tmp rfl) .nil) (.refl _) trivial trivial
def gw:Option Bool:=(qd ([45,49,46,50,53,48]:List UInt8)).bind fun(v1,v2)=>(qd ([54,47,52]:List UInt8)).bind fun(v4,v5)=>(qR ([51,53,53,47,49,49,51]:List UInt8)).bind fun v7=>(A6 v7 7).bind fun(v9,v10)=>(gz 2).bind fun v12=>(B1 v12 3).bind fun(v14,v15)=>(qR ([49,47,50]:List UInt8)).bind fun v17=>(wB v17).bind fun(v19,v20)=>(if(v2==0)=true then(if(v5==0)=true then(if(v10==0)=true then(if(v15==0)=true then(kB v1 ([45,53,47,52]:List UInt8)).bind fun v26=>(if v26=true then(kB v4 ([51,47,50]:List UInt8)).bind fun v29=>(if v29=true then(kB v9 ([50,50,47,55]:List UInt8)).bind fun v32=>(if v32=true then(kB v14 ([49,49,47,56]:List UInt8)).bind fun v35=>(if v35=true then(kB v19 ([51,47,53]:List UInt8)).bind fun v38=>(if v38=true then(kB v20 ([52,47,53]:List UInt8)).bind fun v41=>(if v41=true then(lT v1 v4).bind fun v44=>(kB v44 ([49,47,52]:List UInt8)).bind fun v46=>(if v46=true then(iR v1 v4).bind fun v49=>(kB v49 ([45,49,53,47,56]:List UInt8)).bind fun v51=>some v51 else some false)else some false)else some false)else some false)else some false)else some false)else some false)else some false)else some false)else some false)else some false)
theorem jU{r53:Bool}(h:gw=some r53):aS PP 22 [] [] [] (D.bool r53):=by
 unfold gw at h
 refine .of Go.Proofs.Tryz.func22 rfl (by kernel_rfl) rfl rfl rfl rfl rfl rfl (fun A w0 L b=>?_)
 show Ok PP _ [] [] _ _
 refine .al (.aq rfl<|.nil) rfl ?_
 obtain⟨⟨v1,v2⟩,e3,h⟩:=bind_some h
 refine .al (.ah (uv e3) ⟨rfl,trivial⟩ trivial trivial<|.mv rfl<|.ext rfl rfl<|.ext rfl rfl<|.gd (qC (0)) aJ ⟨nr,nT,nS,trivial⟩ rfl<|.cH (qC (v1)) rfl rfl rfl ae rfl rfl rfl<|.aq rfl<|.nil) rfl ?_
 obtain⟨⟨v4,v5⟩,e6,h⟩:=bind_some h
 refine .al (.ah (uv e6) ⟨rfl,trivial⟩ trivial trivial<|.mv rfl<|.ext rfl rfl<|.ext rfl rfl<|.gd (qC (0)) aJ ⟨nr,nT,nS,trivial⟩ rfl<|.cH (qC (v4)) rfl rfl rfl ae rfl rfl rfl<|.aq rfl<|.nil) rfl ?_
 obtain⟨v7,e8,h⟩:=bind_some h
 obtain⟨⟨v9,v10⟩,e11,h⟩:=bind_some h
 refine .al (.ah (yo e8) ⟨rfl,trivial⟩ trivial trivial<|.ah (D5 e11) ⟨rfl,rfl,trivial⟩ trivial trivial<|.mv rfl<|.ext rfl rfl<|.ext rfl rfl<|.gd (qC (0)) aJ ⟨nr,nT,nS,trivial⟩ rfl<|.cH (qC (v9)) rfl rfl rfl ae rfl rfl rfl<|.aq rfl<|.nil) rfl ?_
 obtain⟨v12,e13,h⟩:=bind_some h
 obtain⟨⟨v14,v15⟩,e16,h⟩:=bind_some h
 refine .al (.ah (kX e13) ⟨rfl,trivial⟩ trivial trivial<|.ah (EL e16) ⟨rfl,rfl,trivial⟩ trivial trivial<|.mv rfl<|.ext rfl rfl<|.ext rfl rfl<|.gd (qC (0)) aJ ⟨nr,nT,nS,trivial⟩ rfl<|.cH (qC (v14)) rfl rfl rfl ae rfl rfl rfl<|.aq rfl<|.nil) rfl ?_
 obtain⟨v17,e18,h⟩:=bind_some h
 obtain⟨⟨v19,v20⟩,e21,h⟩:=bind_some h
 refine .al (.ah (yo e18) ⟨rfl,trivial⟩ trivial trivial<|.ah (D8 e21) ⟨rfl,trivial⟩ trivial trivial<|.gd (qC (0)++qC (0)) mh ⟨nr,nT,nS,nr,nT,nS,trivial⟩ rfl<|.cH (qC (v19)++qC (v20)) rfl rfl rfl lH rfl rfl rfl<|.nil) rfl ?_
 by_cases c22:(v2==0)=true
 ·replace h:=aa c22 h
  by_cases c23:(v5==0)=true
  ·replace h:=aa c23 h
   by_cases c24:(v10==0)=true
   ·replace h:=aa c24 h
    by_cases c25:(v15==0)=true
    ·replace h:=aa c25 h
     obtain⟨v26,e27,h⟩:=bind_some h
     by_cases c28:v26=true
     ·replace h:=aa c28 h
      obtain⟨v29,e30,h⟩:=bind_some h
      by_cases c31:v29=true
      ·replace h:=aa c31 h
       obtain⟨v32,e33,h⟩:=bind_some h
       by_cases c34:v32=true
       ·replace h:=aa c34 h
        obtain⟨v35,e36,h⟩:=bind_some h
        by_cases c37:v35=true
        ·replace h:=aa c37 h
         obtain⟨v38,e39,h⟩:=bind_some h
         by_cases c40:v38=true
         ·replace h:=aa c40 h
          obtain⟨v41,e42,h⟩:=bind_some h
          by_cases c43:v41=true
          ·replace h:=aa c43 h
           obtain⟨v44,e45,h⟩:=bind_some h
           obtain⟨v46,e47,h⟩:=bind_some h
           by_cases c48:v46=true
           ·replace h:=aa c48 h
            obtain⟨v49,e50,h⟩:=bind_some h
            obtain⟨v51,e52,h⟩:=bind_some h
            refine .al (.mv rfl<|.cm rfl rfl rfl<|.mv rfl<|.aV rfl rfl rfl c22<|.mv rfl<|.aV rfl rfl rfl c22<|.cm rfl rfl rfl<|.bn rfl c22 rfl<|.mv rfl<|.aV rfl rfl rfl c23<|.mv rfl<|.aV rfl rfl rfl c23<|.cm rfl rfl rfl<|.bn rfl c23 rfl<|.mv rfl<|.aV rfl rfl rfl c24<|.mv rfl<|.aV rfl rfl rfl c24<|.cm rfl rfl rfl<|.bn rfl c24 rfl<|.mv rfl<|.aV rfl rfl rfl c25<|.b_ (qC (v1)) rfl rfl ae rfl rfl<|.aV rfl rfl rfl c25<|.ah (cq e27) ⟨rfl,rfl,trivial⟩ trivial trivial<|.bn rfl c25 rfl<|.mv rfl<|.aV rfl rfl rfl c28<|.b_ (qC (v4)) rfl rfl ae rfl rfl<|.aV rfl rfl rfl c28<|.ah (cq e30) ⟨rfl,rfl,trivial⟩ trivial trivial<|.bn rfl c28 rfl<|.mv rfl<|.aV rfl rfl rfl c31<|.b_ (qC (v9)) rfl rfl ae rfl rfl<|.aV rfl rfl rfl c31<|.ah (cq e33) ⟨rfl,rfl,trivial⟩ trivial trivial<|.bn rfl c31 rfl<|.mv rfl<|.aV rfl rfl rfl c34<|.b_ (qC (v14)) rfl rfl ae rfl rfl<|.aV rfl rfl rfl c34<|.ah (cq e36) ⟨rfl,rfl,trivial⟩ trivial trivial<|.bn rfl c34 rfl<|.mv rfl<|.aV rfl rfl rfl c37<|.fa rfl ji<|.aV rfl rfl rfl c37<|.b_ (qC (v19)) rfl rfl ae rfl rfl<|.aV rfl rfl rfl c37<|.ah (cq e39) ⟨rfl,rfl,trivial⟩ trivial trivial<|.bn rfl c37 rfl<|.mv rfl<|.aV rfl rfl rfl c40<|.fa rfl kH<|.aV rfl rfl rfl c40<|.b_ (qC (v20)) rfl rfl ae rfl rfl<|.aV rfl rfl rfl c40<|.ah (cq e42) ⟨rfl,rfl,trivial⟩ trivial trivial<|.bn rfl c40 rfl<|.mv rfl<|.aV rfl rfl rfl c43<|.b_ (qC (v1)) rfl rfl ae rfl rfl<|.aV rfl rfl rfl c43<|.b_ (qC (v4)) rfl rfl ae rfl rfl<|.aV rfl rfl rfl c43<|.ah (pQ e45) ⟨rfl,rfl,trivial⟩ trivial trivial<|.aV rfl rfl rfl c43<|.ah (cq e47) ⟨rfl,rfl,trivial⟩ trivial trivial<|.bn rfl c43 rfl<|.mv rfl<|.aV rfl rfl rfl c48<|.b_ (qC (v1)) rfl rfl ae rfl rfl<|.aV rfl rfl rfl c48<|.b_ (qC (v4)) rfl rfl ae rfl rfl<|.aV rfl rfl rfl c48<|.ah (oN e50) ⟨rfl,rfl,trivial⟩ trivial trivial<|.aV rfl rfl rfl c48<|.ah (cq e52) ⟨rfl,rfl,trivial⟩ trivial trivial<|.bn rfl c48 rfl<|.aq rfl<|.nil) rfl ?_
            cases h
            refine .aH (fun _ _ hb=>hb) rfl (.cons (.tmp rfl) .nil) (.refl _) trivial trivial
           ·replace h:=ab c48 h
            refine .al (.mv rfl<|.cm rfl rfl rfl<|.mv rfl<|.aV rfl rfl rfl c22<|.mv rfl<|.aV rfl rfl rfl c22<|.cm rfl rfl rfl<|.bn rfl c22 rfl<|.mv rfl<|.aV rfl rfl rfl c23<|.mv rfl<|.aV rfl rfl rfl c23<|.cm rfl rfl rfl<|.bn rfl c23 rfl<|.mv rfl<|.aV rfl rfl rfl c24<|.mv rfl<|.aV rfl rfl rfl c24<|.cm rfl rfl rfl<|.bn rfl c24 rfl<|.mv rfl<|.aV rfl rfl rfl c25<|.b_ (qC (v1)) rfl rfl ae rfl rfl<|.aV rfl rfl rfl c25<|.ah (cq e27) ⟨rfl,rfl,trivial⟩ trivial trivial<|.bn rfl c25 rfl<|.mv rfl<|.aV rfl rfl rfl c28<|.b_ (qC (v4)) rfl rfl ae rfl rfl<|.aV rfl rfl rfl c28<|.ah (cq e30) ⟨rfl,rfl,trivial⟩ trivial trivial<|.bn rfl c28 rfl<|.mv rfl<|.aV rfl rfl rfl c31<|.b_ (qC (v9)) rfl rfl ae rfl rfl<|.aV rfl rfl rfl c31<|.ah (cq e33) ⟨rfl,rfl,trivial⟩ trivial trivial<|.bn rfl c31 rfl<|.mv rfl<|.aV rfl rfl rfl c34<|.b_ (qC (v14)) rfl rfl ae rfl rfl<|.aV rfl rfl rfl c34<|.ah (cq e36) ⟨rfl,rfl,trivial⟩ trivial trivial<|.bn rfl c34 rfl<|.mv rfl<|.aV rfl rfl rfl c37<|.fa rfl ji<|.aV rfl rfl rfl c37<|.b_ (qC (v19)) rfl rfl ae rfl rfl<|.aV rfl rfl rfl c37<|.ah (cq e39) ⟨rfl,rfl,trivial⟩ trivial trivial<|.bn rfl c37 rfl<|.mv rfl<|.aV rfl rfl rfl c40<|.fa rfl kH<|.aV rfl rfl rfl c40<|.b_ (qC (v20)) rfl rfl ae rfl rfl<|.aV rfl rfl rfl c40<|.ah (cq e42) ⟨rfl,rfl,trivial⟩ trivial trivial<|.bn rfl c40 rfl<|.mv rfl<|.aV rfl rfl rfl c43<|.b_ (qC (v1)) rfl rfl ae rfl rfl<|.aV rfl rfl rfl c43<|.b_ (qC (v4)) rfl rfl ae rfl rfl<|.aV rfl rfl rfl c43<|.ah (pQ e45) ⟨rfl,rfl,trivial⟩ trivial trivial<|.aV rfl rfl rfl c43<|.ah (cq e47) ⟨rfl,rfl,trivial⟩ trivial trivial<|.bn rfl c43 rfl<|.mv rfl<|.aT rfl rfl rfl c48<|.aT rfl rfl rfl c48<|.aT rfl rfl rfl c48<|.aT rfl rfl rfl c48<|.bm rfl c48 rfl<|.aq rfl<|.nil) rfl ?_
            cases h
            refine .aH (fun _ _ hb=>hb) rfl (.cons (.tmp rfl) .nil) (.refl _) trivial trivial
          ·replace h:=ab c43 h
           refine .al (.mv rfl<|.cm rfl rfl rfl<|.mv rfl<|.aV rfl rfl rfl c22<|.mv rfl<|.aV rfl rfl rfl c22<|.cm rfl rfl rfl<|.bn rfl c22 rfl<|.mv rfl<|.aV rfl rfl rfl c23<|.mv rfl<|.aV rfl rfl rfl c23<|.cm rfl rfl rfl<|.bn rfl c23 rfl<|.mv rfl<|.aV rfl rfl rfl c24<|.mv rfl<|.aV rfl rfl rfl c24<|.cm rfl rfl rfl<|.bn rfl c24 rfl<|.mv rfl<|.aV rfl rfl rfl c25<|.b_ (qC (v1)) rfl rfl ae rfl rfl<|.aV rfl rfl rfl c25<|.ah (cq e27) ⟨rfl,rfl,trivial⟩ trivial trivial<|.bn rfl c25 rfl<|.mv rfl<|.aV rfl rfl rfl c28<|.b_ (qC (v4)) rfl rfl ae rfl rfl<|.aV rfl rfl rfl c28<|.ah (cq e30) ⟨rfl,rfl,trivial⟩ trivial trivial<|.bn rfl c28 rfl<|.mv rfl<|.aV rfl rfl rfl c31<|.b_ (qC (v9)) rfl rfl ae rfl rfl<|.aV rfl rfl rfl c31<|.ah (cq e33) ⟨rfl,rfl,trivial⟩ trivial trivial<|.bn rfl c31 rfl<|.mv rfl<|.aV rfl rfl rfl c34<|.b_ (qC (v14)) rfl rfl ae rfl rfl<|.aV rfl rfl rfl c34<|.ah (cq e36) ⟨rfl,rfl,trivial⟩ trivial trivial<|.bn rfl c34 rfl<|.mv rfl<|.aV rfl rfl rfl c37<|.fa rfl ji<|.aV rfl rfl rfl c37<|.b_ (qC (v19)) rfl rfl ae rfl rfl<|.aV rfl rfl rfl c37<|.ah (cq e39) ⟨rfl,rfl,trivial⟩ trivial trivial<|.bn rfl c37 rfl<|.mv rfl<|.aV rfl rfl rfl c40<|.fa rfl kH<|.aV rfl rfl rfl c40<|.b_ (qC (v20)) rfl rfl ae rfl rfl<|.aV rfl rfl rfl c40<|.ah (cq e42) ⟨rfl,rfl,trivial⟩ trivial trivial<|.bn rfl c40 rfl<|.mv rfl<|.aT rfl rfl rfl c43<|.aT rfl rfl rfl c43<|.aT rfl rfl rfl c43<|.aT rfl rfl rfl c43<|.bm rfl c43 rfl<|.mv rfl<|.aT rfl rfl rfl (by decide)<|.aT rfl rfl rfl (by decide)<|.aT rfl rfl rfl (by decide)<|.aT rfl rfl rfl (by decide)<|.bm rfl (by decide) rfl<|.aq rfl<|.nil) rfl ?_
           cases h
           refine .aH (fun _ _ hb=>hb) rfl (.cons (.tmp rfl) .nil) (.refl _) trivial trivial
         ·replace h:=ab c40 h
          refine .al (.mv rfl<|.cm rfl rfl rfl<|.mv rfl<|.aV rfl rfl rfl c22<|.mv rfl<|.aV rfl rfl rfl c22<|.cm rfl rfl rfl<|.bn rfl c22 rfl<|.mv rfl<|.aV rfl rfl rfl c23<|.mv rfl<|.aV rfl rfl rfl c23<|.cm rfl rfl rfl<|.bn rfl c23 rfl<|.mv rfl<|.aV rfl rfl rfl c24<|.mv rfl<|.aV rfl rfl rfl c24<|.cm rfl rfl rfl<|.bn rfl c24 rfl<|.mv rfl<|.aV rfl rfl rfl c25<|.b_ (qC (v1)) rfl rfl ae rfl rfl<|.aV rfl rfl rfl c25<|.ah (cq e27) ⟨rfl,rfl,trivial⟩ trivial trivial<|.bn rfl c25 rfl<|.mv rfl<|.aV rfl rfl rfl c28<|.b_ (qC (v4)) rfl rfl ae rfl rfl<|.aV rfl rfl rfl c28<|.ah (cq e30) ⟨rfl,rfl,trivial⟩ trivial trivial<|.bn rfl c28 rfl<|.mv rfl<|.aV rfl rfl rfl c31<|.b_ (qC (v9)) rfl rfl ae rfl rfl<|.aV rfl rfl rfl c31<|.ah (cq e33) ⟨rfl,rfl,trivial⟩ trivial trivial<|.bn rfl c31 rfl<|.mv rfl<|.aV rfl rfl rfl c34<|.b_ (qC (v14)) rfl rfl ae rfl rfl<|.aV rfl rfl rfl c34<|.ah (cq e36) ⟨rfl,rfl,trivial⟩ trivial trivial<|.bn rfl c34 rfl<|.mv rfl<|.aV rfl rfl rfl c37<|.fa rfl ji<|.aV rfl rfl rfl c37<|.b_ (qC (v19)) rfl rfl ae rfl rfl<|.aV rfl rfl rfl c37<|.ah (cq e39) ⟨rfl,rfl,trivial⟩ trivial trivial<|.bn rfl c37 rfl<|.mv rfl<|.aT rfl rfl rfl c40<|.aT rfl rfl rfl c40<|.aT rfl rfl rfl c40<|.bm rfl c40 rfl<|.mv rfl<|.aT rfl rfl rfl (by decide)<|.aT rfl rfl rfl (by decide)<|.aT rfl rfl rfl (by decide)<|.aT rfl rfl rfl (by decide)<|.bm rfl (by decide) rfl<|.mv rfl<|.aT rfl rfl rfl (by decide)<|.aT rfl rfl rfl (by decide)<|.aT rfl rfl rfl (by decide)<|.aT rfl rfl rfl (by decide)<|.bm rfl (by decide) rfl<|.aq rfl<|.nil) rfl ?_
          cases h
          refine .aH (fun _ _ hb=>hb) rfl (.cons (.tmp rfl) .nil) (.refl _) trivial trivial
        ·replace h:=ab c37 h
         refine .al (.mv rfl<|.cm rfl rfl rfl<|.mv rfl<|.aV rfl rfl rfl c22<|.mv rfl<|.aV rfl rfl rfl c22<|.cm rfl rfl rfl<|.bn rfl c22 rfl<|.mv rfl<|.aV rfl rfl rfl c23<|.mv rfl<|.aV rfl rfl rfl c23<|.cm rfl rfl rfl<|.bn rfl c23 rfl<|.mv rfl<|.aV rfl rfl rfl c24<|.mv rfl<|.aV rfl rfl rfl c24<|.cm rfl rfl rfl<|.bn rfl c24 rfl<|.mv rfl<|.aV rfl rfl rfl c25<|.b_ (qC (v1)) rfl rfl ae rfl rfl<|.aV rfl rfl rfl c25<|.ah (cq e27) ⟨rfl,rfl,trivial⟩ trivial trivial<|.bn rfl c25 rfl<|.mv rfl<|.aV rfl rfl rfl c28<|.b_ (qC (v4)) rfl rfl ae rfl rfl<|.aV rfl rfl rfl c28<|.ah (cq e30) ⟨rfl,rfl,trivial⟩ trivial trivial<|.bn rfl c28 rfl<|.mv rfl<|.aV rfl rfl rfl c31<|.b_ (qC (v9)) rfl rfl ae rfl rfl<|.aV rfl rfl rfl c31<|.ah (cq e33) ⟨rfl,rfl,trivial⟩ trivial trivial<|.bn rfl c31 rfl<|.mv rfl<|.aV rfl rfl rfl c34<|.b_ (qC (v14)) rfl rfl ae rfl rfl<|.aV rfl rfl rfl c34<|.ah (cq e36) ⟨rfl,rfl,trivial⟩ trivial trivial<|.bn rfl c34 rfl<|.mv rfl<|.aT rfl rfl rfl c37<|.aT rfl rfl rfl c37<|.aT rfl rfl rfl c37<|.bm rfl c37 rfl<|.mv rfl<|.aT rfl rfl rfl (by decide)<|.aT rfl rfl rfl (by decide)<|.aT rfl rfl rfl (by decide)<|.bm rfl (by decide) rfl<|.mv rfl<|.aT rfl rfl rfl (by decide)<|.aT rfl rfl rfl (by decide)<|.aT rfl rfl rfl (by decide)<|.aT rfl rfl rfl (by decide)<|.bm rfl (by decide) rfl<|.mv rfl<|.aT rfl rfl rfl (by decide)<|.aT rfl rfl rfl (by decide)<|.aT rfl rfl rfl (by decide)<|.aT rfl rfl rfl (by decide)<|.bm rfl (by decide) rfl<|.aq rfl<|.nil) rfl ?_
         cases h
         refine .aH (fun _ _ hb=>hb) rfl (.cons (.tmp rfl) .nil) (.refl _) trivial trivial
       ·replace h:=ab c34 h
        refine .al (.mv rfl<|.cm rfl rfl rfl<|.mv rfl<|.aV rfl rfl rfl c22<|.mv rfl<|.aV rfl rfl rfl c22<|.cm rfl rfl rfl<|.bn rfl c22 rfl<|.mv rfl<|.aV rfl rfl rfl c23<|.mv rfl<|.aV rfl rfl rfl c23<|.cm rfl rfl rfl<|.bn rfl c23 rfl<|.mv rfl<|.aV rfl rfl rfl c24<|.mv rfl<|.aV rfl rfl rfl c24<|.cm rfl rfl rfl<|.bn rfl c24 rfl<|.mv rfl<|.aV rfl rfl rfl c25<|.b_ (qC (v1)) rfl rfl ae rfl rfl<|.aV rfl rfl rfl c25<|.ah (cq e27) ⟨rfl,rfl,trivial⟩ trivial trivial<|.bn rfl c25 rfl<|.mv rfl<|.aV rfl rfl rfl c28<|.b_ (qC (v4)) rfl rfl ae rfl rfl<|.aV rfl rfl rfl c28<|.ah (cq e30) ⟨rfl,rfl,trivial⟩ trivial trivial<|.bn rfl c28 rfl<|.mv rfl<|.aV rfl rfl rfl c31<|.b_ (qC (v9)) rfl rfl ae rfl rfl<|.aV rfl rfl rfl c31<|.ah (cq e33) ⟨rfl,rfl,trivial⟩ trivial trivial<|.bn rfl c31 rfl<|.mv rfl<|.aT rfl rfl rfl c34<|.aT rfl rfl rfl c34<|.bm rfl c34 rfl<|.mv rfl<|.aT rfl rfl rfl (by decide)<|.aT rfl rfl rfl (by decide)<|.aT rfl rfl rfl (by decide)<|.bm rfl (by decide) rfl<|.mv rfl<|.aT rfl rfl rfl (by decide)<|.aT rfl rfl rfl (by decide)<|.aT rfl rfl rfl (by decide)<|.bm rfl (by decide) rfl<|.mv rfl<|.aT rfl rfl rfl (by decide)<|.aT rfl rfl rfl (by decide)<|.aT rfl rfl rfl (by decide)<|.aT rfl rfl rfl (by decide)<|.bm rfl (by decide) rfl<|.mv rfl<|.aT rfl rfl rfl (by decide)<|.aT rfl rfl rfl (by decide)<|.aT rfl rfl rfl (by decide)<|.aT rfl rfl rfl (by decide)<|.bm rfl (by decide) rfl<|.aq rfl<|.nil) rfl ?_
        cases h
        refine .aH (fun _ _ hb=>hb) rfl (.cons (.tmp rfl) .nil) (.refl _) trivial trivial
      ·replace h:=ab c31 h
       refine .al (.mv rfl<|.cm rfl rfl rfl<|.mv rfl<|.aV rfl rfl rfl c22<|.mv rfl<|.aV rfl rfl rfl c22<|.cm rfl rfl rfl<|.bn rfl c22 rfl<|.mv rfl<|.aV rfl rfl rfl c23<|.mv rfl<|.aV rfl rfl rfl c23<|.cm rfl rfl rfl<|.bn rfl c23 rfl<|.mv rfl<|.aV rfl rfl rfl c24<|.mv rfl<|.aV rfl rfl rfl c24<|.cm rfl rfl rfl<|.bn rfl c24 rfl<|.mv rfl<|.aV rfl rfl rfl c25<|.b_ (qC (v1)) rfl rfl ae rfl rfl<|.aV rfl rfl rfl c25<|.ah (cq e27) ⟨rfl,rfl,trivial⟩ trivial trivial<|.bn rfl c25 rfl<|.mv rfl<|.aV rfl rfl rfl c28<|.b_ (qC (v4)) rfl rfl ae rfl rfl<|.aV rfl rfl rfl c28<|.ah (cq e30) ⟨rfl,rfl,trivial⟩ trivial trivial<|.bn rfl c28 rfl<|.mv rfl<|.aT rfl rfl rfl c31<|.aT rfl rfl rfl c31<|.bm rfl c31 rfl<|.mv rfl<|.aT rfl rfl rfl (by decide)<|.aT rfl rfl rfl (by decide)<|.bm rfl (by decide) rfl<|.mv rfl<|.aT rfl rfl rfl (by decide)<|.aT rfl rfl rfl (by decide)<|.aT rfl rfl rfl (by decide)<|.bm rfl (by decide) rfl<|.mv rfl<|.aT rfl rfl rfl (by decide)<|.aT rfl rfl rfl (by decide)<|.aT rfl rfl rfl (by decide)<|.bm rfl (by decide) rfl<|.mv rfl<|.aT rfl rfl rfl (by decide)<|.aT rfl rfl rfl (by decide)<|.aT rfl rfl rfl (by decide)<|.aT rfl rfl rfl (by decide)<|.bm rfl (by decide) rfl<|.mv rfl<|.aT rfl rfl rfl (by decide)<|.aT rfl rfl rfl (by decide)<|.aT rfl rfl rfl (by decide)<|.aT rfl rfl rfl (by decide)<|.bm rfl (by decide) rfl<|.aq rfl<|.nil) rfl ?_
       cases h
       refine .aH (fun _ _ hb=>hb) rfl (.cons (.tmp rfl) .nil) (.refl _) trivial trivial
     ·replace h:=ab c28 h
      refine .al (.mv rfl<|.cm rfl rfl rfl<|.mv rfl<|.aV rfl rfl rfl c22<|.mv rfl<|.aV rfl rfl rfl c22<|.cm rfl rfl rfl<|.bn rfl c22 rfl<|.mv rfl<|.aV rfl rfl rfl c23<|.mv rfl<|.aV rfl rfl rfl c23<|.cm rfl rfl rfl<|.bn rfl c23 rfl<|.mv rfl<|.aV rfl rfl rfl c24<|.mv rfl<|.aV rfl rfl rfl c24<|.cm rfl rfl rfl<|.bn rfl c24 rfl<|.mv rfl<|.aV rfl rfl rfl c25<|.b_ (qC (v1)) rfl rfl ae rfl rfl<|.aV rfl rfl rfl c25<|.ah (cq e27) ⟨rfl,rfl,trivial⟩ trivial trivial<|.bn rfl c25 rfl<|.mv rfl<|.aT rfl rfl rfl c28<|.aT rfl rfl rfl c28<|.bm rfl c28 rfl<|.mv rfl<|.aT rfl rfl rfl (by decide)<|.aT rfl rfl rfl (by decide)<|.bm rfl (by decide) rfl<|.mv rfl<|.aT rfl rfl rfl (by decide)<|.aT rfl rfl rfl (by decide)<|.bm rfl (by decide) rfl<|.mv rfl<|.aT rfl rfl rfl (by decide)<|.aT rfl rfl rfl (by decide)<|.aT rfl rfl rfl (by decide)<|.bm rfl (by decide) rfl<|.mv rfl<|.aT rfl rfl rfl (by decide)<|.aT rfl rfl rfl (by decide)<|.aT rfl rfl rfl (by decide)<|.bm rfl (by decide) rfl<|.mv rfl<|.aT rfl rfl rfl (by decide)<|.aT rfl rfl rfl (by decide)<|.aT rfl rfl rfl (by decide)<|.aT rfl rfl rfl (by decide)<|.bm rfl (by decide) rfl<|.mv rfl<|.aT rfl rfl rfl (by decide)<|.aT rfl rfl rfl (by decide)<|.aT rfl rfl rfl (by decide)<|.aT rfl rfl rfl (by decide)<|.bm rfl (by decide) rfl<|.aq rfl<|.nil) rfl ?_
      cases h
      refine .aH (fun _ _ hb=>hb) rfl (.cons (.tmp rfl) .nil) (.refl _) trivial trivial
    ·replace h:=ab c25 h
     refine .al (.mv rfl<|.cm rfl rfl rfl<|.mv rfl<|.aV rfl rfl rfl c22<|.mv rfl<|.aV rfl rfl rfl c22<|.cm rfl rfl rfl<|.bn rfl c22 rfl<|.mv rfl<|.aV rfl rfl rfl c23<|.mv rfl<|.aV rfl rfl rfl c23<|.cm rfl rfl rfl<|.bn rfl c23 rfl<|.mv rfl<|.aV rfl rfl rfl c24<|.mv rfl<|.aV rfl rfl rfl c24<|.cm rfl rfl rfl<|.bn rfl c24 rfl<|.mv rfl<|.aT rfl rfl rfl c25<|.aT rfl rfl rfl c25<|.bm rfl c25 rfl<|.mv rfl<|.aT rfl rfl rfl (by decide)<|.aT rfl rfl rfl (by decide)<|.bm rfl (by decide) rfl<|.mv rfl<|.aT rfl rfl rfl (by decide)<|.aT rfl rfl rfl (by decide)<|.bm rfl (by decide) rfl<|.mv rfl<|.aT rfl rfl rfl (by decide)<|.aT rfl rfl rfl (by decide)<|.bm rfl (by decide) rfl<|.mv rfl<|.aT rfl rfl rfl (by decide)<|.aT rfl rfl rfl (by decide)<|.aT rfl rfl rfl (by decide)<|.bm rfl (by decide) rfl<|.mv rfl<|.aT rfl rfl rfl (by decide)<|.aT rfl rfl rfl (by decide)<|.aT rfl rfl rfl (by decide)<|.bm rfl (by decide) rfl<|.mv rfl<|.aT rfl rfl rfl (by decide)<|.aT rfl rfl rfl (by decide)<|.aT rfl rfl rfl (by decide)<|.aT rfl rfl rfl (by decide)<|.bm rfl (by decide) rfl<|.mv rfl<|.aT rfl rfl rfl (by decide)<|.aT rfl rfl rfl (by decide)<|.aT rfl rfl rfl (by decide)<|.aT rfl rfl rfl (by decide)<|.bm rfl (by decide) rfl<|.aq rfl<|.nil) rfl ?_
     cases h
     refine .aH (fun _ _ hb=>hb) rfl (.cons (.tmp rfl) .nil) (.refl _) trivial trivial
   ·replace h:=ab c24 h
    refine .al (.mv rfl<|.cm rfl rfl rfl<|.mv rfl<|.aV rfl rfl rfl c22<|.mv rfl<|.aV rfl rfl rfl c22<|.cm rfl rfl rfl<|.bn rfl c22 rfl<|.mv rfl<|.aV rfl rfl rfl c23<|.mv rfl<|.aV rfl rfl rfl c23<|.cm rfl rfl rfl<|.bn rfl c23 rfl<|.mv rfl<|.aT rfl rfl rfl c24<|.aT rfl rfl rfl c24<|.bm rfl c24 rfl<|.mv rfl<|.aT rfl rfl rfl (by decide)<|.aT rfl rfl rfl (by decide)<|.bm rfl (by decide) rfl<|.mv rfl<|.aT rfl rfl rfl (by decide)<|.aT rfl rfl rfl (by decide)<|.bm rfl (by decide) rfl<|.mv rfl<|.aT rfl rfl rfl (by decide)<|.aT rfl rfl rfl (by decide)<|.bm rfl (by decide) rfl<|.mv rfl<|.aT rfl rfl rfl (by decide)<|.aT rfl rfl rfl (by decide)<|.bm rfl (by decide) rfl<|.mv rfl<|.aT rfl rfl rfl (by decide)<|.aT rfl rfl rfl (by decide)<|.aT rfl rfl rfl (by decide)<|.bm rfl (by decide) rfl<|.mv rfl<|.aT rfl rfl rfl (by decide)<|.aT rfl rfl rfl (by decide)<|.aT rfl rfl rfl (by decide)<|.bm rfl (by decide) rfl<|.mv rfl<|.aT rfl rfl rfl (by decide)<|.aT rfl rfl rfl (by decide)<|.aT rfl rfl rfl (by decide)<|.aT rfl rfl rfl (by decide)<|.bm rfl (by decide) rfl<|.mv rfl<|.aT rfl rfl rfl (by decide)<|.aT rfl rfl rfl (by decide)<|.aT rfl rfl rfl (by decide)<|.aT rfl rfl rfl (by decide)<|.bm rfl (by decide) rfl<|.aq rfl<|.nil) rfl ?_
    cases h
    refine .aH (fun _ _ hb=>hb) rfl (.cons (.tmp rfl) .nil) (.refl _) trivial trivial
  ·replace h:=ab c23 h
   refine .al (.mv rfl<|.cm rfl rfl rfl<|.mv rfl<|.aV rfl rfl rfl c22<|.mv rfl<|.aV rfl rfl rfl c22<|.cm rfl rfl rfl<|.bn rfl c22 rfl<|.mv rfl<|.aT rfl rfl rfl c23<|.aT rfl rfl rfl c23<|.bm rfl c23 rfl<|.mv rfl<|.aT rfl rfl rfl (by decide)<|.aT rfl rfl rfl (by decide)<|.bm rfl (by decide) rfl<|.mv rfl<|.aT rfl rfl rfl (by decide)<|.aT rfl rfl rfl (by decide)<|.bm rfl (by decide) rfl<|.mv rfl<|.aT rfl rfl rfl (by decide)<|.aT rfl rfl rfl (by decide)<|.bm rfl (by decide) rfl<|.mv rfl<|.aT rfl rfl rfl (by decide)<|.aT rfl rfl rfl (by decide)<|.bm rfl (by decide) rfl<|.mv rfl<|.aT rfl rfl rfl (by decide)<|.aT rfl rfl rfl (by decide)<|.bm rfl (by decide) rfl<|.mv rfl<|.aT rfl rfl rfl (by decide)<|.aT rfl rfl rfl (by decide)<|.aT rfl rfl rfl (by decide)<|.bm rfl (by decide) rfl<|.mv rfl<|.aT rfl rfl rfl (by decide)<|.aT rfl rfl rfl (by decide)<|.aT rfl rfl rfl (by decide)<|.bm rfl (by decide) rfl<|.mv rfl<|.aT rfl rfl rfl (by decide)<|.aT rfl rfl rfl (by decide)<|.aT rfl rfl rfl (by decide)<|.aT rfl rfl rfl (by decide)<|.bm rfl (by decide) rfl<|.mv rfl<|.aT rfl rfl rfl (by decide)<|.aT rfl rfl rfl (by decide)<|.aT rfl rfl rfl (by decide)<|.aT rfl rfl rfl (by decide)<|.bm rfl (by decide) rfl<|.aq rfl<|.nil) rfl ?_
   cases h
   refine .aH (fun _ _ hb=>hb) rfl (.cons (.tmp rfl) .nil) (.refl _) trivial trivial
 ·replace h:=ab c22 h
  refine .al (.mv rfl<|.cm rfl rfl rfl<|.mv rfl<|.aT rfl rfl rfl c22<|.aT rfl rfl rfl c22<|.bm rfl c22 rfl<|.mv rfl<|.aT rfl rfl rfl (by decide)<|.aT rfl rfl rfl (by decide)<|.bm rfl (by decide) rfl<|.mv rfl<|.aT rfl rfl rfl (by decide)<|.aT rfl rfl rfl (by decide)<|.bm rfl (by decide) rfl<|.mv rfl<|.aT rfl rfl rfl (by decide)<|.aT rfl rfl rfl (by decide)<|.bm rfl (by decide) rfl<|.mv rfl<|.aT rfl rfl rfl (by decide)<|.aT rfl rfl rfl (by decide)<|.bm rfl (by decide) rfl<|.mv rfl<|.aT rfl rfl rfl (by decide)<|.aT rfl rfl rfl (by decide)<|.bm rfl (by decide) rfl<|.mv rfl<|.aT rfl rfl rfl (by decide)<|.aT rfl rfl rfl (by decide)<|.bm rfl (by decide) rfl<|.mv rfl<|.aT rfl rfl rfl (by decide)<|.aT rfl rfl rfl (by decide)<|.aT rfl rfl rfl (by decide)<|.bm rfl (by decide) rfl<|.mv rfl<|.aT rfl rfl rfl (by decide)<|.aT rfl rfl rfl (by decide)<|.aT rfl rfl rfl (by decide)<|.bm rfl (by decide) rfl<|.mv rfl<|.aT rfl rfl rfl (by decide)<|.aT rfl rfl rfl (by decide)<|.aT rfl rfl rfl (by decide)<|.aT rfl rfl rfl (by decide)<|.bm rfl (by decide) rfl<|.mv rfl<|.aT rfl rfl rfl (by decide)<|.aT rfl rfl rfl (by decide)<|.aT rfl rfl rfl (by decide)<|.aT rfl rfl rfl (by decide)<|.bm rfl (by decide) rfl<|.aq rfl<|.nil) rfl ?_
  cases h
  refine .aH (fun _ _ hb=>hb) rfl (.cons (.tmp rfl) .nil) (.refl _) trivial trivial
end
end Go.Am
namespace Go.Am
theorem Ab{a b:Rat}(h:eC a)(k:eC b):ky a b=some (a-b):=aQ ⟨h,k⟩
theorem q8{a b:Rat}(h:eC a)(k:eC b):iR a b=some (a*b):=aQ ⟨h,k⟩
theorem sG{a b:Rat}(h0:b≠0)(h:eC a)(k:eC b):gS a b=some (a/b):=aQ ⟨h0,h,k⟩
theorem yE{a:Rat}(h:eC a):po a=some (Fb a):=aQ h
theorem ze{a:Rat}(h:eC a):l9 a a=some true:=by
 unfold l9
 rw[yE h]
 simp
def qY(n d p:Int):Rat:=((n:Rat)/(((if d=0 then 1 else d):Int):Rat))^(1+(p%4).toNat)
theorem EH(n d:Int)(hd:d≠0):(n:Rat)/(d:Rat)=mkRat (if d<0 then-n else n) d.natAbs:=by
 rw[Rat.mkRat_eq_div]
 by_cases h:d<0
 ·rw[if_pos h]
  have e:((d.natAbs:Nat):Rat)=-(d:Rat):=by
   have:((d.natAbs:Nat):Int)=-d:=by omega
   have h2:((d.natAbs:Nat):Rat)=(((d.natAbs:Nat):Int):Rat):=rfl
   rw[h2,this,Rat.intCast_neg]
  rw[e,Rat.intCast_neg];grind
 ·rw[if_neg h]
  have e:((d.natAbs:Nat):Rat)=(d:Rat):=by
   have:((d.natAbs:Nat):Int)=d:=by omega
   have h2:((d.natAbs:Nat):Rat)=(((d.natAbs:Nat):Int):Rat):=rfl
   rw[h2,this]
  rw[e]
theorem C5{n d:Int}(hn:eE n)(hd:eE d)(h0:d≠0):sz ((n:Rat)/(d:Rat))<=64:=by
 rw[EH n d h0]
 unfold eE at hn hd
 refine DD _ _ _ (by omega) (dI ?_) (dI ?_)
 ·split<;>omega
 ·omega
theorem xW(n d p:Int)(hn:eE n)(hd:eE d)(hp:0<=p/\p<=255):mI n d p=some (qY n d p,qY n d p)/\sz (qY n d p)<=256:=by
 obtain⟨D,hD⟩:∃D,D=if d=0 then 1 else d:=⟨_,rfl⟩
 have hD0:D≠0:=by rw[hD];split<;>omega
 have hDr:eE D:=by
  rw[hD];unfold eE at hd|-
  split<;>omega
 have hx:sz ((n:Rat)/(D:Rat))<=64:=C5 hn hDr hD0
 generalize hX:(n:Rat)/(D:Rat)=X at hx
 have hpow:∀i:Nat,sz (X^(1+i))<=64*(1+i):=by
  intro i
  induction i with
  |zero=>simpa using hx
  |succ i ih=>
   rw[show 1+(i+1)=(1+i)+1 by omega,Rat.pow_succ]
   have:=lZ (X^(1+i)) X
   omega
 have hm:Int.tmod p 4=p%4:=Int.tmod_eq_emod_of_nonneg hp.1
 have hb:qY n d p=X^(1+(p%4).toNat):=by unfold qY;rw[←hD,hX]
 refine⟨?_,by rw[hb];have:=hpow (p%4).toNat;omega⟩
 unfold mI
 have e1:(if(d==0)=true then some 1 else some d)=some D:=by rw[hD];by_cases h:d=0<;>simp[h]
 have e2:B9 n D=some (X,0):=by
  unfold B9
  rw[aQ ⟨hn,hDr⟩,if_neg hD0,hX]
 have e3:Ds n D=some X:=by
  unfold Ds
  rw[aQ ⟨hn,hDr,hD0⟩,hX]
 rw[e1]
 simp only[Option.bind_some]
 rw[e2]
 simp only[Option.bind_some]
 rw[e3]
 simp only[Option.bind_some]
 obtain⟨r,hr,rfl⟩:=bI (body:=fun(s:Int×Rat×Rat)=>jy p X X s.1 s.2.1 s.2.2) (0,X,X) (fun s=>∃i:Nat,i<=(p%4).toNat/\s=((i:Int),X^(1+i),X^(1+i))) (fun s=>(4-s.1).toNat) (fun r=>r=(X^(1+(p%4).toNat),X^(1+(p%4).toNat))) ⟨0,Nat.zero_le _,by simp⟩ (by
  rintro s ⟨i,hi,rfl⟩
  simp only
  unfold jy
  rw[hm]
  by_cases h:(i:Int)<p%4
  ·left
   have h1:eC (X^(1+i)):=Nat.le_trans (hpow i) (by omega)
   have h2:eC X:=Nat.le_trans hx (by omega)
   rw[if_pos (decide_eq_true h),q8 h1 h2]
   simp only[Option.bind_some]
   have h3:IntKind.u8.wrap ((i:Int)+1)=(i:Int)+1:=BS _ (by omega)
   rw[h3]
   refine⟨_,rfl,⟨i+1,by omega,?_⟩,by omega⟩
   rw[show 1+(i+1)=(1+i)+1 by omega,Rat.pow_succ];rfl
  ·right
   rw[if_neg (by simpa using h)]
   refine⟨_,rfl,?_⟩
   have:i=(p%4).toNat:=by omega
   rw[this])
 rw[hr,hb]
 rfl
end Go.Am
namespace Go.Am
theorem i7:gw=some true:=by decide+kernel
end Go.Am
namespace Go.Am
open Go.RowKit
set_option maxRecDepth 100000
noncomputable section
end
end Go.Am
namespace Go.Am
def oJ(x:Int×Int×Int):Prop:=eE x.1/\eE x.2.1/\0<=x.2.2/\x.2.2<=255
def cO(l:List (Int×Int×Int)):List Rat:=l.map fun x=>qY x.1 x.2.1 x.2.2
theorem jO{α:Type}{l:List α}{d:α}{i:Nat}(h:i<l.length):l.getD i d=l[i]:=by simp[List.getD,h]
theorem kA{α:Type}{l:List α}{d:α}{i:Nat}(h:l.length<=i):l.getD i d=d:=by simp[List.getD,h]
theorem FW{α:Type}(l:List α)(d:α)(i:Nat)(h:i<l.length):ix l (i:Int)=some (l.getD i d):=by
 rw[et h,jO h]
theorem dL{i n:Nat}(h:i<n)(hn:n<=1000):IntKind.i64.wrap ((i:Int)+1)=((i+1:Nat):Int):=by
 rw[i64_in (by omega)];omega
theorem vo{l:List (Int×Int×Int)}(h:∀x∈l,oJ x)(i:Nat):sz ((cO l).getD i 0)<=256:=by
 by_cases hi:i<(cO l).length
 ·rw[jO hi]
  have hi':i<l.length:=by simpa [cO]using hi
  simp only[cO,List.getElem_map]
  have:=h l[i] (List.getElem_mem hi')
  exact(xW _ _ _ this.1 this.2.1 this.2.2).2
 ·rw[kA (by omega)];decide
theorem xX(l:List (Int×Int×Int))(h:∀x∈l,oJ x)(hl:l.length<=30):kM l=some (cO l,cO l):=by
 unfold kM
 obtain⟨r,hr,rfl⟩:=bI (body:=fun(s:Int×(List Rat)×(List Rat))=>jl l s.1 s.2.1 s.2.2) (0,[],[]) (fun s=>∃i:Nat,i<=l.length/\s=((i:Int),(cO l).take i,(cO l).take i)) (fun s=>(l.length-s.1).toNat) (fun r=>r=(cO l,cO l)) ⟨0,Nat.zero_le _,by simp⟩ (by
  rintro s ⟨i,hi,rfl⟩
  simp only
  unfold jl
  by_cases hlt:i<l.length
  ·left
   have hb:i<(cO l).length:=by simpa [cO]using hlt
   have hm:(cO l).length=l.length:=by simp[cO]
   have hx:ix l (i:Int)=some l[i]:=by
    unfold ix
    rw[if_pos (by omega),Int.toNat_natCast,List.getElem?_eq_getElem hlt]
   have ho:=h l[i] (List.getElem_mem hlt)
   have hB:=(xW _ _ _ ho.1 ho.2.1 ho.2.2).1
   rw[if_pos (decide_eq_true (by omega)),hx]
   simp only[Option.bind_some]
   rw[hB]
   simp only[Option.bind_some]
   have ht:((cO l).take i).length=i:=by rw[List.length_take];omega
   rw[aQ (by rw[ht];simp only[List.length_cons,List.length_nil];omega),aQ (by rw[ht];simp only[List.length_cons,List.length_nil];omega),dL hlt (by omega)]
   have e:qY l[i].1 l[i].2.1 l[i].2.2=(cO l)[i]:=by simp[cO]
   rw[e]
   refine⟨_,rfl,⟨i+1,hlt,?_⟩,by simp only;omega⟩
   rw[List.take_succ_eq_append_getElem hb]
  ·right
   rw[if_neg (by simp;omega)]
   refine⟨_,rfl,?_⟩
   have:i=(cO l).length:=by simp[cO];omega
   rw[this,List.take_length])
 rw[hr]
 rfl
end Go.Am
namespace Go.Am
theorem Fs:gz 1=some 1:=by decide+kernel
theorem oW{x:Rat}:zN x=0↔x=0:=by unfold zN;grind
end Go.Am
namespace Go.Am
open Go.RowKit
def D.mr(s k:Nat):D where
 p:=fun ε _ _ v=>v.oneCell'=true/\∃vs:Array Value,ε s=.agg vs/\vs[k]?=some v
 nm:=[s]
 sh:=.one
 mono:=fun h he _=>by rw[he _ (by simp)];exact h
 i9:=fun h=>h.1
def D.mc(s k off:Nat):D where
 p:=fun ε _ _ v=>∃(vs:Array Value) (u:Value),ε s=.agg vs/\vs[k]?=some u/\v=.pointer (some ⟨jF u,off,none⟩)
 nm:=[s]
 sh:=.one
 mono:=fun h he _=>by rw[he _ (by simp)];exact h
 i9:=fun⟨_,_,_,_,e⟩=>by subst e;rfl
def Hp.store{α:Type}(e:ak α)(te:TypeId)(M:List (List α)):Hp where
 p:=fun ε w S b F=>∃(vs:Array Value) (G:Nat->cr),b=.agg vs/\vs.size=M.length/\
  (∀k xs v,M[k]?=some xs->vs[k]?=some v->(a_ e te xs).p ε w S v (G k))/\
  (∀k k',k<M.length->k'<M.length->k≠k'->∀i,G k i->¬G k' i)/\(∀i,F i↔∃k,k<M.length/\G k i)
 nm:=[]
 mono:=fun⟨vs,G,h1,h2,h3,h4,h5⟩ he hS hF=>⟨vs,G,h1,h2,fun k xs v hx hv=>(a_ e te xs).mono (h3 k xs v hx hv) (fun r hr=>by cases hr) hS (fun i hi=>hF i ((h5 i).2 ⟨k,(List.getElem?_eq_some_iff.1 hx).1,hi⟩)),h4,h5⟩
def ll(m:Nat)(ty:TypeId)(l:List D)(ε:Env)(w:World)(S:cr)(b:Value)(F:cr):Prop:=
 (l=[]/\b=.slice none 0 0/\F=noBlocks)\/
  ∃(g n cap:Nat) (cs rest:List Value),b=.slice (some ⟨g,0,none⟩) n cap/\F=only g/\w.heap[g]?=some (.cells (cs++rest).toArray ty (0,0))/\(∀u∈cs,u.oneCell'=true)/\(cs++rest).length=cap*m/\cap<=maxLen/\l.length=n*m/\bW ε w S l cs
theorem mT{m:Nat}{ty:TypeId}{l:List D}{ε ε':Env}{w w':World}{S S':cr}{b:Value}{F:cr}(h:ll m ty l ε w S b F)(he:∀r∈bK l,ε' r=ε r)(hS:∀k,S k->k<w.heap.size->S' k/\w'.heap[k]?=w.heap[k]?)(hF:∀k,F k->w'.heap[k]?=w.heap[k]?):ll m ty l ε' w' S' b F:=by
 rcases h with h|⟨g,n,cap,cs,rest,h1,h2,h3,h4,h5,h8,h6,h7⟩
 ·exact .inl h
 ·exact .inr ⟨g,n,cap,cs,rest,h1,h2,(hF g (by rw[h2];rfl)).trans h3,h4,h5,h8,h6,bD hS h7 he⟩
def hJ(s n:Nat):List D:=(List.range n).map (D.mr s)
theorem zx{s n r:Nat}(h:r∈bK (hJ s n)):r=s:=by
 obtain⟨d,hd,hr⟩:=bR.1 h
 obtain⟨k,_,rfl⟩:=List.mem_map.1 hd
 simpa [D.mr]using hr
theorem lL{α:Type}(e:ak α)(X:List (List α)):bK (X.map (ag e))=[]:=by
 induction X with
 |nil=>rfl
 |cons x X ih=>exact ih
def Hp.cl{α:Type}(e:ak α)(te:TypeId)(s:Nat)(X:List (List α)):Hp where
 p:=fun ε w S b F=>∃vs:Array Value,ε s=.agg vs/\ll 1 te (hJ s vs.size++X.map (ag e)) ε w S b F
 nm:=[s]
 mono:=fun⟨vs,h1,h2⟩ he hS hF=>⟨vs,by rw[he _ (by simp)];exact h1,mT h2 (fun r hr=>by
  rcases bR.1 hr with⟨d,hd,hr'⟩
  rcases List.mem_append.1 hd with hd|hd
  ·exact he _ (by rw[zx (bR.2 ⟨d,hd,hr'⟩)];simp)
  ·have:=bR.2 ⟨d,hd,hr'⟩
   rw[lL]at this
   cases this) hS hF⟩
theorem cp.yq{c:Ctx}{T:Nat->Option D}{H:Nat->Option Hp}{a:Act}{w:World}{ε ε':Env}{φ φ':Nat->cr}(h:cp c T H a w ε φ){L:List (Nat×Hp)}
  (hε:∀q,H q≠none->ε' q=ε q)
  (hφ:∀q,ai L q=none->φ' q=φ q)
  (hF:∀q k,ai L q≠none->φ' q k->∃q',H q'≠none/\ai L q'≠none/\φ q' k)
  (hdj:∀q q',ai L q≠none->ai L q'≠none->q≠q'->∀k,φ' q k->¬φ' q' k)
  (hp:∀q x,ai L q=some x->x.p ε' w (al c (bB H L) φ') (ε' q) (φ' q))
  (hn:∀q x,ai L q=some x->∀q'∈x.nm,H q'≠none\/ai L q'≠none):
  cp c T (bB H L) a w ε' φ'/\(∀k,al c H φ k->al c (bB H L) φ' k):=by
 have hU:∀r,bB H L r≠none↔(ai L r≠none\/H r≠none):=by
  intro r
  simp only[bB]
  cases ai L r<;>simp
 have hreg:∀k,al c H φ k->al c (bB H L) φ' k:=by
  intro k hk
  refine⟨hk.1,fun r hr hf=>?_⟩
  by_cases hL:ai L r=none
  ·rw[hφ r hL]at hf
   exact hk.2 r (((hU r).1 hr).resolve_left (fun h=>h hL)) hf
  ·obtain⟨q',h1,_,h3⟩:=hF r k hL hf
   exact hk.2 q' h1 h3
 have hS:∀k,al c H φ k->k<w.heap.size->al c (bB H L) φ' k/\w.heap[k]?=w.heap[k]?:=fun k hk _=>⟨hreg k hk,rfl⟩
 refine⟨?_,hreg⟩
 constructor
 ·exact fun t d ht=>d.mono (h.t t d ht) (fun r hr=>hε r (h.tn t d ht r hr)) hS
 ·exact fun t d ht r hr=>(hU r).2 (.inr (h.tn t d ht r hr))
 ·intro r x hr
  by_cases hL:ai L r=none
  ·have hr0:H r=some x:=by simpa only[bB,hL]using hr
   rw[hφ r hL,hε r (by rw[hr0];simp)]
   exact x.mono (h.h r x hr0) (fun r2 h2=>hε r2 (h.hn r x hr0 r2 h2)) hS (fun _ _=>rfl)
  ·cases hq:ai L r with
   |none=>exact absurd hq hL
   |some y=>
    have:y=x:=by simp only[bB,hq]at hr;injection hr
    subst this
    exact hp r y hq
 ·intro r x hr r' hr'
  by_cases hL:ai L r=none
  ·have hr0:H r=some x:=by simpa only[bB,hL]using hr
   exact(hU r').2 (.inr (h.hn r x hr0 r' hr'))
  ·cases hq:ai L r with
   |none=>exact absurd hq hL
   |some y=>
    have:y=x:=by simp only[bB,hq]at hr;injection hr
    subst this
    exact(hU r').2 ((hn r y hq r' hr').symm)
 ·intro r hr k hk
  by_cases hL:ai L r=none
  ·rw[hφ r hL]at hk
   exact h.lo r (((hU r).1 hr).resolve_left (fun h=>h hL)) k hk
  ·obtain⟨q',h1,_,h3⟩:=hF r k hL hk
   exact h.lo q' h1 k h3
 ·intro r r' hr hr' hne k hk
  have old:∀q,bB H L q≠none->ai L q=none->H q≠none:=fun q h1 h2=>((hU q).1 h1).resolve_left (fun h=>h h2)
  by_cases hL:ai L r=none
  ·have h0:=old r hr hL
   rw[hφ r hL]at hk
   by_cases hL':ai L r'=none
   ·rw[hφ r' hL']
    exact h.dj r r' h0 (old r' hr' hL') hne k hk
   ·intro hk'
    obtain⟨q',h1,h2,h3⟩:=hF r' k hL' hk'
    exact h.dj r q' h0 h1 (fun e=>by subst e;exact h2 hL) k hk h3
  ·by_cases hL':ai L r'=none
   ·rw[hφ r' hL']
    intro hk'
    obtain⟨q',h1,h2,h3⟩:=hF r k hL hk
    exact h.dj q' r' h1 (old r' hr' hL') (fun e=>by subst e;exact h2 hL') k h3 hk'
   ·exact hdj r r' hL hL' hne k hk
 ·exact h.pk
 ·exact h.bs
 ·exact h.sz
 ·exact h.df
end Go.Am
namespace Go.Am
open Go.RowKit
theorem cI(s n:Nat):(hJ s n).length=n:=by simp[hJ]
theorem qE{m:Nat}{te:TypeId}{l:List D}{n:Nat}{ε:Env}{w:World}{S:cr}{b:Value}{F:cr}(hm:0<m)(hl:l.length=n*m)(h:ll m te l ε w S b F):∃A cap,b=.slice A n cap/\(0<n->A=some ⟨jF b,0,none⟩):=by
 rcases h with⟨h0,hb,_⟩|⟨g,n',cap,cs,rest,hb,_,_,_,_,_,hln,_⟩
 ·subst h0
  have:n=0:=by rcases Nat.mul_eq_zero.1 (show n*m=0 from hl.symm)with h|h<;>omega
  subst this
  exact⟨none,0,hb,fun h=>by omega⟩
 ·have:=Nat.eq_of_mul_eq_mul_right hm (hln.symm.trans hl)
  subst this
  exact⟨some ⟨g,0,none⟩,cap,hb,fun _=>by rw[hb];rfl⟩
section
variable {P:Program} {os:List Oper} {c:Ctx} {T T':List (Nat×D)} {H H':List (Nat×Hp)} {sps:List Spec}
variable {ops:Array Oper} {dst:Option Nat} {ty:TypeId} {pos:String} {aft:Array Edge}
variable {α:Type} {e:ak α} {te tr:TypeId} {r s:Nat} {M X:List (List α)}
theorem kz{ε:Env}{w:World}{S:cr}{b:Value}{F F':cr}(h1:(Hp.cl e te s X).p ε w S b F)(h2:(Hp.store e tr M).p ε w S (ε s) F'):ll 1 te (hJ s M.length++X.map (ag e)) ε w S b F:=by
 obtain⟨vs,e1,h1⟩:=h1
 obtain⟨vs',G,e2,e3,_⟩:=h2
 rw[e1]at e2
 injection e2 with e2
 subst e2
 rwa [e3]at h1
theorem vf{a:Act}{w:World}{ε:Env}{φ:Nat->cr}{t:Nat}{d:D}{K:Nat->Option Hp}(hs:cp c (aP T) K a w ε φ)(hp:d.p ε w (Am.al c K φ) (a.tmps.getD t undef))(hn:∀r∈d.nm,K r≠none):cp c (aP ((t,d)::T)) K a w ε φ:=by
 refine{hs with t:=?_,tn:=?_}
 ·intro t' d' hd
  simp only[aP]at hd
  cases hb:Nat.beq t' t with
  |true=>rw[hb]at hd;injection hd with hd;subst hd;rw[Nat.eq_of_beq_eq_true hb];exact hp
  |false=>rw[hb]at hd;exact hs.t t' d' hd
 ·intro t' d' hd r hr
  simp only[aP]at hd
  cases hb:Nat.beq t' t with
  |true=>rw[hb]at hd;injection hd with hd;subst hd;exact hn r hr
  |false=>rw[hb]at hd;exact hs.tn t' d' hd r hr
theorem Ok.Fe{x:Code}{Q:Exit->Act->World->Prop}(t:Nat)(ht:aP T t=some (.own r))(hh:ai H r=some (.cl e te s X))(hk:ai H s=some (.store e tr M))
  (h:Ok P c ((t,.sl r (M.length+X.length))::T) H x Q):Ok P c T H x Q:=by
 intro a w ⟨ε,φ,hs⟩
 have hv:a.tmps.getD t undef=ε r:=(hs.t t _ ht).1
 have hrow:=kz (hs.h r _ hh) (hs.h s _ hk)
 obtain⟨A,cap,h1,h2⟩:=qE (n:=M.length+X.length) (by decide) (by simp[cI]) hrow
 refine h a w ⟨ε,φ,vf hs ⟨hv,A,cap,by rw[hv,h1],h2⟩ (fun r' hr'=>?_)⟩
 have:r'=r:=by simpa [D.sl]using hr'
 subst this;rw[hh];simp
def DH(xs:List (Operand×D))(r:Nat)(h:Hp)(s:Nat)(k:Hp)(out:D):Spec:={ins:=xs.flatMap fun x=>eD x.1 x.2,dt:=[(r,h),(s,k)],out:=out,de:=[],news:=[]}
theorem an.E9{o:Oper}{xs:List (Operand×D)}{h k:Hp}{d:D}(hg:o.guard=none)(he:∀x∈xs,ev T x.1=some x.2)(hh:ai H r=some h)(hk:ai H s=some k)(hnm:∀r'∈d.nm,r'=r\/r'=s)
  (hrun:∀(ε:Env) (w:World) (S:cr) (a:Act) (F F':cr),(∀x∈xs,x.2.p ε w S (a.eval x.1))->h.p ε w S (ε r) F->k.p ε w S (ε s) F'->∃v,(execOp a.eval o).run P w=.ok (.value v) w/\d.p ε w S v)
  (hr:an P ops c os (br T o.dst d) H sps T' H'):an P ops c (o::os) T H (DH xs r h s k d::sps) T' H':=by
 refine .cons (sp:=DH xs r h s k d) ?_ (eB he) ⟨hh,hk,trivial⟩ trivial hr
 intro hd T0 H0 hi dt _ a w ⟨ε,φ,hs⟩ Q K hK
 rw[if_pos (bj hg _)]
 have hxs:=cC hi
 obtain⟨v,hv,hp⟩:=hrun ε w (Am.al c H0 φ) a (φ r) (φ s) (fun x hx=>(hs.ev (hxs x hx) (aA (he x hx)).2).1) (hs.h r h dt.1) (hs.h s k dt.2.1)
 simp only[Oper.wp,hv,Oper.upon]
 refine hK _ _ ⟨ε,φ,hs.put (d:=d) (db hd) hp (fun r' hr'=>?_)⟩
 rcases hnm r' hr' with rfl|rfl
 ·show H0 _≠none;rw[dt.1];simp
 ·show H0 _≠none;rw[dt.2.1];simp
theorem vd{t:TypeId}{z m:Nat}{x:Operand}{d:D}(hd:(hJ s M.length++X.map (ag e))[z]?=some d)(hm:m=1)(ht:lay P t=some none)(h:ev T x=some (.ref r (z*m)))(hh:ai H r=some (.cl e te s X))(hk:ai H s=some (.store e tr M))(hnm:∀r'∈d.nm,r'=r\/r'=s)
  (hr:an P ops c os (br T dst d) H sps T' H'):an P ops c (⟨dst,.load t x,ty,pos,aft,none⟩::os) T H (DH [(x,.ref r (z*m))] r (.cl e te s X) s (.store e tr M) d::sps) T' H':=
 .E9 rfl (by simpa using h) hh hk hnm (fun ε w S a F F' ha h1 h2=>by
  subst hm
  have hrow:=kz h1 h2
  have hx:a.eval x=.pointer (some ⟨jF (ε r),z*1,none⟩):=ha (x,.ref r (z*1)) (by simp)
  rw[Nat.mul_one]at hx
  rcases hrow with⟨h,_,_⟩|⟨g,n',cap,cs,rest,hb,_,hg,_,_,_,_,hc⟩
  ·rw[h]at hd;simp at hd
  ·obtain⟨v,hv,hp⟩:=gJ hc hd
   have hlt:=(List.getElem?_eq_some_iff.1 hv).1
   refine⟨v,?_,hp⟩
   rw[hb]at hx
   simp only[execOp,hx,jF,Instr.loadAt,Instr.sureAddr,Sem.run_bind,Sem.run_pure,Result.andThen_ok,loadVar,(jb ht w).1,Bool.false_eq_true,if_false,run_load,iJ hg,List.getElem?_append_left hlt,hv]) hr
theorem an.sv{t:TypeId}{z:Int}{m:Nat}{x:Operand}(hz:z.toNat<M.length)(h:ev T x=some (.ref r (z.toNat*m)))(hh:ai H r=some (.cl e te s X))(hk:ai H s=some (.store e tr M))(hm:m=1)(ht:lay P t=some none)
  (hr:an P ops c os (br T dst (.mr s z.toNat)) H sps T' H'):an P ops c (⟨dst,.load t x,ty,pos,aft,none⟩::os) T H (DH [(x,.ref r (z.toNat*m))] r (.cl e te s X) s (.store e tr M) (.mr s z.toNat)::sps) T' H':=
 vd (by rw[List.getElem?_append_left (by rw[cI];exact hz)];simp[hJ,hz]) hm ht h hh hk (fun r' hr'=>.inr (by simpa [D.mr]using hr')) hr
theorem an.G9{t:TypeId}{z:Int}{m:Nat}{x:Operand}{xs:List α}(hz:M.length<=z.toNat)(hX:X[z.toNat-M.length]?=some xs)(h:ev T x=some (.ref r (z.toNat*m)))(hh:ai H r=some (.cl e te s X))(hk:ai H s=some (.store e tr M))(hm:m=1)(ht:lay P t=some none)
  (hr:an P ops c os (br T dst (ag e xs)) H sps T' H'):an P ops c (⟨dst,.load t x,ty,pos,aft,none⟩::os) T H (DH [(x,.ref r (z.toNat*m))] r (.cl e te s X) s (.store e tr M) (ag e xs)::sps) T' H':=
 vd (by rw[List.getElem?_append_right (by rw[cI];exact hz),cI,List.getElem?_map,hX];rfl) hm ht h hh hk (fun r' hr'=>by cases hr') hr
theorem zp{k:Nat}{xs:List α}{ε:Env}{w:World}{S:cr}{F:cr}{v:Value}(hM:M[k]?=some xs)(h:(Hp.store e tr M).p ε w S (ε s) F)(hv:(D.mr s k).p ε w S v):∃G,(a_ e tr xs).p ε w S v G:=by
 obtain⟨_,vs,e1,e2⟩:=hv
 obtain⟨vs',G,e3,_,e4,_⟩:=h
 rw[e1]at e3
 injection e3 with e3
 subst e3
 exact⟨G k,e4 k xs v hM e2⟩
theorem an.uM{t:TypeId}{x y:Operand}{k m:Nat}{kd:IntKind}{z:Int}{xs:List α}(hx:ev T x=some (.mr s k))(hy:ev T y=some (.int kd z))(hh:ai H s=some (.store e tr M))(hM:M[k]?=some xs)(ht:sle P t=some m)(h0:0<=z)(h1:z<xs.length)(hm:Nat.blt 0 e.n=true)
  (hr:an P ops c os (br T dst (.mc s k (z.toNat*m))) H sps T' H'):
  an P ops c (⟨dst,.indexAddr t x y,ty,pos,aft,none⟩::os) T H (BV [(x,.mr s k),(y,.int kd z)] s (.store e tr M) (.mc s k (z.toNat*m))::sps) T' H':=
 .ask rfl (two hx hy) hh (fun r' hr'=>.inl (by simpa [D.mc]using hr')) (fun ε w S a F ha hp=>by
  have h2:=ha (x,.mr s k) (by simp)
  have h3:a.eval y=.int kd z:=ha (y,.int kd z) (by simp)
  obtain⟨G,hrow⟩:=zp hM hp h2
  obtain⟨A,cap,hb,hA⟩:=Bw (by simpa using hm) hrow
  obtain⟨_,vs,e1,e2⟩:=h2
  have hA':=hA (by omega)
  subst hA'
  dsimp only at hb e2
  refine⟨.pointer (some ⟨jF (a.eval x),z.toNat*m,none⟩),?_,vs,_,e1,e2,rfl⟩
  generalize jF (a.eval x)=g at hb
  simp only[execOp,hb,h3,Sem.run_bind,h_ ht g 0 xs.length cap kd z h0 h1 w,Result.andThen_ok,Nat.zero_add]
  rfl) hr
theorem an.oY{t:TypeId}{x:Operand}{k m n:Nat}{z:Int}{xs:List α}{u:α}(h:ev T x=some (.mc s k (z.toNat*m)))(hh:ai H s=some (.store e tr M))(hM:M[k]?=some xs)(hu:xs[z.toNat]?=some u)(ht:lay P t=some (some n))(hm:m=e.n)(hn:n=e.n)
  (hr:an P ops c os (br T dst (.agg (e.c u))) H sps T' H'):an P ops c (⟨dst,.load t x,ty,pos,aft,none⟩::os) T H (BV [(x,.mc s k (z.toNat*m))] s (.store e tr M) (.agg (e.c u))::sps) T' H':=
 .ask rfl (by simpa using h) hh (fun r' hr'=>by rw[show(D.agg (e.c u)).nm=bK (e.c u)from rfl,e.nm]at hr';cases hr') (fun ε w S a F ha hp=>by
  subst hm;subst hn
  obtain⟨vs,v,e1,e2,e3⟩:=ha (x,.mc s k (z.toNat*e.n)) (by simp)
  obtain⟨vs',G,e4,_,e5,_⟩:=hp
  rw[e1]at e4
  injection e4 with e4
  subst e4
  have hrow:=e5 k xs v hM e2
  dsimp only at e3
  rcases hrow with⟨h,_,_⟩|⟨g,n',cap,cs,rest,hb,_,hg,h1,_,_,_,hc⟩
  ·have h0:=oD e hu
   rw[h]at h0
   have h1:(e.c u)=[]:=by rw[←h0];simp
   have h2:e.n=0:=by rw[←e.len u,h1];rfl
   refine⟨.agg #[],?_,[],rfl,(fun u hu=>by cases hu),by rw[h1];trivial⟩
   simp only[execOp,e3,Instr.loadAt,Instr.sureAddr,Sem.run_bind,Sem.run_pure,Result.andThen_ok,loadVar,(gq ht w).1,(gq ht w).2,if_true,h2,loadCells,loadCellsFrom]
  ·have hlen:=aI hc
   have hlt:=(List.getElem?_eq_some_iff.1 hu).1
   have hle:=Nat.mul_le_mul_right e.n (Nat.succ_le_of_lt hlt)
   rw[bM]at hlen
   rw[Nat.succ_mul]at hle
   have hq:((cs.drop (z.toNat*e.n)).take e.n).length=e.n:=by simp;omega
   rw[hb]at e3
   have hld:=run_loadCells_list (P:=P) w ⟨g,z.toNat*e.n,none⟩ ((cs.drop (z.toNat*e.n)).take e.n) (fun j v hv=>by
    have hj:j<e.n:=by have:=(List.getElem?_eq_some_iff.1 hv).1;omega
    rw[eo,iJ hg]
    rw[List.getElem?_take_of_lt hj,List.getElem?_drop]at hv
    rw[List.getElem?_append_left (List.getElem?_eq_some_iff.1 hv).1]
    exact hv)
   rw[hq]at hld
   refine⟨.agg ((cs.drop (z.toNat*e.n)).take e.n).toArray,?_,(cs.drop (z.toNat*e.n)).take e.n,rfl,fun u hu=>h1 u (List.mem_of_mem_drop (List.mem_of_mem_take hu)),?_⟩
   ·simp only[execOp,e3,jF,Instr.loadAt,Instr.sureAddr,Sem.run_bind,Sem.run_pure,Result.andThen_ok,loadVar,(gq ht w).1,(gq ht w).2,if_true,hld]
   ·have:=eI (n:=e.n) (fF (n:=z.toNat*e.n) hc)
    rwa [oD e hu]at this) hr
theorem CS{te:TypeId}{w:World}{ε:Env}{S:cr}{b:Value}{F:cr}{xs:List α}{u:α}{j:Nat}{vs:List Value}(hp:(a_ e te xs).p ε w S b F)(hj:j<xs.length)(hS:∀k,S k->¬F k)(hv1:∀v∈vs,v.oneCell'=true)(hvs:bW ε w S (e.c u) vs)(hn:0<e.n):
  ∃w',(storeCells (⟨jF b,j*e.n,none⟩:Addr) vs).run P w=.ok () w'/\w'.heap.size=w.heap.size/\w'.os=w.os/\w'.tape=w.tape/\w'.output=w.output/\(∀k,¬F k->w'.heap[k]?=w.heap[k]?)/\(a_ e te (xs.set j u)).p ε w' S b F:=by
 have hvl:vs.length=e.n:=by rw[aI hvs,e.len]
 have hle:=Nat.mul_le_mul_right e.n (Nat.succ_le_of_lt hj)
 rw[Nat.succ_mul]at hle
 rcases hp with⟨e0,_,_⟩|⟨g,n',cap,cs,rest,hb,eF,hg,h1,hcap,hmax,hln,hcs⟩
 ·have:=bM e xs
  rw[e0]at this
  have h0:xs.length*e.n=0:=this.symm
  omega
 ·have hlen:=aI hcs
  rw[bM]at hlen
  have hst:=run_storeCells_at (P:=P) g (j*e.n) te vs 0 (cs++rest).toArray w hg (by simp;omega) hv1
  simp only[Nat.add_zero,hvl]at hst
  have hsplit:(cs++rest).take (j*e.n)++vs++(cs++rest).drop (j*e.n+e.n)=(cs.take (j*e.n)++vs++cs.drop (j*e.n+e.n))++rest:=by
   rw[List.take_append_of_le_length (by omega),List.drop_append_of_le_length (by omega)]
   simp[List.append_assoc]
  rw[hsplit]at hst
  have hfar:∀k,¬F k->(w.setRow g ((cs.take (j*e.n)++vs++cs.drop (j*e.n+e.n))++rest).toArray).heap[k]?=w.heap[k]?:=fun k hk=>eS _ _ _ _ (fun e'=>hk (by rw[eF,e'];rfl))
  refine⟨w.setRow g ((cs.take (j*e.n)++vs++cs.drop (j*e.n+e.n))++rest).toArray,(by rw[hb];exact hst),by simp[World.setRow],rfl,rfl,rfl,hfar,.inr ⟨g,n',cap,cs.take (j*e.n)++vs++cs.drop (j*e.n+e.n),rest,hb,eF,setRow_heap w g (cs++rest).toArray _ te _ hg,?_,?_,hmax,?_,?_⟩⟩
  ·intro u hu
   simp only[List.mem_append]at hu
   rcases hu with(hu|hu)|hu
   ·exact h1 u (List.mem_of_mem_take hu)
   ·exact hv1 u hu
   ·exact h1 u (List.mem_of_mem_drop hu)
  ·rw[←hcap];simp;omega
  ·rw[bM,List.length_set,←hln,bM]
  ·rw[←vK e hj u]
   exact bD (fun k hk _=>⟨hk,hfar k (hS k hk)⟩) (bO (bO (eI _ hcs) hvs) (fF _ hcs)) (fun _ _=>rfl)
theorem an.Co{t:TypeId}{x y:Operand}{k m n:Nat}{z:Int}{xs:List α}(u:α)(h:ev T x=some (.mc s k (z.toNat*m)))(hy:ev T y=some (.agg (e.c u)))(hh:ai H s=some (.store e tr M))(hM:M[k]?=some xs)(hz:z.toNat<xs.length)(ht:lay P t=some (some n))(hm:m=e.n)(hn:n=e.n)(hn0:Nat.blt 0 e.n=true)
  (hr:an P ops c os (br T dst .any) ((s,.store e tr (M.set k (xs.set z.toNat u)))::H) sps T' H'):
  an P ops c (⟨dst,.store t x y,ty,pos,aft,none⟩::os) T H (ws x (.mc s k (z.toNat*m)) y (.agg (e.c u)) s (.store e tr M) (.store e tr (M.set k (xs.set z.toNat u)))::sps) T' H':=by
 subst hm;subst hn
 refine .cons (sp:=ws x (.mc s k (z.toNat*e.n)) y (.agg (e.c u)) s (.store e tr M) (.store e tr (M.set k (xs.set z.toNat u)))) ?_ (bf.2 ⟨(aA h).1,(aA hy).1⟩) ⟨hh,trivial⟩ trivial hr
 intro hdst T0 H0 hi dt _ a w ⟨ε,φ,hs⟩ Q K hK
 rw[if_pos (bj rfl _)]
 obtain⟨hi1,hi2⟩:=bf.1 hi
 obtain⟨vs,v,e1,e2,hx⟩:=(hs.ev hi1 (aA h).2).1
 obtain⟨⟨us,hus,hu1,hua⟩,_⟩:=hs.ev hi2 (aA hy).2
 obtain⟨vs',G,e4,e5,e6,e7,e8⟩:=hs.h s _ dt.1
 rw[e1]at e4
 injection e4 with e4
 subst e4
 have hk:k<M.length:=(List.getElem?_eq_some_iff.1 hM).1
 have hSF:∀i,Am.al c H0 φ i->¬φ s i:=fun i hi=>hi.2 s (by simp[dt.1])
 obtain⟨w',r1,r2,r3,r4,r5,r6,r7⟩:=CS (P:=P) (u:=u) (e6 k xs v hM e2) hz (fun i hi hg=>hSF i hi ((e8 i).2 ⟨k,hk,hg⟩)) hu1 hua (by simpa using hn0)
 have hrun:(execOp a.eval ⟨dst,.store t x y,ty,pos,aft,none⟩).run P w=.ok .skip w':=by
  have hsize:(a.eval y).cells.size=e.n:=by rw[hus];simp only[Value.cells];rw[List.size_toArray,aI hua,e.len]
  have hcl:(a.eval y).cells.toList=us:=by rw[hus];simp[Value.cells]
  simp only[execOp,Instr.storeAt,hx,Instr.sureAddr,Sem.run_bind,Sem.run_pure,Result.andThen_ok,storeVar,(gq ht w).2,hsize,ne_eq,not_true_eq_false,if_false,hcl,r1]
 simp only[Oper.wp,hrun,Oper.upon]
 have hS:=hs.rY (w':=w') (y:=.store e tr (M.set k (xs.set z.toNat u))) dt.1 r2 r3 r4 r5 (fun i hi=>r6 i (fun hg=>hi ((e8 i).2 ⟨k,hk,hg⟩)))
  ⟨vs,G,e1,by rw[e5,List.length_set],(fun k' xs' v' hx' hv'=>by
   by_cases hkk:k=k'
   ·subst hkk
    rw[List.getElem?_set_self hk]at hx'
    injection hx' with hx'
    subst hx'
    rw[e2]at hv'
    injection hv' with hv'
    subst hv'
    exact r7
   ·rw[List.getElem?_set_ne hkk]at hx'
    have hk':=(List.getElem?_eq_some_iff.1 hx').1
    exact(a_ e tr xs').mono (e6 k' xs' v' hx' hv') (fun _ _=>rfl) (fun i hi _=>⟨hi,r6 i (fun hg=>hSF i hi ((e8 i).2 ⟨k,hk,hg⟩))⟩) (fun i hi=>r6 i (fun hg=>e7 k k' hk hk' hkk i hg hi))),by rw[List.length_set];exact e7,by rw[List.length_set];exact e8⟩ (fun r' hr'=>by cases hr')
 exact hK _ _ ⟨ε,φ,hS.put (d:=.any) (db hdst) trivial (fun _ h=>by cases h)⟩
end
end Go.Am
namespace Go.Am
open Go.RowKit
def Hp.gG(m:Nat)(ty:TypeId)(l:List D):Hp where
 p:=ll m ty l
 nm:=bK l
 mono:=fun h he hS hF=>mT h he hS hF
def cb(vs:List Value):List D:=vs.map D.lit
theorem dk(vs:List Value):bK (cb vs)=[]:=by
 induction vs with
 |nil=>rfl
 |cons v vs ih=>exact ih
theorem km{ε:Env}{w:World}{S:cr}:∀{vs cs:List Value},bW ε w S (cb vs) cs↔cs=vs
 |[],[]=>by simp[cb,bW]
 |[],_::_=>by simp[cb,bW]
 |_::_,[]=>by simp[cb,bW]
 |v::vs,u::us=>by
  have:=@km ε w S vs us
  simp only[cb,List.map_cons,bW]at this|-
  rw[this]
  simp[D.lit]
theorem wG{s n k:Nat}(h:k<n):(hJ s n)[k]?=some (D.mr s k):=by simp[hJ,h]
theorem mH{ε:Env}{w:World}{S:cr}{s:Nat}{vs:Array Value}(h:ε s=.agg vs){cs:List Value}(hc:bW ε w S (hJ s vs.size) cs):cs=vs.toList:=by
 have hl:=aI hc
 rw[cI]at hl
 apply List.ext_getElem
 ·simp[hl]
 ·intro k h1 h2
  obtain⟨v,hv,hp⟩:=gJ hc (wG (s:=s) (show k<vs.size by omega))
  obtain⟨_,vs',e1,e2⟩:=hp
  rw[h]at e1
  injection e1 with e1
  subst e1
  rw[List.getElem?_eq_getElem h1]at hv
  injection hv with hv
  rw[hv]
  have:=Array.getElem?_eq_some_iff.1 e2
  obtain⟨h3,h4⟩:=this
  simp[←h4]
theorem uz{ε:Env}{w:World}{S:cr}{s:Nat}{vs:Array Value}(h:ε s=.agg vs)(h1:∀v∈vs.toList,v.oneCell'=true):bW ε w S (hJ s vs.size) vs.toList:=by
 have:∀(n:Nat) (us:List Value),(∀(k:Nat) (v:Value),us[k]?=some v->v.oneCell'=true/\vs[k]?=some v)->us.length=n->bW ε w S (hJ s n) us:=by
  intro n
  induction n with
  |zero=>intro us _ hl;have:=List.eq_nil_of_length_eq_zero hl;subst this;exact trivial
  |succ n ih=>
   intro us hk hl
   have e:us=us.take n++[us[n]'(by omega)]:=by
    conv=>lhs;rw[←List.take_append_drop n us]
    rw[List.drop_eq_getElem_cons (by omega),List.drop_eq_nil_of_le (by omega)]
   have e2:hJ s (n+1)=hJ s n++[D.mr s n]:=by simp[hJ,List.range_succ]
   rw[e,e2]
   refine bO (ih _ (fun k v hv=>?_) (by simp;omega)) ⟨?_,trivial⟩
   ·have hlt:=(List.getElem?_eq_some_iff.1 hv).1
    rw[List.length_take]at hlt
    rw[List.getElem?_take_of_lt (by omega)]at hv
    exact hk k v hv
   ·have:=hk n _ (List.getElem?_eq_getElem (by omega))
    exact⟨this.1,vs,h,this.2⟩
 refine this _ _ (fun k v hv=>⟨h1 v (List.mem_of_getElem? hv),by simpa using hv⟩) (by simp)
theorem rO{ε:Env}{w:World}{S:cr}{l m:List D}{cs:List Value}(h:bW ε w S (l++m) cs):∃us vs,cs=us++vs/\bW ε w S l us/\bW ε w S m vs:=by
 refine⟨cs.take l.length,cs.drop l.length,(List.take_append_drop _ _).symm,?_,?_⟩
 ·have:=eI l.length h
  rwa [List.take_left]at this
 ·have:=fF l.length h
  rwa [List.drop_left]at this
section
variable {P:Program} {os:List Oper} {c:Ctx} {T T':List (Nat×D)} {H H':List (Nat×Hp)} {sps:List Spec}
variable {ops:Array Oper} {dst:Option Nat} {ty:TypeId} {pos:String} {aft:Array Edge}
variable {α:Type} {e:ak α} {te tr:TypeId} {r s:Nat} {M X:List (List α)}
theorem rP{ε:Env}{w:World}{S:cr}{b:Value}{F:cr}{vs:Array Value}(hv:ε s=.agg vs)(h:(Hp.cl e te s X).p ε w S b F):ll 1 te (cb vs.toList++X.map (ag e)) ε w S b F:=by
 obtain⟨vs',e1,h⟩:=h
 rw[hv]at e1
 injection e1 with e1
 subst e1
 rcases h with⟨h0,h1,h2⟩|⟨g,n,cap,cs,rest,h1,h2,h3,h4,h5,h8,h6,h7⟩
 ·rcases List.append_eq_nil_iff.1 h0 with⟨h3,h4⟩
  have:vs.size=0:=by have:=congrArg List.length h3;rwa [cI]at this
  refine .inl ⟨?_,h1,h2⟩
  have:vs.toList=[]:=List.eq_nil_of_length_eq_zero (by simpa using this)
  rw[this,h4];rfl
 ·obtain⟨us,xs,rfl,hu,hx⟩:=rO h7
  have:=mH hv hu
  subst this
  refine .inr ⟨g,n,cap,_,rest,h1,h2,h3,h4,h5,h8,?_,bO (km.2 rfl) hx⟩
  rw[←h6]
  simp[cb,cI]
theorem vH{ε:Env}{w:World}{S:cr}{b:Value}{F:cr}{vs:Array Value}(hv:ε s=.agg vs)(h:ll 1 te (cb vs.toList++X.map (ag e)) ε w S b F):(Hp.cl e te s X).p ε w S b F:=by
 refine⟨vs,hv,?_⟩
 rcases h with⟨h0,h1,h2⟩|⟨g,n,cap,cs,rest,h1,h2,h3,h4,h5,h8,h6,h7⟩
 ·rcases List.append_eq_nil_iff.1 h0 with⟨h3,h4⟩
  have:vs.size=0:=by have:=congrArg List.length h3;simpa [cb]using this
  refine .inl ⟨?_,h1,h2⟩
  rw[this,h4];rfl
 ·obtain⟨us,xs,rfl,hu,hx⟩:=rO h7
  have:=km.1 hu
  subst this
  refine .inr ⟨g,n,cap,_,rest,h1,h2,h3,h4,h5,h8,?_,bO (uz hv (fun v hv=>h4 v (by simp[hv]))) hx⟩
  rw[←h6]
  simp[cb,cI]
theorem zt{K:List Nat}{q:Nat}:ai (K.map fun k=>(k,Hp.dead)) q=if q∈K then some .dead else none:=by
 induction K with
 |nil=>rfl
 |cons k K ih=>
  simp only[List.map_cons,ai]
  cases hb:Nat.beq q k with
  |true=>rw[Nat.eq_of_beq_eq_true hb];simp
  |false=>
   have hne:q≠k:=fun e=>by subst e;simp at hb
   dsimp only
   rw[ih]
   simp[hne]
theorem cp.wJ{T0:Nat->Option D}{H0:Nat->Option Hp}{a:Act}{w:World}{ε:Env}{φ:Nat->cr}(hs:cp c T0 H0 a w ε φ)(K:List Nat)(hK:∀q∈K,H0 q≠none){s2:Nat}(hs2:H0 s2=none)(hr:H0 r≠none)(hrK:r∉K)
  (vs:Array Value)(G:Nat->cr)(hsz:vs.size=M.length)
  (hrows:∀k xs v,M[k]?=some xs->vs[k]?=some v->(a_ e tr xs).p ε w (Am.al c H0 φ) v (G k))
  (hdj:∀k k',k<M.length->k'<M.length->k≠k'->∀i,G k i->¬G k' i)
  (hG:∀k,k<M.length->∀i,G k i->∃q∈K,φ q i)
  (de:ll 1 te (cb vs.toList++X.map (ag e)) ε w (Am.al c H0 φ) (ε r) (φ r)):
  Sat c T0 (bB H0 ((r,.cl e te s2 X)::(s2,.store e tr M)::K.map fun k=>(k,Hp.dead))) a w:=by
 have hr2:r≠s2:=fun e=>hr (e▸hs2)
 have hK2:∀q∈K,q≠s2:=fun q hq e=>hK q hq (e▸hs2)
 have hL:∀q,ai ((r,Hp.cl e te s2 X)::(s2,Hp.store e tr M)::K.map fun k=>(k,Hp.dead)) q=if q=r then some (Hp.cl e te s2 X)else if q=s2 then some (Hp.store e tr M)else if q∈K then some .dead else none:=by
  intro q
  simp only[ai]
  cases h1:Nat.beq q r with
  |true=>rw[if_pos (Nat.eq_of_beq_eq_true h1)]
  |false=>
   rw[if_neg (fun e=>by subst e;simp at h1)]
   cases h2:Nat.beq q s2 with
   |true=>rw[if_pos (Nat.eq_of_beq_eq_true h2)]
   |false=>rw[if_neg (fun e=>by subst e;simp at h2)];exact zt
 let φ':Nat->cr:=fun q=>if q=s2 then(fun i=>∃k,k<M.length/\G k i)else if q∈K then noBlocks else φ q
 have f1:φ' s2=fun i=>∃k,k<M.length/\G k i:=by simp[φ']
 have f2:∀q∈K,φ' q=noBlocks:=fun q hq=>by simp[φ',hK2 q hq,hq]
 have f3:∀q,q≠s2->q∉K->φ' q=φ q:=fun q h1 h2=>by simp[φ',h1,h2]
 refine⟨cU ε s2 (.agg vs),φ',(hs.yq (fun q hq=>aC _ _ (show q≠s2 from fun e=>hq (e▸hs2))) (fun q hq=>?_) (fun q k hq hk=>?_) (fun q q' hq hq' hne k hk=>?_) (fun q x hq=>?_) (fun q x hq q' hq'=>?_)).1⟩
 ·rw[hL]at hq
  refine f3 q (fun e=>?_) (fun h=>?_)
  ·subst e;simp[Ne.symm hr2]at hq
  ·by_cases h1:q=r
   ·subst h1;exact hrK h
   ·simp[h1,hK2 q h,h]at hq
 ·by_cases h2:q=s2
  ·subst h2
   rw[f1]at hk
   obtain⟨j,hj,hg⟩:=hk
   obtain⟨q',h3,h4⟩:=hG j hj k hg
   refine⟨q',hK q' h3,?_,h4⟩
   rw[hL,if_neg (show q'≠r from fun e=>hrK (e▸h3)),if_neg (hK2 q' h3),if_pos h3];simp
  ·by_cases h3:q∈K
   ·rw[f2 q h3]at hk;exact hk.elim
   ·rw[f3 q h2 h3]at hk
    have:q=r:=by
     rw[hL]at hq
     by_cases h1:q=r
     ·exact h1
     ·simp[h1,h2,h3]at hq
    subst this
    exact⟨q,hr,by rw[hL,if_pos rfl];simp,hk⟩
 ·have cls:∀q,ai ((r,Hp.cl e te s2 X)::(s2,Hp.store e tr M)::K.map fun k=>(k,Hp.dead)) q≠none->q=r\/q=s2\/q∈K:=by
   intro q h
   rw[hL]at h
   by_cases h1:q=r
   ·exact .inl h1
   ·by_cases h2:q=s2
    ·exact .inr (.inl h2)
    ·by_cases h3:q∈K
     ·exact .inr (.inr h3)
     ·simp[h1,h2,h3]at h
  have notG:∀j,j<M.length->∀i,G j i->¬φ r i:=fun j hj i hg hf=>by
   obtain⟨q',h3,h4⟩:=hG j hj i hg
   exact hs.dj q' r (hK q' h3) hr (fun e=>hrK (e▸h3)) i h4 hf
  rcases cls q hq with rfl|rfl|h
  ·rw[f3 q hr2 hrK]at hk
   rcases cls q' hq' with rfl|rfl|h'
   ·exact absurd rfl hne
   ·rw[f1];rintro⟨j,hj,hg⟩;exact notG j hj k hg hk
   ·rw[f2 q' h'];exact fun h=>h
  ·rw[f1]at hk
   obtain⟨j,hj,hg⟩:=hk
   rcases cls q' hq' with rfl|rfl|h'
   ·rw[f3 q' hr2 hrK];exact notG j hj k hg
   ·exact absurd rfl hne
   ·rw[f2 q' h'];exact fun h=>h
  ·rw[f2 q h]at hk;exact hk.elim
 ·have hS:∀k,Am.al c H0 φ k->Am.al c (bB H0 ((r,Hp.cl e te s2 X)::(s2,Hp.store e tr M)::K.map fun k=>(k,Hp.dead))) φ' k:=by
   intro k hk
   refine⟨hk.1,fun q' hq' hf=>?_⟩
   by_cases h2:q'=s2
   ·subst h2
    rw[f1]at hf
    obtain⟨j,hj,hg⟩:=hf
    obtain⟨q2,h3,h4⟩:=hG j hj k hg
    exact hk.2 q2 (hK q2 h3) h4
   ·by_cases h3:q'∈K
    ·rw[f2 q' h3]at hf;exact hf
    ·rw[f3 q' h2 h3]at hf
     refine hk.2 q' (fun h0=>hq' ?_) hf
     have h1:q'≠r:=fun e=>hr (e▸h0)
     simp only[bB]
     rw[hL,if_neg h1,if_neg h2,if_neg h3]
     exact h0
  have hS':∀k,Am.al c H0 φ k->k<w.heap.size->Am.al c (bB H0 ((r,Hp.cl e te s2 X)::(s2,Hp.store e tr M)::K.map fun k=>(k,Hp.dead))) φ' k/\w.heap[k]?=w.heap[k]?:=fun k hk _=>⟨hS k hk,rfl⟩
  rw[hL]at hq
  by_cases h1:q=r
  ·subst h1
   rw[if_pos rfl]at hq
   injection hq with hq
   subst hq
   rw[aC _ _ hr2,f3 q hr2 hrK]
   refine vH (au _ _ _) (mT de (fun q' hq'=>?_) hS' (fun _ _=>rfl))
   rw[cV (dk _) (lL e X)]at hq'
   cases hq'
  ·rw[if_neg h1]at hq
   by_cases h2:q=s2
   ·subst h2
    rw[if_pos rfl]at hq
    injection hq with hq
    subst hq
    rw[f1,au]
    exact⟨vs,G,rfl,hsz,fun k xs v hx hv=>(a_ e tr xs).mono (hrows k xs v hx hv) (fun q' hq'=>by cases hq') hS' (fun _ _=>rfl),hdj,fun i=>Iff.rfl⟩
   ·rw[if_neg h2]at hq
    by_cases h3:q∈K
    ·rw[if_pos h3]at hq
     injection hq with hq
     subst hq
     rw[f2 q h3];rfl
    ·rw[if_neg h3]at hq;cases hq
 ·rw[hL]at hq
  by_cases h1:q=r
  ·rw[if_pos h1]at hq
   injection hq with hq
   subst hq
   have:q'=s2:=by simpa [Hp.cl]using hq'
   subst this
   right
   rw[hL,if_neg (Ne.symm hr2),if_pos rfl];simp
  ·rw[if_neg h1]at hq
   by_cases h2:q=s2
   ·rw[if_pos h2]at hq
    injection hq with hq
    subst hq;cases hq'
   ·rw[if_neg h2]at hq
    by_cases h3:q∈K
    ·rw[if_pos h3]at hq
     injection hq with hq
     subst hq;cases hq'
    ·rw[if_neg h3]at hq;cases hq
theorem an.GW{t te:TypeId}{r:Nat}{parts:List (Nat×Operand)}{m bt n:Nat}{z:List D}(l:List D)(q:List (Nat×Operand×D×List D))(hm:n5 P t=some (te,m,bt,z))(hs:Nat.ble (n*m) 16777216=true)(hn0:Nat.blt 0 n=true)(hq:iv (BM m 0 n) (n*m) parts q)(he:∀x∈qs q,ev T x.1=some x.2)
  (hle:over (List.replicate n z).flatten q=l)(hln:l.length=n*m)(hnq:∀r'∈bK l,∃x∈qs q,r'∈x.2.nm)(hf:ai H r=none)
  (hr:an P ops c os ((r,.own r)::T) ((r,Hp.gG m te l)::H) sps T' H'):
  an P ops c (⟨some r,.buildSlice t n parts.toArray,ty,pos,aft,none⟩::os) T H (rws (qs q) r (Hp.gG m te l)::sps) T' H':=by
 refine .cons (sp:=rws (qs q) r (Hp.gG m te l)) ?_ (eB he) trivial ⟨hf,trivial⟩ hr
 intro hd T0 H0 hi _ hnew a w ⟨ε,φ,hs'⟩ Q K hK
 rw[if_pos (bj rfl _)]
 have hx:∀x∈qs q,fi T0 (eD x.1 x.2):=cC hi
 obtain⟨i,v,hu,hinf,hzv,hsz,_,ez,hv1,hvs,hm0⟩:=iF hm
 obtain⟨hpl,hg⟩:=jA hq
 have hn1:0<n:=by simpa using hn0
 have hcs:=fH hvs hm0 n
 have hz0:bW ε w (al c H0 φ) (List.replicate n z).flatten (madeCells v.cells (n*m)).toList:=by rw[hcs,ez];exact gj (jj _ _ _ _) _
 have hzl:(List.replicate n z).flatten.length=n*m:=by
  have h1:v.cells.toList.length=m:=by rw[Array.length_toList,hvs]
  rw[fU,ez,List.length_map,h1]
 obtain⟨cs',hfl,hA,hO⟩:=lh (a:=a) (place:=fun i=>some (i*m,m)) hpl (fun k u x hu' hx=>by
  have:=hg k u x hu' hx
  have h2:=qI m 0 n u.1 _ this.2.1
  simp only[Prod.mk.injEq,Nat.zero_add]at h2
  exact⟨this.1,by rw[h2.1,h2.2],this.2.2.1,by rw[hzl];exact this.2.2.2⟩) hz0 (by
   intro u hu'
   rw[hcs]at hu'
   simp only[List.mem_flatten,List.mem_replicate]at hu'
   obtain⟨l',⟨_,rfl⟩,hu'⟩:=hu'
   exact hv1 u hu') (fun x hxm=>(hs'.ev (hx (x.2.1,x.2.2.1) (List.mem_map.2 ⟨x,hxm,rfl⟩)) (aA (he (x.2.1,x.2.2.1) (List.mem_map.2 ⟨x,hxm,rfl⟩))).2).1)
 have live:∀r'∈bK l,H0 r'≠none:=fun r' hr'=>by
  obtain⟨x,hxm,hr2⟩:=hnq r' hr'
  exact(hs'.ev (hx x hxm) (aA (he x hxm)).2).2 r' hr2
 have hlim:¬(n*m>2^24):=by have:=Nat.le_of_ble_eq_true hs;omega
 have hf':Instr.fill (fun i=>some (i*m,m)) (madeCells v.cells (n*m)) (parts.map fun x=>(x.1,a.eval x.2))=some cs':=hfl
 have h0:¬(n*m=0):=by
  intro h
  rcases Nat.mul_eq_zero.1 h with h|h<;>omega
 have hrun:(execOp a.eval ⟨some r,.buildSlice t n parts.toArray,ty,pos,aft,none⟩).run P w=.ok (.value (.slice (some ⟨w.heap.size,0,none⟩) n n)) (w.alloc (.cells cs' te)):=by
  simp only[execOp,Instr.buildSlice,run_underlying hu,Sem.run_bind,Result.andThen_ok,sizeOf,typeInfo,run_program,hinf,Sem.run_pure,hsz]
  simp[hlim,h0,zeroValue,typeInfo,hinf,hzv,newRow]
  rw[show(Array.map (fun x=>v.cells[x%v.cells.size]!) (Array.range (n*m)))=madeCells v.cells (n*m)from rfl,hf']
  simp
 simp only[Oper.wp,hrun,Oper.upon]
 rw[hle]at hA
 have hlen:=aI hA
 have hmx:n<=maxLen:=by
  have h1:=Nat.le_of_ble_eq_true hs
  have h2:n*1<=n*m:=Nat.mul_le_mul_left _ hm0
  unfold maxLen;omega
 have hA':bW (cU ε r (.slice (some ⟨w.heap.size,0,none⟩) n n)) (w.alloc (.cells cs' te)) (Am.al c (bB H0 [(r,Hp.gG m te l)]) (cU φ r (only w.heap.size))) (l) cs'.toList:=by
  refine bD (fun k hk hlt=>⟨⟨hk.1,fun r' hr'=>?_⟩,Below.heap_alloc _ _ _ hlt⟩) hA (fun r' hr'=>aC _ _ (fun e'=>live r' hr' (e'▸hnew.1)))
  rw[bF]at hr'
  by_cases e':r'=r
  ·subst e';rw[au];intro hf';simp only[only]at hf';omega
  ·rw[aC _ _ e']at hr'|-;exact hk.2 r' hr'
 have hN:=hs'.j4 (x:=Hp.gG m te l) (b:=.slice (some ⟨w.heap.size,0,none⟩) n n) (F:=only w.heap.size) (w':=w.alloc (.cells cs' te)) (r:=r) hnew.1 ((Below.refl _ _).alloc (Nat.le_refl _) _)
  (fun k hk=>by simp only[only]at hk;subst hk;simp)
  (.inr ⟨w.heap.size,n,n,cs'.toList,[],rfl,rfl,by rw[fV,List.append_nil],hO,by rw[List.append_nil,hlen,hln],hmx,hln,hA'⟩) live
 exact hK _ _ ⟨_,_,hN.put (dst:=some r) (d:=.own r) (db hd) ⟨(au _ _ _).symm,rfl⟩ (by simp[D.own,bF,au])⟩
end
end Go.Am
namespace Go.Am
open Go.RowKit
theorem cp.F3{P:Program}{c:Ctx}{T:Nat->Option D}{H:Nat->Option Hp}{a:Act}{w:World}{ε:Env}{φ:Nat->cr}(hs:cp c T H a w ε φ){t ty e:TypeId}{m bt:Nat}{z:List D}(hm:n5 P t=some (e,m,bt,z))
  {r1 r n1 n2:Nat}{l1 l2 l:List D}{hl1:bK l1=[]}{hl:bK l=[]}(hr1:H r1=some (.row m e l1 hl1))(hr:H r=none)(hn1:l1.length=n1*m)(hn2:l2.length=n2*m)(hl2:bK l2=[])(he:l1++l2=l)
  {A:Option Addr}{cap2:Nat}{vs:List Value}(hA:n2=0\/∃b o,A=some ⟨b,o,none⟩/\∀j u,vs[j]?=some u->w.cell? ⟨b,o+j,none⟩=some u)(hv1:∀u∈vs,u.oneCell'=true)(hv:bW ε w (al c H φ) l2 vs)
  (hb:(n1+n2)*bt<=140737488355328)(hmax:n1+n2<=9223372036854775807):
  ∃v' w' ε' φ',(Builtin.append_ #[t,t] ty #[ε r1,.slice A n2 cap2]).run P w=.ok v' w'/\cp c T (bB H [(r1,.dead),(r,.row m e l hl)]) a w' ε' φ'/\ε' r=v'/\v'.oneCell'=true/\∀q,q≠r->ε' q=ε q:=by
 obtain⟨i,zv,hu,hinf,hzv,hsz,hbz,ez,hzv1,hzs,hm0⟩:=iF hm
 have hvl:vs.length=n2*m:=by rw[aI hv,hn2]
 have hlen:l.length=(n1+n2)*m:=by rw[←he,List.length_append,hn1,hn2,Nat.add_mul]
 have lo:=hs.lo r1 (by simp[hr1])
 subst he
 -- a new block
 have grow:∀(xs:List Value) (cap':Nat) (rest:List Value),bW ε w (al c H φ) l1 xs->(∀u∈xs,u.oneCell'=true)->((xs++vs)++rest).length=cap'*m->cap'<=maxLen->
   cp c T (bB H [(r1,.dead),(r,.row m e (l1++l2) hl)]) a (w.drew.alloc (.cells ((xs++vs)++rest).toArray e)) (cU ε r (.slice (some ⟨w.heap.size,0,none⟩) (n1+n2) cap')) (cU (cU φ r1 noBlocks) r (only w.heap.size)):=by
  intro xs cap' rest hxs h1 hcl hcm
  have hold:∀k,k<w.heap.size->(w.drew.alloc (.cells ((xs++vs)++rest).toArray e)).heap[k]?=w.heap[k]?:=fun k hk=>Below.heap_alloc w.drew _ k hk
  refine hs.rU hr1 hr (by simp) rfl rfl rfl (fun k hk _=>hold k hk) (fun k hk=>by simp only[only]at hk;subst hk;exact⟨.inr (Nat.le_refl _),by simp⟩)
   (.inr ⟨w.heap.size,n1+n2,cap',xs++vs,rest,rfl,rfl,fV w.drew _,(fun u hu=>(List.mem_append.1 hu).elim (h1 u) (hv1 u)),hcl,hcm,hlen,?_⟩) rfl
  refine bD (fun k hk hlt=>⟨⟨hk.1,fun r' hr' hf=>?_⟩,hold k hlt⟩) (bO hxs hv) (by rw[cV hl1 hl2];intro r' hr';cases hr')
  rw[fe]at hr'
  by_cases e1:r'=r1
  ·subst e1
   have hne:r'≠r:=fun e=>by subst e;rw[hr]at hr1;cases hr1
   rw[aC _ _ hne,au]at hf;exact hf
  ·by_cases e2:r'=r
   ·subst e2;rw[au]at hf;simp only[only]at hf;omega
   ·rw[aC _ _ e2,aC _ _ e1]at hf
    rw[aC _ _ e1,aC _ _ e2]at hr'
    exact hk.2 r' hr' hf
 have hcapge:∀old,n1+n2<=grownCap w (n1+n2) old e:=fun old=>grownCap_ge w _ old e
 have hcapmax:∀old,grownCap w (n1+n2) old e<=maxLen:=fun old=>grownCap_le_maxLen w _ old e (by unfold maxLen;omega)
 have hrestlen:∀old,(Builtin.zeroCells zv.cells (grownCap w (n1+n2) old e-(n1+n2))).toList.length=(grownCap w (n1+n2) old e-(n1+n2))*m:=fun old=>by rw[Array.length_toList,size_zeroCells,hzs]
 rcases hs.h r1 _ hr1 with⟨e0,eb,eF⟩|⟨g,n',cap,cs,rest,eb,eF,hg,h1,hcap,hmaxc,hln,hcs⟩
 ·-- nil
  subst e0
  have hn0:n1=0:=by
   rcases Nat.mul_eq_zero.1 (show n1*m=0 from hn1.symm)with h|h<;>omega
  subst hn0
  by_cases h0:n2=0
  ·subst h0
   have hv0:vs=[]:=List.eq_nil_of_length_eq_zero (by simpa using hvl)
   have hl0:l2=[]:=List.eq_nil_of_length_eq_zero (by simpa using hn2)
   subst hv0;subst hl0
   refine⟨.slice none 0 0,w,cU ε r (.slice none 0 0),cU (cU φ r1 noBlocks) r noBlocks,?_,?_,au _ _ _,rfl,fun q hq=>aC _ _ hq⟩
   ·rw[eb]
    cases A<;>simp[Builtin.append_,run_underlying hu,sizeOf,typeInfo,hinf,Builtin.lenOf,Builtin.firstCells,loadCells,loadCellsFrom]
   ·exact hs.rU hr1 hr (Nat.le_refl _) rfl rfl rfl (fun _ _ _=>rfl) (fun k hk=>hk.elim) (.inl ⟨rfl,rfl,rfl⟩) rfl
  ·obtain⟨b,o,eA,hcell⟩:=hA.resolve_left h0
   subst eA
   have hr':=run_append_nil (P:=P) w t ty e i zv hu hinf hzv ⟨b,o,none⟩ n2 cap2 vs (by rw[hvl,hsz]) (fun j u hj=>by rw[eo];exact hcell j u hj) (by omega) (by omega) (by rw[hbz];simp only[Nat.zero_add]at hb;omega)
   rw[eb]
   have hG:=grow [] (grownCap w (0+n2) 0 e) (Builtin.zeroCells zv.cells (grownCap w (0+n2) 0 e-(0+n2))).toList trivial (fun u hu=>by cases hu) (by
    rw[List.length_append,List.nil_append,hvl,hrestlen,←Nat.add_mul]
    have:=hcapge 0
    congr 1;omega) (hcapmax 0)
   simp only[Nat.zero_add,List.nil_append]at hG
   refine⟨_,_,cU ε r (.slice (some ⟨w.heap.size,0,none⟩) n2 (grownCap w n2 0 e)),cU (cU φ r1 noBlocks) r (only w.heap.size),hr',?_,au _ _ _,rfl,fun q hq=>aC _ _ hq⟩
   have ecell:(vs++(Builtin.zeroCells zv.cells (grownCap w n2 0 e-n2)).toList).toArray=vs.toArray++Builtin.zeroCells zv.cells (grownCap w n2 0 e-n2):=by
    apply Array.ext';simp
   rw[ecell]at hG
   exact hG
 ·have hnn:n'=n1:=Nat.eq_of_mul_eq_mul_right hm0 (hln.symm.trans hn1)
  subst hnn
  have hcsl:cs.length=n'*m:=by rw[aI hcs,hn1]
  rw[eb]
  have hAsome:∃ad,∀(j:Nat) u,vs[j]?=some u->w.cell? (Addr.add ad j)=some u:=by
   rcases hA with h0|⟨b,o,eA,hcell⟩
   ·subst h0
    have hv0:vs=[]:=List.eq_nil_of_length_eq_zero (by simpa using hvl)
    exact⟨⟨0,0,none⟩,fun j u hj=>by subst hv0;simp at hj⟩
   ·exact⟨⟨b,o,none⟩,fun j u hj=>by rw[eo];exact hcell j u hj⟩
  by_cases hroom:n'+n2<=cap
  ·-- there is room
   have hsetrow:∀k,k≠g->(w.setRow g (cs++vs++(cs++rest).drop (n'*m+vs.length)).toArray).heap[k]?=w.heap[k]?:=fun k hk=>eS _ _ _ _ hk
   have hrun:(Builtin.append_ #[t,t] ty #[.slice (some ⟨g,0,none⟩) n' cap,.slice A n2 cap2]).run P w=.ok (.slice (some ⟨g,0,none⟩) (n'+n2) cap) (w.setRow g (cs++vs++(cs++rest).drop (n'*m+vs.length)).toArray):=by
    have htk:(cs++rest).take (n'*m)=cs:=by rw[←hcsl];exact List.take_left
    rcases hA with h0|⟨b,o,eA,hcell⟩
    ·subst h0
     have hv0:vs=[]:=List.eq_nil_of_length_eq_zero (by simpa using hvl)
     subst hv0
     have hself:w.setRow g (cs++[]++(cs++rest).drop (n'*m+([]:List Value).length)).toArray=w:=by
      have:(cs++[]++(cs++rest).drop (n'*m+([]:List Value).length))=cs++rest:=by
       rw[List.append_nil,List.length_nil,Nat.add_zero]
       conv=>rhs;rw[←List.take_append_drop (n'*m) (cs++rest),htk]
      rw[this]
      exact setRow_self w g _ e (0,0) hg
     rw[hself]
     have hroom':n'<=cap:=hroom
     cases A with
     |none=>simp[Builtin.append_,run_underlying hu,sizeOf,typeInfo,hinf,Builtin.lenOf,Builtin.firstCells,hroom',storeCells]
     |some ad=>simp[Builtin.append_,run_underlying hu,sizeOf,typeInfo,hinf,Builtin.lenOf,Builtin.firstCells,hroom',storeCells,loadCells,loadCellsFrom]
    ·subst eA
     have hr':=run_append_room (P:=P) w t ty e i hu hinf g n' cap (cs++rest).toArray hg ⟨b,o,none⟩ n2 cap2 vs (by rw[hvl,hsz]) (fun j u hj=>by rw[eo];exact hcell j u hj) hv1 hroom (by
      rw[hsz,hvl,←Nat.add_mul,List.size_toArray,hcap];exact Nat.mul_le_mul_right _ hroom)
     simp only[hsz,htk]at hr'
     exact hr'
   refine⟨_,_,cU ε r (.slice (some ⟨g,0,none⟩) (n'+n2) cap),cU (cU φ r1 noBlocks) r (only g),hrun,?_,au _ _ _,rfl,fun q hq=>aC _ _ hq⟩
   have hgl:g<w.heap.size:=(lo g (by rw[eF];rfl)).2
   refine hs.rU hr1 hr (by simp[World.setRow]) rfl rfl rfl (fun k _ hk=>hsetrow k (fun e'=>hk (by rw[eF,e'];rfl))) (fun k hk=>by simp only[only]at hk;subst hk;exact⟨.inl (by rw[eF];rfl),by simpa [World.setRow]using hgl⟩)
    (.inr ⟨g,n'+n2,cap,cs++vs,(cs++rest).drop (n'*m+vs.length),rfl,rfl,setRow_heap w g (cs++rest).toArray _ e _ hg,(fun u hu=>(List.mem_append.1 hu).elim (h1 u) (hv1 u)),?_,hmaxc,hlen,?_⟩) rfl
   ·rw[List.length_append,List.length_append,List.length_drop,hcap,hcsl,hvl]
    have:(n'+n2)*m<=cap*m:=Nat.mul_le_mul_right _ hroom
    rw[Nat.add_mul]at this
    omega
   ·refine bD (fun k hk hlt=>⟨⟨hk.1,fun r' hr' hf=>?_⟩,hsetrow k (fun e'=>hk.2 r1 (by simp[hr1]) (by rw[eF,e'];rfl))⟩) (bO hcs hv) (by rw[cV hl1 hl2];intro r' hr';cases hr')
    rw[fe]at hr'
    by_cases e1:r'=r1
    ·subst e1
     have hne:r'≠r:=fun e=>by subst e;rw[hr]at hr1;cases hr1
     rw[aC _ _ hne,au]at hf;exact hf
    ·by_cases e2:r'=r
     ·subst e2;rw[au]at hf;exact hk.2 r1 (by simp[hr1]) (by rw[eF];exact hf)
     ·rw[aC _ _ e2,aC _ _ e1]at hf
      rw[aC _ _ e1,aC _ _ e2]at hr'
      exact hk.2 r' hr' hf
  ·-- a new array
   have h0:n2≠0:=by
    intro h0
    subst h0
    have hle:n'*m<=cap*m:=by rw[←hcap,List.length_append,hcsl];omega
    have:=Nat.le_of_mul_le_mul_right hle hm0
    omega
   obtain⟨b,o,eA,hcell⟩:=hA.resolve_left h0
   subst eA
   have hr':=run_append_grow (P:=P) w t ty e i zv hu hinf hzv ⟨g,0,none⟩ n' cap cs (by rw[hcsl,hsz]) (fun j u hj=>by
     rw[eo,iJ hg,Nat.zero_add]
     rw[List.getElem?_append_left (List.getElem?_eq_some_iff.1 hj).1];exact hj) ⟨b,o,none⟩ n2 cap2 vs (by rw[hvl,hsz]) (fun j u hj=>by rw[eo];exact hcell j u hj) (by omega) (by omega) (by rw[hbz];exact growslice_fits (by omega) hb)
   have hG:=grow cs (grownCap w (n'+n2) cap e) (Builtin.zeroCells zv.cells (grownCap w (n'+n2) cap e-(n'+n2))).toList hcs h1 (by
    rw[List.length_append,List.length_append,hvl,hcsl,hrestlen,←Nat.add_mul,←Nat.add_mul]
    have:=hcapge cap
    congr 1;omega) (hcapmax cap)
   refine⟨_,_,cU ε r (.slice (some ⟨w.heap.size,0,none⟩) (n'+n2) (grownCap w (n'+n2) cap e)),cU (cU φ r1 noBlocks) r (only w.heap.size),hr',?_,au _ _ _,rfl,fun q hq=>aC _ _ hq⟩
   have ecell:((cs++vs)++(Builtin.zeroCells zv.cells (grownCap w (n'+n2) cap e-(n'+n2))).toList).toArray=cs.toArray++vs.toArray++Builtin.zeroCells zv.cells (grownCap w (n'+n2) cap e-(n'+n2)):=by
    apply Array.ext';simp
   rw[ecell]at hG
   exact hG
theorem pa{H:Nat->Option Hp}{r:Nat}{y:Hp}{L:List (Nat×Hp)}(h:ai L r≠none):bB (bB H [(r,y)]) L=bB H L:=by
 funext q
 simp only[bB]
 cases hq:ai L q with
 |some _=>rfl
 |none=>
  simp only[ai]
  cases hb:Nat.beq q r with
  |true=>rw[Nat.eq_of_beq_eq_true hb]at hq;exact absurd hq h
  |false=>rfl
theorem lK{α:Type}(e:ak α):∀X:List (List α),flat (ak.slice e) X=X.map (ag e)
 |[]=>rfl
 |x::X=>by
  have ih:=lK e X
  show(x::X).flatMap (fun l=>[ag e l])=_
  rw[List.flatMap_cons,List.map_cons]
  show [ag e x]++flat (ak.slice e) X=_
  rw[ih];rfl
theorem nD(vs:List Value):(cb vs).length=vs.length:=by simp[cb]
section
variable {P:Program} {os:List Oper} {c:Ctx} {T T':List (Nat×D)} {H H':List (Nat×Hp)} {sps:List Spec}
variable {ops:Array Oper} {dst:Option Nat} {ty:TypeId} {pos:String} {aft:Array Edge}
variable {α:Type} {e:ak α} {te tr:TypeId} {r s:Nat} {M X:List (List α)}
theorem Ok.z8{α:Type}{x:Code}{Q:Exit->Act->World->Prop}(e:ak α)(t r s:Nat)(te tr:TypeId)(ht:aP T t=some .nil)(hf:ai H r=none)(hf2:ai H s=none)(hne:Nat.beq r s=false)
  (h:Ok P c ((t,.own r)::T) ((r,.cl e te s [])::(s,.store e tr [])::H) x Q):Ok P c T H x Q:=by
 intro a w ⟨ε,φ,hs⟩
 have hne':r≠s:=fun e=>by subst e;simp at hne
 have hN:=hs.j4 (x:=.store e tr []) (b:=.agg #[]) (F:=noBlocks) (r:=s) hf2 (Below.refl _ _) (fun k hk=>hk.elim)
  ⟨#[],fun _=>noBlocks,rfl,rfl,(fun k xs v hx=>by simp at hx),(fun k k' hk=>by simp at hk),fun i=>⟨fun h=>h.elim,fun⟨k,hk,_⟩=>by simp at hk⟩⟩ (fun r' hr'=>by cases hr')
 have hr0:bB (ai H) [(s,Hp.store e tr [])] r=none:=by rw[bF,aC _ _ hne'];exact hf
 have hN2:=hN.j4 (x:=.cl e te s []) (b:=.slice none 0 0) (F:=noBlocks) (r:=r) hr0 (Below.refl _ _) (fun k hk=>hk.elim)
  ⟨#[],by rw[aC _ _ (Ne.symm hne'),au],.inl ⟨rfl,rfl,rfl⟩⟩ (fun r' hr'=>by
   have:r'=s:=by simpa [Hp.cl]using hr'
   subst this;rw[bF,au];simp)
 have hv:a.tmps.getD t undef=.slice none 0 0:=hs.t t _ ht
 refine h a w ⟨_,_,vf (Sat_ext' hN2 (fun r'=>?_)) ⟨by rw[hv,au],by rw[hv];rfl⟩ (fun r' hr'=>?_)⟩
 ·rw[bw,bw];rfl
 ·have:r'=r:=by simpa [D.own]using hr'
  subst this;simp[ai]
where
 Sat_ext' {c:Ctx} {T:Nat->Option D} {H H':Nat->Option Hp} {a:Act} {w:World} {ε:Env} {φ:Nat->cr} (h:cp c T H a w ε φ) (hH:∀r,H r=H' r):cp c T H' a w ε φ:=by
  have:H=H':=funext hH
  subst this;exact h
theorem Ok.Hg{α:Type}{x:Code}{Q:Exit->Act->World->Prop}{e:ak α}{te:TypeId}{X:List (List α)}(r s:Nat)(tr:TypeId)(hh:ai H r=some (a_ (ak.slice e) te X))(hf:ai H s=none)
  (h:Ok P c T ((r,.cl e te s X)::(s,.store e tr [])::H) x Q):Ok P c T H x Q:=by
 intro a w ⟨ε,φ,hs⟩
 have hne:r≠s:=fun e=>by subst e;rw[hh]at hf;cases hf
 have hN:=hs.j4 (x:=.store e tr []) (b:=.agg #[]) (F:=noBlocks) (r:=s) hf (Below.refl _ _) (fun k hk=>hk.elim)
  ⟨#[],fun _=>noBlocks,rfl,rfl,(fun k xs v hx=>by simp at hx),(fun k k' hk=>by simp at hk),fun i=>⟨fun h=>h.elim,fun⟨k,hk,_⟩=>by simp at hk⟩⟩ (fun r' hr'=>by cases hr')
 have hr0:bB (ai H) [(s,Hp.store e tr [])] r=some (a_ (ak.slice e) te X):=by rw[bF,aC _ _ hne];exact hh
 have hrow:=hN.h r _ hr0
 have hfl:flat (ak.slice e) X=X.map (ag e):=lK e X
 have hT:=hN.tell (y:=.cl e te s X) hr0 ⟨#[],au _ _ _,by
  have h2:ll 1 te (flat (ak.slice e) X) _ _ _ _ _:=hrow
  rw[hfl]at h2
  exact h2⟩ (fun r' hr'=>by
   have:r'=s:=by simpa [Hp.cl]using hr'
   subst this;rw[bF,au];simp)
 refine h a w (Sat.ext (T:=aP T) (H:=bB (bB (ai H) [(s,.store e tr [])]) [(r,.cl e te s X)]) ⟨_,_,hT⟩ (fun _=>rfl) (fun r'=>?_))
 rw[bw,bw];rfl
theorem mL{e:ak α}{te:TypeId}{xs:List α}{ε:Env}{w:World}{S S':cr}{b:Value}{F:cr}(h:(a_ e te xs).p ε w S b F)(hm:0<e.n)(hS:∀k,S k->S' k)(hF:∀k,F k->S' k):(ag e xs).p ε w S' b:=by
 rcases h with⟨e0,eb,_⟩|⟨g,n',cap,cs,rest,eb,eF',hg,h1',hcap,_,hln,hcs⟩
 ·have h0:=bM e xs
  rw[e0]at h0
  have:xs.length=0:=by rcases Nat.mul_eq_zero.1 h0.symm with h|h<;>omega
  exact⟨none,0,by rw[eb,this],by omega,bM e xs,.inl this⟩
 ·have hn':n'=xs.length:=Nat.eq_of_mul_eq_mul_right hm (hln.symm.trans (bM e xs))
  subst hn'
  refine⟨some ⟨g,0,none⟩,cap,eb,?_,bM e xs,.inr ⟨g,0,rfl,hF g (by rw[eF'];rfl),(cs++rest).toArray,te,(0,0),cs,hg,fun j u hj=>?_,h1',?_⟩⟩
  ·have hle:xs.length*e.n<=cap*e.n:=by rw[←hcap,List.length_append,aI hcs,bM];omega
   exact Nat.le_of_mul_le_mul_right hle hm
  ·rw[Nat.zero_add]
   simp only[List.getElem?_toArray]
   rw[List.getElem?_append_left (List.getElem?_eq_some_iff.1 hj).1];exact hj
  ·exact bD (fun k hk _=>⟨hS k hk,rfl⟩) hcs (by rw[dM];intro r' hr';cases hr')
theorem Ok.vW{x:Code}{Q:Exit->Act->World->Prop}(t:Nat)(ht:aP T t=some (.own r))(hh:ai H r=some (.cl e te s []))(hk:ai H s=some (.store e tr M))(hm:Nat.blt 0 e.n=true)(hne:Nat.beq r s=false)
  (h:Ok P c ((t,ag (ak.slice e) M)::T) ((r,.dead)::(s,.dead)::H) x Q):Ok P c T H x Q:=by
 intro a w ⟨ε,φ,hs⟩
 have hm0:0<e.n:=by simpa using hm
 have hne':r≠s:=fun e=>by subst e;simp at hne
 have hv:a.tmps.getD t undef=ε r:=(hs.t t _ ht).1
 have de:=hs.h r _ hh
 have hsto:=hs.h s _ hk
 have hrow:=kz de hsto
 let φ':Nat->cr:=cU (cU φ r noBlocks) s noBlocks
 have f1:φ' r=noBlocks:=by show cU (cU φ r noBlocks) s noBlocks r=_;rw[aC _ _ hne',au]
 have f2:φ' s=noBlocks:=au _ _ _
 have f3:∀q,q≠r->q≠s->φ' q=φ q:=fun q h1 h2=>by show cU (cU φ r noBlocks) s noBlocks q=_;rw[aC _ _ h2,aC _ _ h1]
 have hL:∀q,ai [(r,Hp.dead),(s,Hp.dead)] q=if q=r then some .dead else if q=s then some .dead else none:=by
  intro q
  simp only[ai]
  cases h1:Nat.beq q r with
  |true=>rw[if_pos (Nat.eq_of_beq_eq_true h1)]
  |false=>
   rw[if_neg (fun e=>by subst e;simp at h1)]
   cases h2:Nat.beq q s with
   |true=>rw[if_pos (Nat.eq_of_beq_eq_true h2)]
   |false=>rw[if_neg (fun e=>by subst e;simp at h2)]
 have cls:∀q,ai [(r,Hp.dead),(s,Hp.dead)] q≠none->φ' q=noBlocks:=by
  intro q h
  rw[hL]at h
  by_cases h1:q=r
  ·rw[h1,f1]
  ·by_cases h2:q=s
   ·rw[h2,f2]
   ·simp[h1,h2]at h
 have hR:=hs.yq (L:=[(r,.dead),(s,.dead)]) (ε':=ε) (φ':=φ') (fun _ _=>rfl) (fun q hq=>by
   rw[hL]at hq
   by_cases h1:q=r
   ·simp[h1]at hq
   ·by_cases h2:q=s
    ·simp[h1,h2]at hq
    ·exact f3 q h1 h2) (fun q k hq hk=>by rw[cls q hq]at hk;exact hk.elim) (fun q q' hq hq' _ k hk=>by rw[cls q hq]at hk;exact hk.elim)
   (fun q y hq=>by
    have:φ' q=noBlocks:=cls q (by rw[hq];simp)
    rw[hL]at hq
    by_cases h1:q=r
    ·rw[if_pos h1]at hq;injection hq with hq;subst hq;exact this
    ·rw[if_neg h1]at hq
     by_cases h2:q=s
     ·rw[if_pos h2]at hq;injection hq with hq;subst hq;exact this
     ·rw[if_neg h2]at hq;cases hq)
   (fun q y hq q' hq'=>by
    rw[hL]at hq
    by_cases h1:q=r
    ·rw[if_pos h1]at hq;injection hq with hq;subst hq;cases hq'
    ·rw[if_neg h1]at hq
     by_cases h2:q=s
     ·rw[if_pos h2]at hq;injection hq with hq;subst hq;cases hq'
     ·rw[if_neg h2]at hq;cases hq)
 have hSr:∀q,(q=r\/q=s)->∀k,φ q k->Am.al c (bB (ai H) [(r,.dead),(s,.dead)]) φ' k:=by
  intro q hq k hk
  have hq0:ai H q≠none:=by rcases hq with rfl|rfl<;>simp[hh,hk]
  have hlo:=hs.lo q hq0 k hk
  refine⟨hlo.1.elim (fun h=>.inr (.inl h)) (fun h=>.inr (.inr h)),fun q' hq' hf=>?_⟩
  by_cases h1:q'=r
  ·rw[h1,f1]at hf;exact hf
  ·by_cases h2:q'=s
   ·rw[h2,f2]at hf;exact hf
   ·rw[f3 q' h1 h2]at hf
    have h0:ai H q'≠none:=by
     intro h0
     apply hq'
     simp only[bB]
     rw[hL,if_neg h1,if_neg h2]
     exact h0
    exact hs.dj q q' hq0 h0 (by rcases hq with rfl|rfl<;>exact Ne.symm (by assumption)) k hk hf
 refine h a w ⟨ε,φ',vJ (by
  have:=hR.1
  rw[bw]at this
  exact this) ?_ rfl⟩
 have hreg:∀k,Am.al c (ai H) φ k->Am.al c (ai ([(r,Hp.dead),(s,Hp.dead)]++H)) φ' k:=by rw[←bw];exact hR.2
 rw[bw]at hSr
 obtain⟨vs,G,e1,e2,e3,e4,e5⟩:=hsto
 rw[List.map_nil,List.append_nil]at hrow
 have hfl:flat (ak.slice e) M=M.map (ag e):=lK e M
 have hrow2:ll 1 te (M.map (ag e)) ε w (Am.al c (ai ([(r,Hp.dead),(s,Hp.dead)]++H)) φ') (ε r) (φ r):=by
  rcases hrow with⟨h0,h1,h2⟩|⟨g,n,cap,cs,rest,h1,h2,h3,h4,h5,h8,h6,h7⟩
  ·have:M.length=0:=by have:=congrArg List.length h0;rwa [cI]at this
   have:M=[]:=List.eq_nil_of_length_eq_zero this
   exact .inl ⟨by rw[this];rfl,h1,h2⟩
  ·refine .inr ⟨g,n,cap,cs,rest,h1,h2,h3,h4,h5,h8,by rw[←h6];simp[cI],?_⟩
   have hcl:=aI h7
   rw[cI]at hcl
   have key:∀(N:List (List α)) (us:List Value),us.length=N.length->(∀(k:Nat) (xs:List α) (v:Value),N[k]?=some xs->us[k]?=some v->(ag e xs).p ε w (Am.al c (ai ([(r,Hp.dead),(s,Hp.dead)]++H)) φ') v)->bW ε w (Am.al c (ai ([(r,Hp.dead),(s,Hp.dead)]++H)) φ') (N.map (ag e)) us:=by
    intro N
    induction N with
    |nil=>intro us hl _;have:=List.eq_nil_of_length_eq_zero hl;subst this;exact trivial
    |cons x N ih=>
     intro us hl hk'
     cases us with
     |nil=>simp at hl
     |cons u us=>
      exact⟨hk' 0 x u rfl rfl,ih us (by simpa using hl) (fun k xs v hx hv=>hk' (k+1) xs v (by simpa using hx) (by simpa using hv))⟩
   refine key M cs hcl (fun k xs v hx hv=>?_)
   have hkl:k<M.length:=(List.getElem?_eq_some_iff.1 hx).1
   have hv2:vs[k]?=some v:=by
    have:=mH (s:=s) (S:=Am.al c (ai H) φ) (w:=w) e1 (by rw[e2];exact h7)
    rw[this]at hv
    simpa using hv
   exact mL (e3 k xs v hx hv2) hm0 hreg (fun i hi=>hSr s (.inr rfl) i ((e5 i).2 ⟨k,hkl,hi⟩))
 have:=mL (e:=ak.slice e) (te:=te) (xs:=M) (F:=φ r) (S:=Am.al c (ai ([(r,Hp.dead),(s,Hp.dead)]++H)) φ') (by show ll 1 te (flat (ak.slice e) M) _ _ _ _ _;rw[hfl];exact hrow2) (show 0<1 by decide) (fun _ h=>h) (fun i hi=>hSr r (.inl rfl) i hi)
 rw[hv];exact this
end
end Go.Am
namespace Go.Am
open Go.RowKit
section
variable {P:Program} {os:List Oper} {c:Ctx} {T T':List (Nat×D)} {H H':List (Nat×Hp)} {sps:List Spec}
variable {ops:Array Oper} {dst:Option Nat} {ty:TypeId} {pos:String} {aft:Array Edge}
variable {α:Type} {e:ak α} {te tr:TypeId} {r s:Nat} {M X:List (List α)}
theorem cp.D2{T0:Nat->Option D}{H0:Nat->Option Hp}{a:Act}{w:World}{ε:Env}{φ:Nat->cr}(hs:cp c T0 H0 a w ε φ){x:Hp}{l:List D}{z:Nat}{d:D}{v:Value}(hr:H0 r=some x)(hx:ll 1 te l ε w (Am.al c H0 φ) (ε r) (φ r))(hz:z<l.length)(hv:v.oneCell'=true)(hd:d.p ε w (Am.al c H0 φ) v)(hnm:∀q∈bK (l.set z d),H0 q≠none):
  ∃w',(storeCells (⟨jF (ε r),z,none⟩:Addr) [v]).run P w=.ok () w'/\cp c T0 (bB H0 [(r,.gG 1 te (l.set z d))]) a w' ε φ:=by
 rcases hx with⟨e0,_,_⟩|⟨g,n',cap,cs,rest,hb,eF,hg,h1,hcap,hmax,hln,hcs⟩
 ·subst e0;simp at hz
 ·have hlen:=aI hcs
  have hst:=run_storeCells_at (P:=P) g z te [v] 0 (cs++rest).toArray w hg (by simp;omega) (by simpa using hv)
  simp only[Nat.add_zero,List.length_singleton]at hst
  have hsplit:(cs++rest).take z++[v]++(cs++rest).drop (z+1)=cs.set z v++rest:=by
   rw[List.take_append_of_le_length (by omega),List.drop_append_of_le_length (by omega),List.set_eq_take_append_cons_drop,if_pos (by omega)]
   simp[List.append_assoc]
  rw[hsplit]at hst
  have hfar:∀k,¬φ r k->(w.setRow g (cs.set z v++rest).toArray).heap[k]?=w.heap[k]?:=fun k hk=>eS _ _ _ _ (fun e'=>hk (by rw[eF,e'];rfl))
  refine⟨w.setRow g (cs.set z v++rest).toArray,(by rw[hb];exact hst),hs.rY hr (by simp[World.setRow]) rfl rfl rfl hfar (.inr ⟨g,n',cap,cs.set z v,rest,hb,eF,setRow_heap w g (cs++rest).toArray _ te _ hg,?_,?_,hmax,?_,?_⟩) hnm⟩
  ·intro u hu
   rcases List.mem_or_eq_of_mem_set hu with h|rfl
   ·exact h1 u h
   ·exact hv
  ·rw[←hcap];simp
  ·rw[List.length_set];exact hln
  ·exact bD (fun k hk _=>⟨hk,hfar k (hk.2 r (by simp[hr]))⟩) (vO hd z hcs) (fun _ _=>rfl)
theorem BA{l:List D}{x d:D}{Y:List D}{n:Nat}(h:l.length=n):(l++x::Y).set n d=(l++[d])++Y:=by
 subst h
 rw[List.set_append_right _ _ (Nat.le_refl _),Nat.sub_self,List.set_cons_zero,List.append_assoc];rfl
theorem pU(vs:Array Value)(v:Value):cb (vs.push v).toList=cb vs.toList++[D.lit v]:=by simp[cb]
theorem tx{ε:Env}{w:World}{S:cr}{F1:cr}{xs:List α}{vs:Array Value}{G:Nat->cr}{v:Value}(h1:vs.size=M.length)(h2:∀k xs v,M[k]?=some xs->vs[k]?=some v->(a_ e tr xs).p ε w S v (G k))(h3:∀k k',k<M.length->k'<M.length->k≠k'->∀i,G k i->¬G k' i)(hx:(a_ e tr xs).p ε w S v F1)(hd:∀k,k<M.length->∀i,G k i->¬F1 i):
  ((vs.push v).size=(M++[xs]).length)/\(∀k ys u,(M++[xs])[k]?=some ys->(vs.push v)[k]?=some u->(a_ e tr ys).p ε w S u (cU G M.length F1 k))/\(∀k k',k<(M++[xs]).length->k'<(M++[xs]).length->k≠k'->∀i,cU G M.length F1 k i->¬cU G M.length F1 k' i)/\(∀k,k<(M++[xs]).length->∀i,cU G M.length F1 k i->(k<M.length/\G k i)\/F1 i):=by
 have gn:cU G M.length F1 M.length=F1:=au _ _ _
 have gk:∀k,k<M.length->cU G M.length F1 k=G k:=fun k hk=>aC _ _ (by omega)
 refine⟨by simp[h1],fun k ys u hy hu=>?_,fun k k' hk hk' hne i hi=>?_,fun k hk i hi=>?_⟩
 ·by_cases hk:k<M.length
  ·rw[List.getElem?_append_left hk]at hy
   rw[Array.getElem?_push_lt (by omega)]at hu
   rw[gk k hk]
   exact h2 k ys u hy (by rw[←hu];simp[h1,hk])
  ·have hlt:=(List.getElem?_eq_some_iff.1 hy).1
   simp only[List.length_append,List.length_singleton]at hlt
   have:k=M.length:=by omega
   subst this
   rw[gn]
   simp at hy
   subst hy
   rw[←h1]at hu
   simp at hu
   subst hu
   exact hx
 ·simp only[List.length_append,List.length_singleton]at hk hk'
  by_cases a1:k<M.length
  ·rw[gk k a1]at hi
   by_cases a2:k'<M.length
   ·rw[gk k' a2];exact h3 k k' a1 a2 hne i hi
   ·have:k'=M.length:=by omega
    subst this;rw[gn];exact hd k a1 i hi
  ·have:k=M.length:=by omega
   subst this
   rw[gn]at hi
   have a2:k'<M.length:=by omega
   rw[gk k' a2]
   exact fun h=>hd k' a2 i h hi
 ·simp only[List.length_append,List.length_singleton]at hk
  by_cases a1:k<M.length
  ·rw[gk k a1]at hi;exact .inl ⟨a1,hi⟩
  ·have:k=M.length:=by omega
   subst this
   rw[gn]at hi;exact .inr hi
def Eb(x:Operand)(d:D)(y:Operand)(d':D)(Hi Ho:List (Nat×Hp))(nw:List Nat):Spec:={ins:=eD x d++eD y d',dt:=Hi,out:=.any,de:=Ho,news:=nw}
theorem an.Gj{t:TypeId}{x y:Operand}{r1 s2 m:Nat}{z:Int}{x0 xs:List α}(hz:z.toNat=M.length)(h:ev T x=some (.ref r (z.toNat*m)))(hy:ev T y=some (.own r1))(hh:ai H r=some (.cl e te s (x0::X)))(hk:ai H s=some (.store e tr M))(h1:ai H r1=some (a_ e tr xs))(hf:ai H s2=none)
  (hne:r≠s/\r≠r1/\s≠r1)(hm:m=1)(ht:lay P t=some none)
  (hr:an P ops c os (br T dst .any) ((r,.cl e te s2 X)::(s2,.store e tr (M++[xs]))::(s,.dead)::(r1,.dead)::H) sps T' H'):
  an P ops c (⟨dst,.store t x y,ty,pos,aft,none⟩::os) T H (Eb x (.ref r (z.toNat*m)) y (.own r1) [(r,.cl e te s (x0::X)),(s,.store e tr M),(r1,a_ e tr xs)] [(r,.cl e te s2 X),(s2,.store e tr (M++[xs])),(s,.dead),(r1,.dead)] [s2]::sps) T' H':=by
 subst hm
 refine .cons (sp:=Eb x (.ref r (z.toNat*1)) y (.own r1) [(r,.cl e te s (x0::X)),(s,.store e tr M),(r1,a_ e tr xs)] [(r,.cl e te s2 X),(s2,.store e tr (M++[xs])),(s,.dead),(r1,.dead)] [s2]) ?_ (bf.2 ⟨(aA h).1,(aA hy).1⟩) ⟨hh,hk,h1,trivial⟩ ⟨hf,trivial⟩ hr
 intro hdst T0 H0 hi dt hnew a w ⟨ε,φ,hs⟩ Q K hK
 rw[if_pos (bj rfl _)]
 obtain⟨hi1,hi2⟩:=bf.1 hi
 have hx:a.eval x=.pointer (some ⟨jF (ε r),z.toNat*1,none⟩):=(hs.ev hi1 (aA h).2).1
 obtain⟨hye,hyo⟩:=(hs.ev hi2 (aA hy).2).1
 obtain⟨hr0,hs0,hr10,_⟩:=dt
 obtain⟨vs,G,e1,e2,_⟩:=hs.h s _ hs0
 have hrow:=rP e1 (hs.h r _ hr0)
 have hl1:(cb vs.toList).length=M.length:=by rw[nD];simpa using e2
 have hset:(cb vs.toList++(x0::X).map (ag e)).set M.length (D.lit (ε r1))=cb (vs.push (ε r1)).toList++X.map (ag e):=by
  rw[List.map_cons,BA hl1,pU]
 obtain⟨w',hst,hS⟩:=hs.D2 (P:=P) (z:=M.length) (d:=D.lit (ε r1)) (v:=ε r1) hr0 hrow (by simp[hl1]) (hye▸hyo) rfl (fun q hq=>by
  rw[hset,cV (dk _) (lL e X)]at hq;cases hq)
 have hrun:(execOp a.eval ⟨dst,.store t x y,ty,pos,aft,none⟩).run P w=.ok .skip w':=by
  have hcl:(a.eval y).cells=#[ε r1]:=by
   have:(ε r1).oneCell'=true:=hye▸hyo
   rw[hye];cases hq:ε r1<;>simp_all [Value.cells,Value.oneCell']
  rw[hz,Nat.mul_one]at hx
  simp only[execOp,Instr.storeAt,hx,Instr.sureAddr,Sem.run_bind,Sem.run_pure,Result.andThen_ok,storeVar,(jb ht w).2,hcl]
  simp[hst]
 simp only[Oper.wp,hrun,Oper.upon]
 rw[hset]at hS
 have u1:bB H0 [(r,.gG 1 te (cb (vs.push (ε r1)).toList++X.map (ag e)))] s=some (.store e tr M):=by rw[bF,aC _ _ (Ne.symm hne.1)];exact hs0
 have u2:bB H0 [(r,.gG 1 te (cb (vs.push (ε r1)).toList++X.map (ag e)))] r1=some (a_ e tr xs):=by rw[bF,aC _ _ (Ne.symm hne.2.1)];exact hr10
 have u3:bB H0 [(r,.gG 1 te (cb (vs.push (ε r1)).toList++X.map (ag e)))] r=some (.gG 1 te (cb (vs.push (ε r1)).toList++X.map (ag e))):=by rw[bF,au]
 have u4:bB H0 [(r,.gG 1 te (cb (vs.push (ε r1)).toList++X.map (ag e)))] s2=none:=by
  rw[bF,aC _ _ (fun e=>by rw[←e,hnew.1]at hr0;cases hr0)];exact hnew.1
 obtain⟨vs',G',f1,f2,f3,f4,f5⟩:=hS.h s _ u1
 rw[e1]at f1
 injection f1 with f1
 subst f1
 obtain⟨g1,g2,g3,g4⟩:=tx f2 f3 f4 (hS.h r1 _ u2) (fun k hk i hi hi'=>hS.dj s r1 (by rw[u1];simp) (by rw[u2];simp) hne.2.2 i ((f5 i).2 ⟨k,hk,hi⟩) hi')
 have hG:=hS.wJ (r:=r) (te:=te) (X:=X) [s,r1] (fun q hq=>by
   simp only[List.mem_cons,List.not_mem_nil,or_false]at hq
   rcases hq with rfl|rfl
   ·rw[u1];simp
   ·rw[u2];simp) u4 (by rw[u3];simp) (by simp[hne.1,hne.2.1]) (vs.push (ε r1)) _ g1 g2 g3 (fun k hk i hi=>(g4 k hk i hi).elim (fun h=>⟨s,by simp,(f5 i).2 ⟨k,h.1,h.2⟩⟩) (fun h=>⟨r1,by simp,h⟩)) (hS.h r _ u3)
 rw[pa (by simp[ai])]at hG
 obtain⟨ε2,φ2,hG⟩:=hG
 exact hK _ _ ⟨ε2,φ2,hG.put (d:=.any) (db hdst) trivial (fun _ h=>by cases h)⟩
end
end Go.Am
namespace Go.Am
open Go.RowKit
section
variable {P:Program} {os:List Oper} {c:Ctx} {T T':List (Nat×D)} {H H':List (Nat×Hp)} {sps:List Spec}
variable {ops:Array Oper} {dst:Option Nat} {ty:TypeId} {pos:String} {aft:Array Edge}
variable {α:Type} {e:ak α} {te tr:TypeId} {r s:Nat} {M X:List (List α)}
theorem an.FH{t:TypeId}{x y:Operand}{rl r1 r2 s2 bt:Nat}{z:List D}{dx:D}{xs:List α}(hx:ev T x=some dx)(hle:Le dx (.own r))(hy:ev T y=some (.own rl))(hh:ai H r=some (.cl e te s []))(hk:ai H s=some (.store e tr M))(hl:ai H rl=some (.gG 1 te [.own r1]))(h1:ai H r1=some (a_ e tr xs))
  (hm:n5 P t=some (te,1,bt,z))(hb:(M.length+1)*bt<=140737488355328)(hmax:M.length+1<=9223372036854775807)(hf:ai H r2=none)(hf2:ai H s2=none)(hne:r≠s/\r≠r1/\s≠r1/\r≠rl/\s≠rl/\r1≠rl/\r2≠s2)
  (hr:an P ops c os ((r2,.own r2)::T) ((r2,.cl e te s2 [])::(s2,.store e tr (M++[xs]))::(s,.dead)::(r1,.dead)::(rl,.dead)::(r,.dead)::H) sps T' H'):
  an P ops c (⟨some r2,.call {callee:=.builtin .append,args:=#[x,y],argTypes:=#[t,t]},ty,pos,aft,none⟩::os) T H
   ({ins:=eD x dx++eD y (.own rl),dt:=[(r,.cl e te s []),(s,.store e tr M),(rl,.gG 1 te [.own r1]),(r1,a_ e tr xs)],out:=.own r2,de:=[(r2,.cl e te s2 []),(s2,.store e tr (M++[xs])),(s,.dead),(r1,.dead),(rl,.dead),(r,.dead)],news:=[r2,s2]}::sps) T' H':=by
 refine .cons (sp:={ins:=eD x dx++eD y (.own rl),dt:=[(r,.cl e te s []),(s,.store e tr M),(rl,.gG 1 te [.own r1]),(r1,a_ e tr xs)],out:=.own r2,de:=[(r2,.cl e te s2 []),(s2,.store e tr (M++[xs])),(s,.dead),(r1,.dead),(rl,.dead),(r,.dead)],news:=[r2,s2]}) ?_ (bf.2 ⟨(aA hx).1,(aA hy).1⟩) ⟨hh,hk,hl,h1,trivial⟩ ⟨hf,hf2,trivial⟩ hr
 intro hdst T0 H0 hi dt hnew a w ⟨ε,φ,hs⟩ Q K hK
 rw[if_pos (bj rfl _)]
 obtain⟨hi1,hi2⟩:=bf.1 hi
 have hxe:a.eval x=ε r:=(hle.1 _ _ _ _ (hs.ev hi1 (aA hx).2).1).1
 have hye:a.eval y=ε rl:=(hs.ev hi2 (aA hy).2).1.1
 obtain⟨hr0,hs0,hl0,hr10,_⟩:=dt
 obtain⟨hn1,hn2,_⟩:=hnew
 have live:∀q y,H0 q=some y->q≠r2/\q≠s2:=fun q y hq=>⟨fun(e':q=r2)=>(by rw[e',hn1]at hq;cases hq),fun(e':q=s2)=>(by rw[e',hn2]at hq;cases hq)⟩
 obtain⟨vs,G,e1,e2,_⟩:=hs.h s _ hs0
 have hrow:=rP e1 (hs.h r _ hr0)
 rw[List.map_nil,List.append_nil]at hrow
 have hT:=hs.tell (y:=.row 1 te (cb vs.toList) (dk _)) hr0 hrow (fun q hq=>by cases hq)
 have q1:bB H0 [(r,Hp.row 1 te (cb vs.toList) (dk _))] r=some (.row 1 te (cb vs.toList) (dk _)):=by rw[bF,au]
 have qn:∀q,q≠r->bB H0 [(r,Hp.row 1 te (cb vs.toList) (dk _))] q=H0 q:=fun q hq=>by rw[bF,aC _ _ hq]
 -- the literal
 rcases hs.h rl _ hl0 with⟨h0,_,_⟩|⟨g,n',cap,cs,rest,hb',eF,hg,hc1,hcap,hmaxc,hln,hcs⟩
 ·cases h0
 have hn':n'=1:=by simpa using hln.symm
 subst hn'
 have hcs1:cs=[ε r1]:=by
  match cs,hcs with
  |[v],h=>rw[h.1.1]
 subst hcs1
 have hv1:(ε r1).oneCell'=true:=hc1 _ (by simp)
 obtain⟨v',w',ε',φ',hrun,hS,ev',ho,hεε⟩:=hT.F3 (P:=P) (ty:=ty) hm (r:=r2) (n1:=M.length) (n2:=1) (l2:=[D.lit (ε r1)]) (l:=cb (vs.push (ε r1)).toList) (hl:=dk _) q1 (by rw[qn _ (Ne.symm (live r _ hr0).1)];exact hn1) (by rw[nD];simpa using e2) rfl rfl (pU vs (ε r1)).symm
  (A:=some ⟨g,0,none⟩) (cap2:=cap) (vs:=[ε r1]) (.inr ⟨g,0,rfl,fun j u hj=>by
   rw[Nat.zero_add,iJ hg]
   rw[List.getElem?_append_left (List.getElem?_eq_some_iff.1 hj).1];exact hj⟩) (by simpa using hv1) ⟨rfl,trivial⟩ hb hmax
 have hrun':(Builtin.append_ #[t,t] ty #[a.eval x,a.eval y]).run P w=.ok v' w':=by rw[hxe,hye,hb'];exact hrun
 simp only[Oper.wp,lI a w w' hrun',Oper.upon]
 have n1:=live r _ hr0
 have n2:=live s _ hs0
 have n3:=live r1 _ hr10
 have n4:=live rl _ hl0
 have hUU:bB (bB H0 [(r,Hp.row 1 te (cb vs.toList) (dk _))]) [(r,.dead),(r2,.row 1 te (cb (vs.push (ε r1)).toList) (dk _))]=bB H0 [(r,.dead),(r2,.row 1 te (cb (vs.push (ε r1)).toList) (dk _))]:=pa (by simp[ai])
 have hcast:cp c T0 (bB H0 [(r,.dead),(r2,.row 1 te (cb (vs.push (ε r1)).toList) (dk _))]) a w' ε' φ':=by rw[←hUU];exact hS
 clear hS
 replace hcast:=hcast.put (dst:=some r2) (d:=.own r2) (db hdst) ⟨ev'.symm,ho⟩ (fun q hq=>by
  have:q=r2:=by simpa [D.own]using hq
  subst this
  rw[fe,aC _ _ (Ne.symm (live r _ hr0).1),au];simp)
 have U:∀q,q≠r->q≠r2->bB H0 [(r,.dead),(r2,.row 1 te (cb (vs.push (ε r1)).toList) (dk _))] q=H0 q:=fun q h1 h2=>by rw[fe,aC _ _ h1,aC _ _ h2]
 have u1:=(U s (Ne.symm hne.1) n2.1).trans hs0
 have u2:=(U r1 (Ne.symm hne.2.1) n3.1).trans hr10
 have u5:=(U rl (Ne.symm hne.2.2.2.1) n4.1).trans hl0
 have u3:bB H0 [(r,.dead),(r2,.row 1 te (cb (vs.push (ε r1)).toList) (dk _))] r2=some (.row 1 te (cb (vs.push (ε r1)).toList) (dk _)):=by rw[fe,aC _ _ (Ne.symm n1.1),au]
 have u4:=(U s2 (Ne.symm n1.2) (Ne.symm hne.2.2.2.2.2.2)).trans hn2
 obtain⟨vs',G',f1,f2,f3,f4,f5⟩:=hcast.h s _ u1
 rw[hεε s n2.1,e1]at f1
 injection f1 with f1
 subst f1
 have hx1:=hcast.h r1 _ u2
 rw[hεε r1 n3.1]at hx1
 obtain⟨g1,g2,g3,g4⟩:=tx f2 f3 f4 hx1 (fun k hk i hi hi'=>hcast.dj s r1 (by rw[u1];simp) (by rw[u2];simp) hne.2.2.1 i ((f5 i).2 ⟨k,hk,hi⟩) hi')
 have hG:=hcast.wJ (r:=r2) (te:=te) (X:=[]) (e:=e) [s,r1,rl] (fun q hq=>by
   simp only[List.mem_cons,List.not_mem_nil,or_false]at hq
   rcases hq with rfl|rfl|rfl
   ·rw[u1];simp
   ·rw[u2];simp
   ·rw[u5];simp) u4 (by rw[u3];simp) (by simp[Ne.symm n2.1,Ne.symm n3.1,Ne.symm n4.1]) (vs.push (ε r1)) _ g1 g2 g3 (fun k hk i hi=>(g4 k hk i hi).elim (fun h=>⟨s,by simp,(f5 i).2 ⟨k,h.1,h.2⟩⟩) (fun h=>⟨r1,by simp,h⟩)) (by
    rw[List.map_nil,List.append_nil]
    exact hcast.h r2 _ u3)
 have hfin:bB (bB H0 [(r,.dead),(r2,.row 1 te (cb (vs.push (ε r1)).toList) (dk _))]) ((r2,Hp.cl e te s2 [])::(s2,Hp.store e tr (M++[xs]))::[s,r1,rl].map fun k=>(k,Hp.dead))=bB H0 [(r2,.cl e te s2 []),(s2,.store e tr (M++[xs])),(s,.dead),(r1,.dead),(rl,.dead),(r,.dead)]:=by
  funext q
  simp only[bB,ai,List.map_cons,List.map_nil]
  cases Nat.beq q r2<;>cases Nat.beq q s2<;>cases Nat.beq q s<;>cases Nat.beq q r1<;>cases Nat.beq q rl<;>cases Nat.beq q r<;>rfl
 rw[hfin]at hG
 exact hK _ _ hG
end
end Go.Am
namespace Go.Am
open Go.RowKit
section
variable {P:Program} {os:List Oper} {c:Ctx} {T T':List (Nat×D)} {H H':List (Nat×Hp)} {sps:List Spec}
variable {ops:Array Oper} {dst:Option Nat} {ty:TypeId} {pos:String} {aft:Array Edge}
variable {α:Type} {e:ak α} {te tr:TypeId} {r s:Nat} {M X:List (List α)}
theorem xh{v:Value}(h:v.oneCell'=true):v.cells=#[v]:=by cases v<;>simp_all [Value.cells,Value.oneCell']
theorem Br{js:List Nat}{q:Nat}(h:q∈bK (js.map (D.mr s))):q=s:=by
 obtain⟨d,hd,hr⟩:=bR.1 h
 obtain⟨k,_,rfl⟩:=List.mem_map.1 hd
 simpa [D.mr]using hr
theorem xP{t:TypeId}{x y:Operand}{k m:Nat}{z:Int}{js:List Nat}{hp:Hp}{F:List (List α)}(hrow:∀ε w S A A',hp.p ε w S (ε r) A->(Hp.store e tr F).p ε w S (ε s) A'->ll 1 te (js.map (D.mr s)) ε w S (ε r) A)(hz:z.toNat<js.length)(h:ev T x=some (.ref r (z.toNat*m)))(hy:ev T y=some (.mr s k))(hh:ai H r=some hp)(hk:ai H s=some (.store e tr F))(hm:m=1)(ht:lay P t=some none)
  (hr:an P ops c os (br T dst .any) ((r,.gG 1 te ((js.set z.toNat k).map (D.mr s)))::H) sps T' H'):
  an P ops c (⟨dst,.store t x y,ty,pos,aft,none⟩::os) T H (Eb x (.ref r (z.toNat*m)) y (.mr s k) [(r,hp),(s,.store e tr F)] [(r,.gG 1 te ((js.set z.toNat k).map (D.mr s)))] []::sps) T' H':=by
 subst hm
 refine .cons (sp:=Eb x (.ref r (z.toNat*1)) y (.mr s k) [(r,hp),(s,.store e tr F)] [(r,.gG 1 te ((js.set z.toNat k).map (D.mr s)))] []) ?_ (bf.2 ⟨(aA h).1,(aA hy).1⟩) ⟨hh,hk,trivial⟩ trivial hr
 intro hdst T0 H0 hi dt _ a w ⟨ε,φ,hs⟩ Q K hK
 rw[if_pos (bj rfl _)]
 obtain⟨hi1,hi2⟩:=bf.1 hi
 have hx:a.eval x=.pointer (some ⟨jF (ε r),z.toNat*1,none⟩):=(hs.ev hi1 (aA h).2).1
 have hyv:=(hs.ev hi2 (aA hy).2).1
 obtain⟨hr0,hs0,_⟩:=dt
 have hro:=hrow ε w _ _ _ (hs.h r _ hr0) (hs.h s _ hs0)
 have hset:(js.map (D.mr s)).set z.toNat (D.mr s k)=(js.set z.toNat k).map (D.mr s):=by rw[List.map_set]
 obtain⟨w',hst,hS⟩:=hs.D2 (P:=P) (z:=z.toNat) (d:=D.mr s k) (v:=a.eval y) hr0 hro (by simpa using hz) hyv.1 hyv (fun q hq=>by
  rw[hset]at hq
  rw[Br hq,hs0];simp)
 have hrun:(execOp a.eval ⟨dst,.store t x y,ty,pos,aft,none⟩).run P w=.ok .skip w':=by
  have hcl:(a.eval y).cells=#[a.eval y]:=xh hyv.1
  rw[Nat.mul_one]at hx
  simp only[execOp,Instr.storeAt,hx,Instr.sureAddr,Sem.run_bind,Sem.run_pure,Result.andThen_ok,storeVar,(jb ht w).2,hcl]
  simp[hst]
 simp only[Oper.wp,hrun,Oper.upon]
 rw[hset]at hS
 exact hK _ _ ⟨ε,φ,hS.put (d:=.any) (db hdst) trivial (fun _ h=>by cases h)⟩
theorem an.GJ{t:TypeId}{x y:Operand}{k m:Nat}{z:Int}(hz:z.toNat<M.length)(h:ev T x=some (.ref r (z.toNat*m)))(hy:ev T y=some (.mr s k))(hh:ai H r=some (.cl e te s []))(hk:ai H s=some (.store e tr M))(hm:m=1)(ht:lay P t=some none)
  (hr:an P ops c os (br T dst .any) ((r,.gG 1 te (((List.range M.length).set z.toNat k).map (D.mr s)))::H) sps T' H'):
  an P ops c (⟨dst,.store t x y,ty,pos,aft,none⟩::os) T H (Eb x (.ref r (z.toNat*m)) y (.mr s k) [(r,.cl e te s []),(s,.store e tr M)] [(r,.gG 1 te (((List.range M.length).set z.toNat k).map (D.mr s)))] []::sps) T' H':=
 xP (fun ε w S A A' h1 h2=>by
  have:=kz h1 h2
  rwa [List.map_nil,List.append_nil]at this) (by simpa using hz) h hy hh hk hm ht hr
theorem an.Gy{t:TypeId}{x y:Operand}{k m:Nat}{z:Int}{js:List Nat}(hz:z.toNat<js.length)(h:ev T x=some (.ref r (z.toNat*m)))(hy:ev T y=some (.mr s k))(hh:ai H r=some (.gG 1 te (js.map (D.mr s))))(hk:ai H s=some (.store e tr M))(hm:m=1)(ht:lay P t=some none)
  (hr:an P ops c os (br T dst .any) ((r,.gG 1 te ((js.set z.toNat k).map (D.mr s)))::H) sps T' H'):
  an P ops c (⟨dst,.store t x y,ty,pos,aft,none⟩::os) T H (Eb x (.ref r (z.toNat*m)) y (.mr s k) [(r,.gG 1 te (js.map (D.mr s))),(s,.store e tr M)] [(r,.gG 1 te ((js.set z.toNat k).map (D.mr s)))] []::sps) T' H':=
 xP (fun _ _ _ _ _ h1 _=>h1) hz h hy hh hk hm ht hr
theorem BL{ε:Env}{w:World}{S:cr}{vs:Array Value}(h:ε s=.agg vs):∀{js:List Nat} {cs:List Value},bW ε w S (js.map (D.mr s)) cs->cs.length=js.length/\∀(i j:Nat) (v:Value),js[i]?=some j->cs[i]?=some v->vs[j]?=some v:=by
 intro js cs hc
 refine⟨by rw[aI hc,List.length_map],fun i j v hj hv=>?_⟩
 obtain⟨u,hu,_,vs',e1,e2⟩:=gJ hc (show(js.map (D.mr s))[i]?=some (D.mr s j)by rw[List.getElem?_map,hj];rfl)
 rw[h]at e1
 injection e1 with e1
 subst e1
 rw[hv]at hu
 injection hu with hu
 subst hu
 exact e2
theorem Ok.DJ{x:Code}{Q:Exit->Act->World->Prop}{js:List Nat}{M2:List (List α)}(s2:Nat)(hh:ai H r=some (.gG 1 te (js.map (D.mr s))))(hk:ai H s=some (.store e tr M))(hf:ai H s2=none)(hne:Nat.beq r s=false)(hnd:js.Nodup)(hl:M2.length=js.length)(hM:∀(i j:Nat),js[i]?=some j->M2[i]?=M[j]?/\j<M.length)
  (h:Ok P c T ((r,.cl e te s2 [])::(s2,.store e tr M2)::(s,.dead)::H) x Q):Ok P c T H x Q:=by
 intro a w ⟨ε,φ,hs⟩
 have hne':r≠s:=fun e=>by subst e;simp at hne
 obtain⟨vs,G,e1,e2,e3,e4,e5⟩:=hs.h s _ hk
 have hrow:ll 1 te (js.map (D.mr s)) ε w (Am.al c (ai H) φ) (ε r) (φ r):=hs.h r _ hh
 have hG:∃cs:List Value,cs.length=js.length/\(∀(i j:Nat) (v:Value),js[i]?=some j->cs[i]?=some v->vs[j]?=some v)/\ll 1 te (cb cs) ε w (Am.al c (ai H) φ) (ε r) (φ r):=by
  rcases hrow with⟨h0,h1,h2⟩|⟨g,n,cap,cs,rest,h1,h2,h3,h4,h5,h8,h6,h7⟩
  ·have:js=[]:=by simpa using h0
   subst this
   exact⟨[],rfl,fun i j v hj=>by simp at hj,.inl ⟨rfl,h1,h2⟩⟩
  ·obtain⟨f1,f2⟩:=BL e1 h7
   exact⟨cs,f1,f2,.inr ⟨g,n,cap,cs,rest,h1,h2,h3,h4,h5,h8,by rw[nD,f1,←h6,List.length_map],km.2 rfl⟩⟩
 obtain⟨cs,f1,f2,f3⟩:=hG
 have inj:∀i i' j,js[i]?=some j->js[i']?=some j->i=i':=fun i i' j h1 h2=>by
  have hi:=(List.getElem?_eq_some_iff.1 h1).1
  exact(List.getElem?_inj hi hnd).1 (h1.trans h2.symm)
 have hS:=hs.wJ (r:=r) (te:=te) (X:=[]) (e:=e) (tr:=tr) (M:=M2) (s2:=s2) [s] (fun q hq=>by
   simp only[List.mem_cons,List.not_mem_nil,or_false]at hq
   subst hq;rw[hk];simp) hf (by rw[hh];simp) (by simpa using hne') cs.toArray (fun i=>G (js.getD i 0)) (by rw[hl,←f1];simp)
   (fun k xs v hx hv=>by
    have hkl:k<js.length:=by rw[←hl];exact(List.getElem?_eq_some_iff.1 hx).1
    have hj:js[k]?=some js[k]:=List.getElem?_eq_getElem hkl
    have hv2:cs[k]?=some v:=by simpa using hv
    have:=f2 k _ v hj hv2
    have hd:js.getD k 0=js[k]:=by simp[List.getD,hj]
    rw[hd]
    exact e3 _ xs v (by rw[←(hM k _ hj).1];exact hx) this)
   (fun k k' hk1 hk2 hne2 i hi hi'=>by
    rw[hl]at hk1 hk2
    have hj:js[k]?=some js[k]:=List.getElem?_eq_getElem hk1
    have hj':js[k']?=some js[k']:=List.getElem?_eq_getElem hk2
    have hd:js.getD k 0=js[k]:=by simp[List.getD,hj]
    have hd':js.getD k' 0=js[k']:=by simp[List.getD,hj']
    rw[hd]at hi
    rw[hd']at hi'
    exact e4 _ _ (hM k _ hj).2 (hM k' _ hj').2 (fun e=>hne2 (inj k k' _ hj (by rw[hj',e]))) i hi hi')
   (fun k hk1 i hi=>by
    rw[hl]at hk1
    have hj:js[k]?=some js[k]:=List.getElem?_eq_getElem hk1
    have hd:js.getD k 0=js[k]:=by simp[List.getD,hj]
    rw[hd]at hi
    exact⟨s,by simp,(e5 i).2 ⟨_,(hM k _ hj).2,hi⟩⟩)
   (by rw[List.map_nil,List.append_nil];exact f3)
 refine h a w (Sat.ext hS (fun _=>rfl) (fun q=>?_))
 rw[bw];rfl
theorem Ok.DK{x:Code}{Q:Exit->Act->World->Prop}{i k:Int}{vi vk:List α}(s2:Nat)(hh:ai H r=some (.gG 1 te ((((List.range M.length).set i.toNat k.toNat).set k.toNat i.toNat).map (D.mr s))))(hk:ai H s=some (.store e tr M))(hf:ai H s2=none)(hne:Nat.beq r s=false)(hi:M[i.toNat]?=some vi)(hkk:M[k.toNat]?=some vk)
  (h:Ok P c T ((r,.cl e te s2 [])::(s2,.store e tr ((M.set i.toNat vk).set k.toNat vi))::(s,.dead)::H) x Q):Ok P c T H x Q:=by
 have h1:=(List.getElem?_eq_some_iff.1 hi).1
 have h2:=(List.getElem?_eq_some_iff.1 hkk).1
 generalize i.toNat=i at*
 generalize k.toNat=k at*
 have hjs:∀n j:Nat,(((List.range M.length).set i k).set k i)[n]?=some j↔n<M.length/\j=(if n=k then i else if n=i then k else n):=by
  intro n j
  by_cases hn:n<M.length
  ·by_cases e1:n=k
   ·subst e1
    rw[List.getElem?_set_self (by simpa using hn)]
    simp[hn,eq_comm]
   ·rw[List.getElem?_set_ne (Ne.symm e1)]
    by_cases e2:n=i
    ·subst e2
     rw[List.getElem?_set_self (by simpa using hn)]
     simp[hn,e1,eq_comm]
    ·rw[List.getElem?_set_ne (Ne.symm e2)]
     simp[hn,e1,e2,eq_comm]
  ·rw[List.getElem?_eq_none (by simp;omega)]
   simp[hn]
 refine .DJ s2 hh hk hf hne ?_ (by simp) (fun n j hj=>?_) h
 ·rw[List.nodup_iff_pairwise_ne,List.pairwise_iff_getElem]
  intro a b ha hb hab e
  have ha':=(hjs a _).1 (List.getElem?_eq_getElem ha)
  have hb':=(hjs b _).1 (List.getElem?_eq_getElem hb)
  rw[ha'.2,hb'.2]at e
  by_cases a1:a=k<;>by_cases a2:a=i<;>by_cases a3:b=k<;>by_cases a4:b=i<;>simp_all<;>omega
 ·obtain⟨h3,rfl⟩:=(hjs n j).1 hj
  by_cases e1:n=k
  ·subst e1
   rw[List.getElem?_set_self (by simpa using h2),if_pos rfl,hi]
   exact⟨rfl,h1⟩
  ·rw[List.getElem?_set_ne (Ne.symm e1),if_neg e1]
   by_cases e2:n=i
   ·subst e2
    rw[List.getElem?_set_self h1,if_pos rfl,hkk]
    exact⟨rfl,h2⟩
   ·rw[List.getElem?_set_ne (Ne.symm e2),if_neg e2]
    exact⟨rfl,h3⟩
end
end Go.Am
namespace Go.Am
open Go.RowKit
theorem wa.cl{α:Type}{ρ:Nat->Nat}{e:ak α}{te:TypeId}{s:Nat}{X:List (List α)}:wa ρ (.cl e te (ρ s) X) (.cl e te s X):=by
 refine⟨fun ε w S b F h=>?_,fun r hr=>?_⟩
 ·obtain⟨vs,e1,_⟩:=id h
  have:=rP e1 h
  exact vH (ε:=fun r=>ε (ρ r)) e1 (mT this (by rw[cV (dk _) (lL e X)];intro r hr;cases hr) (fun _ hk _=>⟨hk,rfl⟩) (fun _ _=>rfl))
 ·have:r=s:=by simpa [Hp.cl]using hr
  subst this;simp[Hp.cl]
section
variable {P:Program} {os:List Oper} {c:Ctx} {T T':List (Nat×D)} {H H':List (Nat×Hp)} {sps:List Spec}
variable {ops:Array Oper} {dst:Option Nat} {ty:TypeId} {pos:String} {aft:Array Edge}
variable {α:Type} {e:ak α} {te tr:TypeId} {r s:Nat} {M X:List (List α)}
theorem zI{ε:Env}{w:World}{S S':cr}{F F':cr}(de:(Hp.cl e te s []).p ε w S (ε r) F)(hsto:(Hp.store e tr M).p ε w S (ε s) F')(hm0:0<e.n)(hS:∀k,S k->S' k)(hF:∀k,F k->S' k)(hF':∀k,F' k->S' k):(ag (ak.slice e) M).p ε w S' (ε r):=by
 have hrow:=kz de hsto
 obtain⟨vs,G,e1,e2,e3,e4,e5⟩:=hsto
 rw[List.map_nil,List.append_nil]at hrow
 have hrow2:ll 1 te (M.map (ag e)) ε w S' (ε r) F:=by
  rcases hrow with⟨h0,h1,h2⟩|⟨g,n,cap,cs,rest,h1,h2,h3,h4,h5,h8,h6,h7⟩
  ·have:M.length=0:=by have:=congrArg List.length h0;rwa [cI]at this
   have:M=[]:=List.eq_nil_of_length_eq_zero this
   exact .inl ⟨by rw[this];rfl,h1,h2⟩
  ·refine .inr ⟨g,n,cap,cs,rest,h1,h2,h3,h4,h5,h8,by rw[←h6];simp[cI],?_⟩
   have hcl:=aI h7
   rw[cI]at hcl
   have key:∀(N:List (List α)) (us:List Value),us.length=N.length->(∀(k:Nat) (xs:List α) (v:Value),N[k]?=some xs->us[k]?=some v->(ag e xs).p ε w S' v)->bW ε w S' (N.map (ag e)) us:=by
    intro N
    induction N with
    |nil=>intro us hl _;have:=List.eq_nil_of_length_eq_zero hl;subst this;exact trivial
    |cons x N ih=>
     intro us hl hk'
     cases us with
     |nil=>simp at hl
     |cons u us=>
      exact⟨hk' 0 x u rfl rfl,ih us (by simpa using hl) (fun k xs v hx hv=>hk' (k+1) xs v (by simpa using hx) (by simpa using hv))⟩
   refine key M cs hcl (fun k xs v hx hv=>?_)
   have hkl:k<M.length:=(List.getElem?_eq_some_iff.1 hx).1
   have hv2:vs[k]?=some v:=by
    have:=mH (s:=s) (S:=S) (w:=w) e1 (by rw[e2];exact h7)
    rw[this]at hv
    simpa using hv
   exact mL (e3 k xs v hx hv2) hm0 hS (fun i hi=>hF' i ((e5 i).2 ⟨k,hkl,hi⟩))
 exact mL (e:=ak.slice e) (te:=te) (xs:=M) (F:=F) (S:=S') (by show ll 1 te (flat (ak.slice e) M) _ _ _ _ _;rw[lK];exact hrow2) (show 0<1 by decide) (fun _ h=>h) hF
def Ek(R:List (Nat×Hp))(d d':D):Prop:=∀(ε:Env) (w:World) (S S':cr) (φ:Nat->cr),(∀q h,ai R q=some h->h.p ε w S (ε q) (φ q))->(∀k,S k->S' k)->(∀q,ai R q≠none->∀k,φ q k->S' k)->∀v,d.p ε w S v->d'.p ε w S' v
def sS(R:List (Nat×Hp)):List D->List D->Prop
 |[],[]=>True
 |d::l,d'::l'=>Ek R d d'/\sS R l l'
 |_,_=>False
theorem sS.all{R:List (Nat×Hp)}{ε:Env}{w:World}{S S':cr}{φ:Nat->cr}(h1:∀q h,ai R q=some h->h.p ε w S (ε q) (φ q))(h2:∀k,S k->S' k)(h3:∀q,ai R q≠none->∀k,φ q k->S' k):∀{l l':List D} {vs:List Value},sS R l l'->bW ε w S l vs->bW ε w S' l' vs
 |[],[],[],_,_=>trivial
 |[],[],_::_,_,h=>h.elim
 |d::l,d'::l',[],_,h=>h.elim
 |d::l,d'::l',v::vs,hs,h=>⟨hs.1 ε w S S' φ h1 h2 h3 v h.1,sS.all h1 h2 h3 hs.2 h.2⟩
 |[],_::_,_,hs,_=>hs.elim
 |_::_,[],_,hs,_=>hs.elim
theorem Ek.cl{R:List (Nat×Hp)}{d:D}(hd:Le d (.own r))(hr:ai R r=some (.cl e te s []))(hs:ai R s=some (.store e tr M))(hm:Nat.blt 0 e.n=true):Ek R d (ag (ak.slice e) M):=fun ε w S S' φ h1 h2 h3 v hv=>by
 have:=(hd.1 _ _ _ _ hv).1
 subst this
 exact zI (h1 r _ hr) (h1 s _ hs) (by simpa using hm) h2 (h3 r (by rw[hr];simp)) (h3 s (by rw[hs];simp))
def Plain(d:D):Prop:=∀(ε ε':Env) (w w':World) (S S':cr) (v:Value),d.p ε w S v->d.p ε' w' S' v
theorem Plain.int{k:IntKind}{n:Int}:Plain (.int k n):=fun _ _ _ _ _ _ _ h=>h
theorem Plain.bool{b:Bool}:Plain (.bool b):=fun _ _ _ _ _ _ _ h=>h
def rH:List D->Prop
 |[]=>True
 |d::l=>Plain d/\rH l
theorem rH.all:∀{l:List D} {vs:List Value} {ε ε':Env} {w w':World} {S S':cr},rH l->bW ε w S l vs->bW ε' w' S' l vs
 |[],[],_,_,_,_,_,_,_,_=>trivial
 |_::_,_::_,_,_,_,_,_,_,hp,h=>⟨hp.1 _ _ _ _ _ _ _ h.1,rH.all hp.2 h.2⟩
 |[],_::_,_,_,_,_,_,_,_,h=>h.elim
 |_::_,[],_,_,_,_,_,_,_,h=>h.elim
theorem Plain.iC{l:List D}(h:rH l):Plain (.iC l):=fun _ _ _ _ _ _ _ ⟨cs,e,ha⟩=>⟨cs,e,h.all ha⟩
theorem an.Bi{f:FuncId}{xs:List Operand}{ats:Array TypeId}{ds ds0:List D}{d:D}(R:List (Nat×Hp))(hc:aS P f [] ds [] d)(he:wz T xs ds0)(dt:hasAll H R)(hsee:sS R ds0 ds)(hpl:Plain d)(hnm:d.nm=[])
  (hr:an P ops c os (br T dst d) H sps T' H'):
  an P ops c (⟨dst,.call {callee:=.value (.func f),args:=xs.toArray,argTypes:=ats},ty,pos,aft,none⟩::os) T H ({ins:=(xs.zip ds0).flatMap fun x=>eD x.1 x.2,dt:=R,out:=d,de:=[],news:=[]}::sps) T' H':=by
 refine .cons (sp:={ins:=(xs.zip ds0).flatMap fun x=>eD x.1 x.2,dt:=R,out:=d,de:=[],news:=[]}) ?_ (eB (fN he)) (pB dt) trivial hr
 intro hdst T0 H0 hi hin0 _ a w ⟨ε,φ,hs⟩ Q K hK
 rw[if_pos (bj rfl _)]
 have hx:∀x∈xs.zip ds0,fi T0 (eD x.1 x.2):=cC hi
 have hget0:=m2 hin0
 have hall0:bW ε w (Am.al c H0 φ) ds0 (xs.map a.eval):=gK he (fun x h=>(hs.ev (hx x h) (aA (fN he x h)).2).1)
 have hall:=sS.all (S':=fun k=>Am.al c H0 φ k\/∃q,ai R q≠none/\φ q k) (fun q h hq=>hs.h q h (hget0 q h hq)) (fun k hk=>.inl hk) (fun q hq k hk=>.inr ⟨q,hq,hk⟩) hsee hall0
 simp only[Oper.wp,kS hc.ok a w,Oper.upon]
 refine(hc.calls (fun k=>Am.al c H0 φ k\/∃q,ai R q≠none/\φ q k) w ε φ (xs.map a.eval) (fun r hr=>absurd rfl hr) (fun r r' hr=>absurd rfl hr) (fun r h hr=>by cases hr) hall).mono ?_
 rintro e w' ⟨v,ε',φ',rfl,_,hv,_,_,_,hbel⟩
 have hb:Below w.heap.size w w':=⟨hbel.os,hbel.tape,hbel.output,hbel.size,fun k hk=>hbel.block k hk (fun⟨r,hr,_⟩=>hr rfl)⟩
 have hS:=hs.grow hb
 exact hK _ _ ⟨ε,φ,hS.put (d:=d) (db hdst) (hpl _ _ _ _ _ _ _ hv) (by rw[hnm];intro r hr;cases hr)⟩
end
end Go.Am
namespace Go.Am
open Go.RowKit
theorem wx.pJ{ρ:Nat->Nat}{f:FuncId}{l l' m m':List D}(h1:rA ρ l l')(h2:rA ρ m m'):wx ρ (.pJ f l m) (.pJ f l' m'):=
 ⟨fun _ _ _ _ ⟨vs,us,e,a1,a2⟩=>⟨vs,us,e,h1.all a1,h2.all a2⟩,fun r hr=>by
  rcases List.mem_append.1 hr with h|h
  ·exact List.mem_append.2 (.inl (h1.bK r h))
  ·exact List.mem_append.2 (.inr (h2.bK r h))⟩
section
variable {P:Program} {os:List Oper} {c:Ctx} {T T':List (Nat×D)} {H H':List (Nat×Hp)} {sps:List Spec}
variable {ops:Array Oper} {dst:Option Nat} {ty:TypeId} {pos:String} {aft:Array Edge}
variable {α:Type} {e:ak α} {te tr:TypeId} {r s:Nat} {M X:List (List α)}
theorem Ok.kj{x:Code}{Q:Exit->Act->World->Prop}(t:Nat)(ht:aP T t=some (.own r))(hh:ai H r=some (.cl e te s []))(hk:ai H s=some (.store e tr M))
  (h:Ok P c ((t,.sl r M.length)::T) H x Q):Ok P c T H x Q:=.Fe t ht hh hk h
theorem an.Fv{t te:TypeId}{r r1:Nat}{x:Operand}{bt:Nat}{z:D}(hx:ev T x=some (.own r1))(hm:n5 P t=some (te,1,bt,[z]))(hf:ai H r=none)
  (hr:an P ops c os ((r,.own r)::T) ((r,.gG 1 te [.own r1])::H) sps T' H'):
  an P ops c (⟨some r,.buildSlice t 1 #[(0,x)],ty,pos,aft,none⟩::os) T H (rws (qs [(0,x,.own r1,[.own r1])]) r (.gG 1 te [.own r1])::sps) T' H':=
 .GW (parts:=[(0,x)]) [.own r1] [(0,x,.own r1,[.own r1])] hm rfl rfl ⟨rfl,rfl,.one rfl,rfl,trivial⟩ (by intro y hy;simp[qs]at hy;subst hy;exact hx) rfl rfl (fun r' hr'=>⟨(x,.own r1),by simp[qs],by simpa [bK]using hr'⟩) hf hr
theorem yF{H0:Nat->Option Hp}{Hi:List (Nat×Hp)}(h:∀r x,ai Hi r=some x->H0 r=some x):bB H0 Hi=H0:=by
 funext r
 simp only[bB]
 cases hq:ai Hi r with
 |none=>rfl
 |some x=>exact(h r x hq).symm
theorem oF.rI{o:Oper}{xs:List (Operand×D)}{Hi:List (Nat×Hp)}{d:D}(h:oF P ops c o (Ff xs Hi Hi d))(hn:fc Hi Hi=[]):oF P ops c o {ins:=xs.flatMap fun x=>eD x.1 x.2,dt:=Hi,out:=d,de:=[],news:=[]}:=by
 intro hd T0 H0 hi dt _ a w hs Q K hK
 refine h hd T0 H0 hi dt (show lf H0 (fc Hi Hi)by rw[hn];exact trivial) a w hs Q K (fun a' w' hs'=>hK a' w' ?_)
 have:bB H0 Hi=H0:=yF (m2 dt)
 show Sat c (fR T0 o.dst d) (bB H0 []) a' w'
 have hs2:Sat c (fR T0 o.dst d) (bB H0 Hi) a' w':=hs'
 rw[this]at hs2
 rw[vV];exact hs2
theorem an.zW{f:FuncId}{xs:List Operand}{ats:Array TypeId}{Hi:List (Nat×Hp)}{ds:List D}{d:D}(hc:aS P f Hi ds Hi d)(he:wz T xs ds)(dt:hasAll H Hi)(hn:fc Hi Hi=[])
  (hr:an P ops c os (br T dst d) H sps T' H'):
  an P ops c (⟨dst,.call {callee:=.value (.func f),args:=xs.toArray,argTypes:=ats},ty,pos,aft,none⟩::os) T H ({ins:=(xs.zip ds).flatMap fun x=>eD x.1 x.2,dt:=Hi,out:=d,de:=[],news:=[]}::sps) T' H':=by
 have h0:=an.ah (P:=P) (ops:=ops) (c:=c) (os:=[]) (T:=T) (H:=H) (dst:=dst) (ty:=ty) (pos:=pos) (aft:=aft) (ats:=ats) hc he dt (by rw[hn];exact trivial) .nil
 cases h0 with
 |cons h1 h2 h3 h4 _=>exact .cons (h1.rI hn) h2 h3 trivial hr
theorem an.E2{f:FuncId}{x:Operand}{xs:List Operand}{ats:Array TypeId}{Hi:List (Nat×Hp)}{l m ds:List D}{d:D}(hx:ev T x=some (.pJ f l m))(hc:aS P f Hi (l++ds++m) Hi d)(he:wz T xs ds)(dt:hasAll H Hi)(hn:fc Hi Hi=[])
  (hr:an P ops c os (br T dst d) H sps T' H'):
  an P ops c (⟨dst,.call {callee:=.value x,args:=xs.toArray,argTypes:=ats},ty,pos,aft,none⟩::os) T H ({ins:=((x,D.pJ f l m)::xs.zip ds).flatMap fun x=>eD x.1 x.2,dt:=Hi,out:=d,de:=[],news:=[]}::sps) T' H':=by
 have h0:=an.DY (P:=P) (ops:=ops) (c:=c) (os:=[]) (T:=T) (H:=H) (dst:=dst) (ty:=ty) (pos:=pos) (aft:=aft) (ats:=ats) hx hc he dt (by rw[hn];exact trivial) .nil
 cases h0 with
 |cons h1 h2 h3 h4 _=>exact .cons (h1.rI hn) h2 h3 trivial hr
end
end Go.Am
namespace Go.Am
open Go.RowKit
set_option maxRecDepth 100000
noncomputable section
def iH(a1:List (List Rat))(v4:Int)(v5:Int):Option (St (Int×Int) (Ex Int (Int×Bool))):=(if(decide (v5<(a1.length:Int)))=true then((if(v5==0)=true then(ix a1 v5).bind fun v14=>some ((v14.length:Int))else some (v4))).bind fun v16=>(ix a1 v5).bind fun v17=>(if((v17.length:Int) !=v16)=true then some (St.done (Ex.ret (0,false)))else some (St.next (v16,(IntKind.i64.wrap (v5+1)))))else some (St.done (Ex.da v4)))
def iU(a1:List (List Rat)):Option (Int×Bool):=((Loop (fun(s:Int×Int)=>iH a1 s.1 s.2) (0,0)).bind fun o6=>(match o6 with|Ex.da v20=>some (Ex.da v20)|Ex.ret (r21,r22)=>some (Ex.ret (r21,r22)))).bind fun o2=>(match o2 with|Ex.da v23=>some (v23,true)|Ex.ret (r24,r25)=>some (r24,r25))
theorem pA{a1:List (List Rat)}{r26:Int}{r27:Bool}(h:iU a1=some (r26,r27)):aS PP 106 [] [ag (ak.slice ak.rq) a1] [] (D.iC [D.int .i64 r26,D.bool r27]):=by
 unfold iU at h
 refine .of Go.Proofs.Tryz.func106 rfl (by kernel_rfl) rfl rfl rfl rfl rfl rfl (fun A w0 L b=>?_)
 show Ok PP _ [(0,ag (ak.slice ak.rq) a1)] [] _ _
 refine .al (.aq rfl<|.aq rfl<|.nil) rfl ?_
 refine .al (.aq rfl<|.nil) rfl ?_
 obtain⟨o2,hp3,h⟩:=bind_some h
 refine .cd (fun i=>o2=Ex.da i) (fun(i:Int)=>[(4,D.int .i64 i)]) (fun(i:Int)=>[]) ?_ ?_
 ·have ho1:=h
  clear h
  have h:=hp3
  clear hp3
  refine .al (.aq rfl<|.nil) rfl ?_
  obtain⟨o6,hl7,h⟩:=bind_some h
  have ho2:=h
  clear h
  refine .block (.b8 (fun(s:Int×Int)=>[(0,ag (ak.slice ak.rq) a1),(4,D.int .i64 s.1),(5,D.int .i64 s.2)]) (fun(s:Int×Int)=>[]) hl7 (.of rfl) trivial rfl rfl ?_)
  rintro⟨v4,v5⟩ st8 hb9
  have h:iH a1 v4 v5=some st8:=hb9
  clear hb9
  unfold iH at h
  try dsimp only
  refine .sq ?_
  refine .al (.mv rfl<|.mv rfl<|.ep rfl b9<|.cm rfl rfl rfl<|.nil) rfl ?_
  by_cases c10:(decide (v5<(a1.length:Int)))=true
  ·replace h:=aa c10 h
   refine .cj rfl c10 ?_
   refine .skip (Ok.on ?_)
   refine .sq ?_
   refine .block ?_
   obtain⟨v16,hp12,h⟩:=bind_some h
   refine .cd (fun i=>v16=i) (fun(i:Int)=>[(0,ag (ak.slice ak.rq) a1),(4,D.int .i64 i),(5,D.int .i64 v5)]) (fun(i:Int)=>[]) ?_ ?_
   ·have ho3:=h
    clear h
    have h:=hp12
    clear hp12
    refine .al (.mv rfl<|.cm rfl rfl rfl<|.nil) rfl ?_
    by_cases c13:(v5==0)=true
    ·replace h:=aa c13 h
     refine .cj rfl c13 ?_
     obtain⟨v14,e15,h⟩:=bind_some h
     refine .region (.mv rfl<|.mv rfl<|.ko rfl rfl aY (af e15).1 (af e15).2<|.gC rfl bb<|.ep rfl gp<|.aq rfl<|.nil) rfl (fun _ _ hs=>⟨(v14.length:Int),(Option.some.inj h).symm,hs.sub (.of rfl) trivial rfl rfl⟩)
    ·replace h:=ab c13 h
     refine .ck rfl c13 ?_
     refine .skip (fun _ _ hs=>⟨v4,(Option.some.inj h).symm,hs.sub (.of rfl) trivial rfl rfl⟩)
   ·rintro _ rfl
    try dsimp only
    obtain⟨v17,e18,h⟩:=bind_some h
    refine .al (.mv rfl<|.mv rfl<|.ko rfl rfl aY (af e18).1 (af e18).2<|.gC rfl bb<|.ep rfl gp<|.mv rfl<|.cm rfl rfl rfl<|.nil) rfl ?_
    by_cases c19:((v17.length:Int) !=v16)=true
    ·replace h:=aa c19 h
     refine .cj rfl c19 ?_
     refine .al (.aq rfl<|.aq rfl<|.nil) rfl ?_
     refine .aH (Hi:=[]) (Ho:=[]) (b:=b) (fn:=Go.Proofs.Tryz.f106) (d:=D.iC [D.int .i64 0,D.bool false]) (fun _ _ hb=>by exact⟨_,(Option.some.inj h).symm,fun e=>by subst e;have h:=ho2;cases h;have h:=ho1;cases h;exact hb⟩) rfl (.cons (.tmp rfl) (.cons (.tmp rfl) .nil)) (.refl _) trivial trivial
    ·replace h:=ab c19 h
     refine .ck rfl c19 ?_
     refine .skip (Ok.on ?_)
     refine .region (.mv rfl<|.ar rfl rfl rfl<|.aq rfl<|.nil) rfl (fun _ _ hs=>⟨(v16,(IntKind.i64.wrap (v5+1))),(Option.some.inj h).symm,hs.sub (.of rfl) trivial rfl rfl⟩)
  ·replace h:=ab c10 h
   refine .ck rfl c10 ?_
   refine .exit (fun a w hs=>⟨_,(Option.some.inj h).symm,fun e=>by subst e;have h:=ho2;exact aZ (⟨v4,(Option.some.inj h).symm,hs.sub (.of rfl) trivial rfl rfl⟩)⟩)
 ·rintro v23 rfl
  try dsimp only
  refine .al (.mv rfl<|.aq rfl<|.aq rfl<|.nil) rfl ?_
  cases h
  refine .aH (fun _ _ hb=>hb) rfl (.cons (.tmp rfl) (.cons (.tmp rfl) .nil)) (.refl _) trivial trivial
end
end Go.Am
namespace Go.Am
open Go.RowKit
set_option maxRecDepth 100000
noncomputable section
def jR(a1:List Rat)(a2:Int):Option Bool:=some ((a1.length:Int) !=a2)
theorem tN{a1:List Rat}{a2:Int}{r3:Bool}(h:jR a1 a2=some r3):aS PP 234 [(1,Hp.box 3 ([D.int .i64 a2]))] [ag ak.rat a1,D.ref 1 0] [(1,Hp.box 3 ([D.int .i64 a2]))] (D.bool r3):=by
 unfold jR at h
 refine .of Go.Proofs.Tryz.func234 rfl (by kernel_rfl) rfl rfl rfl rfl rfl rfl (fun A w0 L b=>?_)
 show Ok PP _ [(0,ag ak.rat a1),(1,D.ref 1 0),(1000001,D.pinned 1 (b 1))] [(1,Hp.box 3 ([D.int .i64 a2]))] _ _
 refine .al (.aq rfl<|.nil) rfl ?_
 refine .al (.mv rfl<|.ep rfl dp<|.bg (D.int .i64 a2) rfl rfl cB rfl<|.cm rfl rfl rfl<|.aq rfl<|.nil) rfl ?_
 cases h
 refine .aH (fun _ _ hb=>hb) rfl (.cons (.tmp rfl) .nil) (.refl _) (.of rfl) (.of rfl)
def dK(a1:List (List Rat))(a2:Int)(v5:Int):Option (St Int (Ex Unit Int)):=(if(decide (v5<(a1.length:Int)))=true then(ix a1 v5).bind fun v11=>(jR v11 a2).bind fun v13=>(if v13=true then some (St.done (Ex.ret v5))else some (St.next (IntKind.i64.wrap (v5+1))))else some (St.done (Ex.da ())))
def gl(a1:List (List Rat))(a2:Int):Option Int:=((Loop (fun(s:Int)=>dK a1 a2 s) 0).bind fun o6=>(match o6 with|Ex.da ()=>some (Ex.da ())|Ex.ret r16=>some (Ex.ret r16))).bind fun o3=>(match o3 with|Ex.da ()=>some (-1)|Ex.ret r17=>some r17)
theorem pE{a1:List (List Rat)}{a2:Int}{r18:Int}(h:gl a1 a2=some r18):aS PP 253 [(610,Hp.box 3 ([D.int .i64 a2]))] [ag (ak.slice ak.rat) a1,D.pJ 234 [] [D.ref 610 0]] [(610,Hp.box 3 ([D.int .i64 a2]))] (D.int .i64 r18):=by
 unfold gl at h
 refine .of Go.Proofs.Tryz.func253 rfl (by kernel_rfl) rfl rfl rfl rfl rfl rfl (fun A w0 L b=>?_)
 show Ok PP _ [(0,ag (ak.slice ak.rat) a1),(1,D.pJ 234 [] [D.ref 610 0]),(1000610,D.pinned 610 (b 610))] [(610,Hp.box 3 ([D.int .i64 a2]))] _ _
 refine .al (.aq rfl<|.nil) rfl ?_
 obtain⟨o3,hp4,h⟩:=bind_some h
 refine .cd (fun i=>o3=Ex.da i) (fun(i:Unit)=>[(1000610,D.pinned 610 (b 610))]) (fun(i:Unit)=>[(610,Hp.box 3 ([D.int .i64 a2]))]) ?_ ?_
 ·have ho1:=h
  clear h
  have h:=hp4
  clear hp4
  refine .al (.mv rfl<|.ep rfl bN<|.mv rfl<|.nil) rfl ?_
  obtain⟨o6,hl7,h⟩:=bind_some h
  have ho2:=h
  clear h
  refine .block (.b8 (fun(s:Int)=>[(0,ag (ak.slice ak.rat) a1),(1,D.pJ 234 [] [D.ref 610 0]),(7,D.int .i64 (a1.length:Int)),(8,D.int .i64 s),(1000610,D.pinned 610 (b 610))]) (fun(s:Int)=>[(610,Hp.box 3 ([D.int .i64 a2]))]) hl7 (.of rfl) (.of rfl) rfl rfl ?_)
  rintro v5 st8 hb9
  have h:dK a1 a2 v5=some st8:=hb9
  clear hb9
  unfold dK at h
  try dsimp only
  refine .al (.cm rfl rfl rfl<|.nil) rfl ?_
  refine .sq ?_
  by_cases c10:(decide (v5<(a1.length:Int)))=true
  ·replace h:=aa c10 h
   refine .cj rfl c10 ?_
   refine .skip (Ok.on ?_)
   refine .sq ?_
   refine .block ?_
   refine .al (.mv rfl<|.aq rfl<|.nil) rfl ?_
   obtain⟨v11,e12,h⟩:=bind_some h
   obtain⟨v13,e14,h⟩:=bind_some h
   refine .al (.mv rfl<|.mv rfl<|.mv rfl<|.ko rfl rfl bL (af e12).1 (af e12).2<|.gC rfl bT<|.E2 (Hi:=[(610,Hp.box 3 ([D.int .i64 a2]))]) (d:=D.bool v13) (ds:=[ag ak.rat v11]) rfl (.Di (tN e14) (fun r=>match r with|1=>610|r=>r) (fun r=>match r with|610=>1|r=>r) rfl ⟨⟨_,rfl,.refl rfl⟩,trivial⟩ rfl ⟨.refl rfl,.ref (r:=1),trivial⟩ ⟨⟨_,rfl,.refl rfl⟩,trivial⟩ rfl (.refl rfl) rfl rfl rfl rfl rfl) ⟨rfl,trivial⟩ ⟨rfl,trivial⟩ rfl<|.nil) rfl ?_
   by_cases c15:v13=true
   ·replace h:=aa c15 h
    refine .cj rfl c15 ?_
    refine .al (.mv rfl<|.aq rfl<|.nil) rfl ?_
    refine .aH (Hi:=[(610,Hp.box 3 ([D.int .i64 a2]))]) (Ho:=[(610,Hp.box 3 ([D.int .i64 a2]))]) (b:=b) (fn:=Go.Proofs.Tryz.f253) (d:=D.int .i64 v5) (fun _ _ hb=>by exact⟨_,(Option.some.inj h).symm,fun e=>by subst e;have h:=ho2;cases h;have h:=ho1;cases h;exact hb⟩) rfl (.cons (.tmp rfl) .nil) (.refl _) (.of rfl) (.of rfl)
   ·replace h:=ab c15 h
    refine .ck rfl c15 ?_
    refine .skip (Ok.on ?_)
    refine .region (.ar rfl rfl rfl<|.mv rfl<|.nil) rfl (fun _ _ hs=>⟨(IntKind.i64.wrap (v5+1)),(Option.some.inj h).symm,hs.sub (.of rfl) (.of rfl) rfl rfl⟩)
  ·replace h:=ab c10 h
   refine .ck rfl c10 ?_
   refine .exit (fun a w hs=>⟨_,(Option.some.inj h).symm,fun e=>by subst e;have h:=ho2;exact aZ (⟨(),(Option.some.inj h).symm,hs.sub (.of rfl) (.of rfl) rfl rfl⟩)⟩)
 ·rintro⟨⟩ rfl
  try dsimp only
  refine .al (.aq rfl<|.nil) rfl ?_
  cases h
  refine .aH (fun _ _ hb=>hb) rfl (.cons (.tmp rfl) .nil) (.refl _) (.of rfl) (.of rfl)
def eW(a1:List (List Rat))(a2:Int):Option Bool:=(gl a1 a2).bind fun v3=>some (decide (v3>=0))
theorem ng{a1:List (List Rat)}{a2:Int}{r5:Bool}(h:eW a1 a2=some r5):aS PP 233 [(610,Hp.box 3 ([D.int .i64 a2]))] [ag (ak.slice ak.rat) a1,D.pJ 234 [] [D.ref 610 0]] [(610,Hp.box 3 ([D.int .i64 a2]))] (D.bool r5):=by
 unfold eW at h
 refine .of Go.Proofs.Tryz.func233 rfl (by kernel_rfl) rfl rfl rfl rfl rfl rfl (fun A w0 L b=>?_)
 show Ok PP _ [(0,ag (ak.slice ak.rat) a1),(1,D.pJ 234 [] [D.ref 610 0]),(1000610,D.pinned 610 (b 610))] [(610,Hp.box 3 ([D.int .i64 a2]))] _ _
 refine .al (.aq rfl<|.nil) rfl ?_
 obtain⟨v3,e4,h⟩:=bind_some h
 refine .al (.mv rfl<|.mv rfl<|.zW (Hi:=[(610,Hp.box 3 ([D.int .i64 a2]))]) (d:=D.int .i64 v3) (ds:=[ag (ak.slice ak.rat) a1,D.pJ 234 [] [D.ref 610 0]]) (.Di (pE e4) (fun r=>match r with|r=>r) (fun r=>match r with|r=>r) rfl ⟨⟨_,rfl,.refl rfl⟩,trivial⟩ rfl ⟨.refl rfl,.pJ trivial ⟨.ref (r:=610),trivial⟩,trivial⟩ ⟨⟨_,rfl,.refl rfl⟩,trivial⟩ rfl (.refl rfl) rfl rfl rfl rfl rfl) ⟨rfl,rfl,trivial⟩ ⟨rfl,trivial⟩ rfl<|.cm rfl rfl rfl<|.aq rfl<|.nil) rfl ?_
 cases h
 refine .aH (fun _ _ hb=>hb) rfl (.cons (.tmp rfl) .nil) (.refl _) (.of rfl) (.of rfl)
def gT(a1:List (List Rat)):Option (Int×Int×Bool):=(if((a1.length:Int)==0)=true then some (0,0,true)else(ix a1 0).bind fun v3=>(eW a1 (v3.length:Int)).bind fun v5=>some ((a1.length:Int),(v3.length:Int),(!v5)))
theorem nG{a1:List (List Rat)}{r7:Int}{r8:Int}{r9:Bool}(h:gT a1=some (r7,r8,r9)):aS PP 194 [] [ag (ak.slice ak.rat) a1] [] (D.iC [D.int .i64 r7,D.int .i64 r8,D.bool r9]):=by
 unfold gT at h
 refine .of Go.Proofs.Tryz.func194 rfl (by kernel_rfl) rfl rfl rfl rfl rfl rfl (fun A w0 L b=>?_)
 show Ok PP _ [(0,ag (ak.slice ak.rat) a1)] [] _ _
 refine .al (.aq rfl<|.aq rfl<|.aq rfl<|.nil) rfl ?_
 refine .sq ?_
 refine .al (.mv rfl<|.ep rfl bN<|.cm rfl rfl rfl<|.nil) rfl ?_
 by_cases c2:((a1.length:Int)==0)=true
 ·replace h:=aa c2 h
  refine .cj rfl c2 ?_
  refine .al (.aq rfl<|.aq rfl<|.aq rfl<|.nil) rfl ?_
  cases h
  refine .aH (fun _ _ hb=>hb) rfl (.cons (.tmp rfl) (.cons (.tmp rfl) (.cons (.tmp rfl) .nil))) (.refl _) trivial trivial
 ·replace h:=ab c2 h
  refine .ck rfl c2 ?_
  refine .skip (Ok.on ?_)
  obtain⟨v3,e4,h⟩:=bind_some h
  refine .al (.mv rfl<|.ko rfl rfl bL (af e4).1 (af e4).2<|.gC rfl bT<|.ep rfl dp<|.gd ([D.int .i64 0]) DQ ⟨.refl _,trivial⟩ rfl<|.w8 ([D.int .i64 (v3.length:Int)]) rfl rfl rfl cB rfl rfl rfl<|.nil) rfl ?_
  obtain⟨v5,e6,h⟩:=bind_some h
  refine .dc cg (.mv rfl<|.ep rfl bN<|.bg (D.int .i64 (v3.length:Int)) rfl rfl cB rfl<|.mv rfl<|.Gs (fs:=[]) (cs:=[.tmp 5]) (l:=[]) (m:=[D.ref 5 0]) trivial ⟨rfl,trivial⟩<|.zW (Hi:=[(5,Hp.box 3 ([D.int .i64 (v3.length:Int)]))]) (d:=D.bool v5) (ds:=[ag (ak.slice ak.rat) a1,D.pJ 234 [] [D.ref 5 0]]) (.Di (ng e6) (fun r=>match r with|610=>5|r=>r) (fun r=>match r with|5=>610|r=>r) rfl ⟨⟨_,rfl,.refl rfl⟩,trivial⟩ rfl ⟨.refl rfl,.pJ trivial ⟨.ref (r:=610),trivial⟩,trivial⟩ ⟨⟨_,rfl,.refl rfl⟩,trivial⟩ rfl (.refl rfl) rfl rfl rfl rfl rfl) ⟨rfl,rfl,trivial⟩ ⟨rfl,trivial⟩ rfl<|.not rfl<|.aq rfl<|.aq rfl<|.aq rfl<|.nil) rfl (by kernel_rfl) ?_
  cases h
  refine .aH (fun _ _ hb=>hb) rfl (.cons (.tmp rfl) (.cons (.tmp rfl) (.cons (.tmp rfl) .nil))) (.refl _) trivial trivial
end
end Go.Am
namespace Go.Am
open Go.RowKit
set_option maxRecDepth 100000
noncomputable section
def iN(a1:List (List (Int×Int×Int)))(a2:Int)(v5:Int):Option (St Int (Ex Unit Bool)):=(if(decide (v5<(a1.length:Int)))=true then(if(decide (v5<=a2))=true then(ix a1 v5).bind fun v12=>(if(decide ((v12.length:Int)>a2))=true then some (St.done (Ex.ret false))else some (St.next (IntKind.i64.wrap (v5+1))))else some (St.done (Ex.da ())))else some (St.done (Ex.da ())))
def kV(a1:List (List (Int×Int×Int)))(a2:Int):Option Bool:=((Loop (fun(s:Int)=>iN a1 a2 s) 0).bind fun o6=>(match o6 with|Ex.da ()=>some (Ex.da ())|Ex.ret r15=>some (Ex.ret r15))).bind fun o3=>(match o3 with|Ex.da ()=>some (decide ((a1.length:Int)<=a2))|Ex.ret r16=>some r16)
theorem tl{a1:List (List (Int×Int×Int))}{a2:Int}{r17:Bool}(h:kV a1 a2=some r17):aS PP 104 [] [ag (ak.slice (ak.prod (ak.int .i64) (ak.prod (ak.int .i64) (ak.int .u8)))) a1,D.int .i64 a2] [] (D.bool r17):=by
 unfold kV at h
 refine .of Go.Proofs.Tryz.func104 rfl (by kernel_rfl) rfl rfl rfl rfl rfl rfl (fun A w0 L b=>?_)
 show Ok PP _ [(0,ag (ak.slice (ak.prod (ak.int .i64) (ak.prod (ak.int .i64) (ak.int .u8)))) a1),(1,D.int .i64 a2)] [] _ _
 refine .al (.aq rfl<|.nil) rfl ?_
 obtain⟨o3,hp4,h⟩:=bind_some h
 refine .cd (fun i=>o3=Ex.da i) (fun(i:Unit)=>[(0,ag (ak.slice (ak.prod (ak.int .i64) (ak.prod (ak.int .i64) (ak.int .u8)))) a1),(1,D.int .i64 a2)]) (fun(i:Unit)=>[]) ?_ ?_
 ·have ho1:=h
  clear h
  have h:=hp4
  clear hp4
  refine .al (.aq rfl<|.nil) rfl ?_
  obtain⟨o6,hl7,h⟩:=bind_some h
  have ho2:=h
  clear h
  refine .block (.b8 (fun(s:Int)=>[(0,ag (ak.slice (ak.prod (ak.int .i64) (ak.prod (ak.int .i64) (ak.int .u8)))) a1),(1,D.int .i64 a2),(5,D.int .i64 s)]) (fun(s:Int)=>[]) hl7 (.of rfl) trivial rfl rfl ?_)
  rintro v5 st8 hb9
  have h:iN a1 a2 v5=some st8:=hb9
  clear hb9
  unfold iN at h
  try dsimp only
  refine .sq ?_
  by_cases c10:(decide (v5<(a1.length:Int)))=true
  ·replace h:=aa c10 h
   refine .al (.mv rfl<|.mv rfl<|.ep rfl eU<|.cm rfl rfl rfl<|.mv rfl<|.aV rfl rfl rfl c10<|.mv rfl<|.aV rfl rfl rfl c10<|.mv rfl<|.aV rfl rfl rfl c10<|.cm rfl rfl rfl<|.bn rfl c10 rfl<|.nil) rfl ?_
   by_cases c11:(decide (v5<=a2))=true
   ·replace h:=aa c11 h
    refine .cj rfl c11 ?_
    refine .skip (Ok.on ?_)
    refine .sq ?_
    refine .block ?_
    obtain⟨v12,e13,h⟩:=bind_some h
    refine .al (.mv rfl<|.mv rfl<|.ko rfl rfl jG (af e13).1 (af e13).2<|.gC rfl kc<|.ep rfl gQ<|.mv rfl<|.cm rfl rfl rfl<|.nil) rfl ?_
    by_cases c14:(decide ((v12.length:Int)>a2))=true
    ·replace h:=aa c14 h
     refine .cj rfl c14 ?_
     refine .al (.aq rfl<|.nil) rfl ?_
     refine .aH (Hi:=[]) (Ho:=[]) (b:=b) (fn:=Go.Proofs.Tryz.f104) (d:=D.bool false) (fun _ _ hb=>by exact⟨_,(Option.some.inj h).symm,fun e=>by subst e;have h:=ho2;cases h;have h:=ho1;cases h;exact hb⟩) rfl (.cons (.tmp rfl) .nil) (.refl _) trivial trivial
    ·replace h:=ab c14 h
     refine .ck rfl c14 ?_
     refine .skip (Ok.on ?_)
     refine .region (.mv rfl<|.ar rfl rfl rfl<|.aq rfl<|.nil) rfl (fun _ _ hs=>⟨(IntKind.i64.wrap (v5+1)),(Option.some.inj h).symm,hs.sub (.of rfl) trivial rfl rfl⟩)
   ·replace h:=ab c11 h
    refine .ck rfl c11 ?_
    refine .exit (fun a w hs=>⟨_,(Option.some.inj h).symm,fun e=>by subst e;have h:=ho2;exact aZ (⟨(),(Option.some.inj h).symm,hs.sub (.of rfl) trivial rfl rfl⟩)⟩)
  ·replace h:=ab c10 h
   refine .al (.mv rfl<|.mv rfl<|.ep rfl eU<|.cm rfl rfl rfl<|.mv rfl<|.aT rfl rfl rfl c10<|.aT rfl rfl rfl c10<|.aT rfl rfl rfl c10<|.bm rfl c10 rfl<|.nil) rfl ?_
   refine .ck rfl (by decide) ?_
   refine .exit (fun a w hs=>⟨_,(Option.some.inj h).symm,fun e=>by subst e;have h:=ho2;exact aZ (⟨(),(Option.some.inj h).symm,hs.sub (.of rfl) trivial rfl rfl⟩)⟩)
 ·rintro⟨⟩ rfl
  try dsimp only
  refine .al (.mv rfl<|.ep rfl eU<|.mv rfl<|.cm rfl rfl rfl<|.aq rfl<|.nil) rfl ?_
  cases h
  refine .aH (fun _ _ hb=>hb) rfl (.cons (.tmp rfl) .nil) (.refl _) trivial trivial
def gW(a1:List (List (Int×Int×Int)))(v4:Int)(v5:List (List Rat))(v6:List (List Rat)):Option (St (Int×(List (List Rat))×(List (List Rat))) ((List (List Rat))×(List (List Rat)))):=(if(decide (v4<(a1.length:Int)))=true then(ix a1 v4).bind fun v12=>(kM v12).bind fun(v14,v15)=>bZ ((v5.length+([v14]).length)*24<=140737488355328/\v5.length+([v14]).length<=9223372036854775807) (bZ ((v6.length+([v15]).length)*24<=140737488355328/\v6.length+([v15]).length<=9223372036854775807) (some (St.next ((IntKind.i64.wrap (v4+1)),(v5++[v14]),(v6++[v15])))))else some (St.done (v5,v6)))
def om(a1:List (List (Int×Int×Int))):Option ((List (List Rat))×(List (List Rat))):=((Loop (fun(s:Int×(List (List Rat))×(List (List Rat)))=>gW a1 s.1 s.2.1 s.2.2) (0,[],[])).bind fun(v19,v20)=>some ((v19,v20))).bind fun(v21,v22)=>some (v21,v22)
theorem Dv{a1:List (List (Int×Int×Int))}{r23:List (List Rat)}{r24:List (List Rat)}(h:om a1=some (r23,r24)):aS PP 105 [] [ag (ak.slice (ak.prod (ak.int .i64) (ak.prod (ak.int .i64) (ak.int .u8)))) a1] [] (D.iC [ag (ak.slice ak.rat) r23,ag (ak.slice ak.rq) r24]):=by
 unfold om at h
 refine .of Go.Proofs.Tryz.func105 rfl (by kernel_rfl) rfl rfl rfl rfl rfl rfl (fun A w0 L b=>?_)
 show Ok PP _ [(0,ag (ak.slice (ak.prod (ak.int .i64) (ak.prod (ak.int .i64) (ak.int .u8)))) a1)] [] _ _
 refine .al (.aq rfl<|.aq rfl<|.nil) rfl ?_
 refine .al (.aq rfl<|.nil) rfl ?_
 refine .al (.aq rfl<|.nil) rfl ?_
 obtain⟨o2,hp3,h⟩:=bind_some h
 refine .cd (fun i=>o2=i) (fun(i:(List (List Rat))×(List (List Rat)))=>[(4,D.own 2000004),(5,D.own 2000005)]) (fun(i:(List (List Rat))×(List (List Rat)))=>[(2000004,a_ (ak.slice ak.rat) 68 i.1),(2000005,a_ (ak.slice ak.rq) 69 i.2)]) ?_ ?_
 ·have ho1:=h
  clear h
  have h:=hp3
  clear hp3
  refine .al (.aq rfl<|.nil) rfl ?_
  refine .jJ (ak.slice ak.rat) 4 2000004 68 rfl rfl ?_
  refine .jJ (ak.slice ak.rq) 5 2000005 69 rfl rfl ?_
  obtain⟨o7,hl8,h⟩:=bind_some h
  have ho2:=h
  clear h
  refine .block (.b8 (fun(s:Int×(List (List Rat))×(List (List Rat)))=>[(0,ag (ak.slice (ak.prod (ak.int .i64) (ak.prod (ak.int .i64) (ak.int .u8)))) a1),(4,D.own 2000004),(5,D.own 2000005),(6,D.int .i64 s.1)]) (fun(s:Int×(List (List Rat))×(List (List Rat)))=>[(2000004,a_ (ak.slice ak.rat) 68 s.2.1),(2000005,a_ (ak.slice ak.rq) 69 s.2.2)]) hl8 (.of rfl) (.of rfl) rfl rfl ?_)
  rintro⟨v4,v5,v6⟩ st9 hb10
  have h:gW a1 v4 v5 v6=some st9:=hb10
  clear hb10
  unfold gW at h
  try dsimp only
  refine .sq ?_
  refine .al (.mv rfl<|.mv rfl<|.ep rfl eU<|.cm rfl rfl rfl<|.nil) rfl ?_
  by_cases c11:(decide (v4<(a1.length:Int)))=true
  ·replace h:=aa c11 h
   refine .cj rfl c11 ?_
   refine .skip (Ok.on ?_)
   refine .sq ?_
   refine .block ?_
   obtain⟨v12,e13,h⟩:=bind_some h
   obtain⟨⟨v14,v15⟩,e16,h⟩:=bind_some h
   refine .al (.mv rfl<|.mv rfl<|.ko rfl rfl jG (af e13).1 (af e13).2<|.gC rfl kc<|.ah (u9 e16) ⟨rfl,trivial⟩ trivial trivial<|.mv rfl<|.ext rfl rfl<|.ext rfl rfl<|.aq rfl<|.aq rfl<|.nil) rfl ?_
   refine .sl 4 rfl rfl rfl ?_
   obtain⟨k17,h⟩:=aw h
   refine .al (.mv rfl<|.mv rfl<|.zP (e:=(ak.slice ak.rat)) [v14] [(0,_,ag ak.rat v14,[ag ak.rat v14])] eO rfl rfl rfl ⟨rfl,rfl,.one rfl,rfl,trivial⟩ ⟨rfl,trivial⟩ rfl rfl<|.yU (ys:=[v14]) rfl .sl rfl (.refl _) rfl eO rfl k17.1 k17.2 rfl<|.aq rfl<|.nil) rfl ?_
   refine .sl 5 rfl rfl rfl ?_
   obtain⟨k18,h⟩:=aw h
   refine .region (.mv rfl<|.mv rfl<|.zP (e:=(ak.slice ak.rq)) [v15] [(0,_,ag ak.rq v15,[ag ak.rq v15])] cK rfl rfl rfl ⟨rfl,rfl,.one rfl,rfl,trivial⟩ ⟨rfl,trivial⟩ rfl rfl<|.yU (ys:=[v15]) rfl .sl rfl (.refl _) rfl cK rfl k18.1 k18.2 rfl<|.aq rfl<|.nil) rfl (Ok.on ?_)
   refine .region (.mv rfl<|.ar rfl rfl rfl<|.aq rfl<|.nil) rfl (fun _ _ hs=>⟨((IntKind.i64.wrap (v4+1)),(v5++[v14]),(v6++[v15])),(Option.some.inj h).symm,hs.nE (fun r=>match r with|2000004=>26|2000005=>30|r=>r) ⟨⟨_,rfl,.refl rfl⟩,⟨_,rfl,.own (r:=2000004)⟩,⟨_,rfl,.own (r:=2000005)⟩,⟨_,rfl,.refl rfl⟩,trivial⟩ ⟨⟨_,rfl,.refl rfl⟩,⟨_,rfl,.refl rfl⟩,trivial⟩ rfl rfl rfl⟩)
  ·replace h:=ab c11 h
   refine .ck rfl c11 ?_
   refine .exit (fun a w hs=>⟨_,(Option.some.inj h).symm,fun e=>by subst e;have h:=ho2;exact aZ (⟨(v5,v6),(Option.some.inj h).symm,hs.sub (.of rfl) (.of rfl) rfl rfl⟩)⟩)
 ·rintro⟨v21,v22⟩ rfl
  try dsimp only
  refine .sl 4 rfl rfl rfl ?_
  refine .sl 5 rfl rfl rfl ?_
  refine .al (.mv rfl<|.mv rfl<|.aq rfl<|.aq rfl<|.nil) rfl ?_
  refine .rJ 2 (.own 2000004) rfl .sl ?_
  refine .kJ 2 rfl rfl rfl ?_
  refine .rJ 3 (.own 2000005) rfl .sl ?_
  refine .kJ 3 rfl rfl rfl ?_
  cases h
  refine .aH (fun _ _ hb=>hb) rfl (.cons (.tmp rfl) (.cons (.tmp rfl) .nil)) (.refl _) trivial trivial
def eK(a1:List (List Rat))(a2:List (List Rat))(v6:Int):Option (St Int (Ex Unit Bool)):=(if(decide (v6<(a1.length:Int)))=true then(ix a1 v6).bind fun v12=>(ix a2 v6).bind fun v14=>(jV v12 v14).bind fun v16=>(if(!v16)=true then some (St.done (Ex.ret false))else some (St.next (IntKind.i64.wrap (v6+1))))else some (St.done (Ex.da ())))
def fw(a1:List (List Rat))(a2:List (List Rat)):Option Bool:=(if((a1.length:Int) !=(a2.length:Int))=true then some false else((Loop (fun(s:Int)=>eK a1 a2 s) 0).bind fun o7=>(match o7 with|Ex.da ()=>some (Ex.da ())|Ex.ret r19=>some (Ex.ret r19))).bind fun o4=>(match o4 with|Ex.da ()=>some true|Ex.ret r20=>some r20))
theorem gr{a1:List (List Rat)}{a2:List (List Rat)}{r21:Bool}(h:fw a1 a2=some r21):aS PP 110 [] [ag (ak.slice ak.rat) a1,ag (ak.slice ak.rq) a2] [] (D.bool r21):=by
 unfold fw at h
 refine .of Go.Proofs.Tryz.func110 rfl (by kernel_rfl) rfl rfl rfl rfl rfl rfl (fun A w0 L b=>?_)
 show Ok PP _ [(0,ag (ak.slice ak.rat) a1),(1,ag (ak.slice ak.rq) a2)] [] _ _
 refine .al (.aq rfl<|.nil) rfl ?_
 refine .sq ?_
 refine .al (.mv rfl<|.ep rfl bN<|.mv rfl<|.ep rfl b9<|.cm rfl rfl rfl<|.nil) rfl ?_
 by_cases c3:((a1.length:Int) !=(a2.length:Int))=true
 ·replace h:=aa c3 h
  refine .cj rfl c3 ?_
  refine .al (.aq rfl<|.nil) rfl ?_
  cases h
  refine .aH (fun _ _ hb=>hb) rfl (.cons (.tmp rfl) .nil) (.refl _) trivial trivial
 ·replace h:=ab c3 h
  refine .ck rfl c3 ?_
  refine .skip (Ok.on ?_)
  obtain⟨o4,hp5,h⟩:=bind_some h
  refine .cd (fun i=>o4=Ex.da i) (fun(i:Unit)=>[]) (fun(i:Unit)=>[]) ?_ ?_
  ·have ho1:=h
   clear h
   have h:=hp5
   clear hp5
   refine .al (.aq rfl<|.nil) rfl ?_
   obtain⟨o7,hl8,h⟩:=bind_some h
   have ho2:=h
   clear h
   refine .block (.b8 (fun(s:Int)=>[(0,ag (ak.slice ak.rat) a1),(1,ag (ak.slice ak.rq) a2),(5,D.int .i64 s)]) (fun(s:Int)=>[]) hl8 (.of rfl) trivial rfl rfl ?_)
   rintro v6 st9 hb10
   have h:eK a1 a2 v6=some st9:=hb10
   clear hb10
   unfold eK at h
   try dsimp only
   refine .sq ?_
   refine .al (.mv rfl<|.mv rfl<|.ep rfl bN<|.cm rfl rfl rfl<|.nil) rfl ?_
   by_cases c11:(decide (v6<(a1.length:Int)))=true
   ·replace h:=aa c11 h
    refine .cj rfl c11 ?_
    refine .skip (Ok.on ?_)
    refine .sq ?_
    refine .block ?_
    obtain⟨v12,e13,h⟩:=bind_some h
    obtain⟨v14,e15,h⟩:=bind_some h
    obtain⟨v16,e17,h⟩:=bind_some h
    refine .dc cg (.mv rfl<|.mv rfl<|.ko rfl rfl bL (af e13).1 (af e13).2<|.gC rfl bT<|.mv rfl<|.mv rfl<|.ko rfl rfl aY (af e15).1 (af e15).2<|.gC rfl bb<|.ah (mY e17) ⟨rfl,rfl,trivial⟩ trivial trivial<|.not rfl<|.nil) rfl (by kernel_rfl) ?_
    by_cases c18:(!v16)=true
    ·replace h:=aa c18 h
     refine .cj rfl c18 ?_
     refine .al (.aq rfl<|.nil) rfl ?_
     refine .aH (Hi:=[]) (Ho:=[]) (b:=b) (fn:=Go.Proofs.Tryz.f110) (d:=D.bool false) (fun _ _ hb=>by exact⟨_,(Option.some.inj h).symm,fun e=>by subst e;have h:=ho2;cases h;have h:=ho1;cases h;exact hb⟩) rfl (.cons (.tmp rfl) .nil) (.refl _) trivial trivial
    ·replace h:=ab c18 h
     refine .ck rfl c18 ?_
     refine .skip (Ok.on ?_)
     refine .region (.mv rfl<|.ar rfl rfl rfl<|.aq rfl<|.nil) rfl (fun _ _ hs=>⟨(IntKind.i64.wrap (v6+1)),(Option.some.inj h).symm,hs.sub (.of rfl) trivial rfl rfl⟩)
   ·replace h:=ab c11 h
    refine .ck rfl c11 ?_
    refine .exit (fun a w hs=>⟨_,(Option.some.inj h).symm,fun e=>by subst e;have h:=ho2;exact aZ (⟨(),(Option.some.inj h).symm,hs.sub trivial trivial rfl rfl⟩)⟩)
  ·rintro⟨⟩ rfl
   try dsimp only
   refine .al (.aq rfl<|.nil) rfl ?_
   cases h
   refine .aH (fun _ _ hb=>hb) rfl (.cons (.tmp rfl) .nil) (.refl _) trivial trivial
end
end Go.Am
namespace Go.Am
theorem lk{σ ρ:Type}{body:Int×σ->Option (St (Int×σ) ρ)}(n:Nat)(F:Nat->σ)(r:ρ)(hb:∀i,i<n->body ((i:Int),F i)=some (.next (((i+1:Nat):Int),F (i+1))))(he:body ((n:Int),F n)=some (.done r)):Loop body ((0:Int),F 0)=some r:=by
 obtain⟨r',hr,rfl⟩:=bI (body:=body) ((0:Int),F 0) (fun s=>∃i:Nat,i<=n/\s=((i:Int),F i)) (fun s=>(n-s.1).toNat) (fun r'=>r'=r) ⟨0,Nat.zero_le _,rfl⟩ (by
  rintro s ⟨i,hi,rfl⟩
  by_cases hlt:i<n
  ·left
   exact⟨_,hb i hlt,⟨i+1,hlt,rfl⟩,by simp only;omega⟩
  ·right
   have:i=n:=by omega
   subst this
   exact⟨_,he,rfl⟩)
 exact hr
theorem rF{ρ:Type}{body:Int->Option (St Int ρ)}(n:Nat)(r:ρ)(hb:∀i:Nat,i<n->body (i:Int)=some (.next ((i+1:Nat):Int)))(he:body (n:Int)=some (.done r)):Loop body (0:Int)=some r:=by
 obtain⟨r',hr,rfl⟩:=bI (body:=body) (0:Int) (fun s=>∃i:Nat,i<=n/\s=(i:Int)) (fun s=>(n-s).toNat) (fun r'=>r'=r) ⟨0,Nat.zero_le _,rfl⟩ (by
  rintro s ⟨i,hi,rfl⟩
  by_cases hlt:i<n
  ·left
   exact⟨_,hb i hlt,⟨i+1,hlt,rfl⟩,by omega⟩
  ·right
   have:i=n:=by omega
   subst this
   exact⟨_,he,rfl⟩)
 exact hr
def bh(n m:Nat)(f:Nat->Nat->Rat):List (List Rat):=(List.range n).map fun k=>(List.range m).map (f k)
theorem cn{n m:Nat}{f:Nat->Nat->Rat}:(bh n m f).length=n:=by simp[bh]
theorem fx{n m:Nat}{f:Nat->Nat->Rat}{k:Nat}(h:k<n):ix (bh n m f) (k:Int)=some ((List.range m).map (f k)):=by
 rw[et (by rw[cn];exact h)]
 simp[bh]
theorem jD{m:Nat}{g:Nat->Rat}{j:Nat}(h:j<m):ix ((List.range m).map g) (j:Int)=some (g j):=by
 rw[et (by simpa using h)]
 simp
theorem dY{n m:Nat}{f g:Nat->Nat->Rat}(h:∀k j,k<n->j<m->f k j=g k j):bh n m f=bh n m g:=by
 unfold bh
 apply List.map_congr_left
 intro k hk
 apply List.map_congr_left
 intro j hj
 exact h k j (by simpa using hk) (by simpa using hj)
theorem wg{n m:Nat}{f:Nat->Nat->Rat}{k j:Nat}{v:Rat}:(bh n m f).set ((k:Int).toNat) (((List.range m).map (f k)).set ((j:Int).toNat) v)=bh n m (fun k' j'=>if k'=k/\j'=j then v else f k' j'):=by
 rw[Int.toNat_natCast,Int.toNat_natCast]
 apply List.ext_getElem
 ·simp[bh]
 ·intro a h1 h2
  rw[List.length_set,cn]at h1
  by_cases ha:a=k
  ·subst ha
   rw[List.getElem_set_self]
   simp only[bh,List.getElem_map,List.getElem_range]
   apply List.ext_getElem
   ·simp
   ·intro b h3 h4
    by_cases hb:b=j
    ·subst hb
     rw[List.getElem_set_self];simp
    ·rw[List.getElem_set_ne (Ne.symm hb)];simp[hb]
  ·rw[List.getElem_set_ne (Ne.symm ha)]
   simp only[bh,List.getElem_map,List.getElem_range]
   apply List.map_congr_left
   intro b _
   simp[ha]
def cc(M:List (List Rat)):Nat:=(M.getD 0 []).length
def right(M:List (List Rat)):Bool:=M.all fun r=>r.length==cc M
def Ej(M:List (List Rat))(i j:Nat):Rat:=(M.getD i []).getD j 0
def bd(M:List (List Rat))(b:Nat):Prop:=∀r∈M,∀x∈r,sz x<=b
theorem ia{M:List (List Rat)}(h:right M=true){i:Nat}(hi:i<M.length):(M[i]).length=cc M:=by
 unfold right at h
 rw[List.all_eq_true]at h
 simpa using h M[i] (List.getElem_mem hi)
theorem A1{M:List (List Rat)}{b:Nat}(h:bd M b)(hb:1<=b)(i j:Nat):sz (Ej M i j)<=b:=by
 unfold Ej
 by_cases hi:i<M.length
 ·rw[jO hi]
  by_cases hj:j<(M[i]).length
  ·rw[jO hj]
   exact h _ (List.getElem_mem hi) _ (List.getElem_mem hj)
  ·rw[kA (by omega)]
   exact Nat.le_trans (by decide) hb
 ·have e:M.getD i []=[]:=kA (by omega)
  rw[e]
  exact Nat.le_trans (show sz (([]:List Rat).getD j 0)<=1 by rw[kA (by simp)];decide) hb
theorem uY{M:List (List Rat)}(h:0<M.length):cc M=(M[0]).length:=by unfold cc;rw[jO h]
theorem ti{M:List (List Rat)}{i:Nat}(hi:i<M.length)(h:(M[i]).length≠cc M):right M=false:=by
 cases hq:right M with
 |false=>rfl
 |true=>exact absurd (ia hq hi) h
theorem rh{M:List (List Rat)}(h:∀i (hi:i<M.length),(M[i]).length=cc M):right M=true:=by
 unfold right
 rw[List.all_eq_true]
 intro r hr
 obtain⟨i,hi,rfl⟩:=List.getElem_of_mem hr
 simpa using h i hi
theorem kZ(M:List (List Rat))(hM:M.length<=30):iU M=some (if right M then((cc M:Int),true)else(0,false)):=by
 obtain⟨r,hr,hp⟩:=bI (body:=fun(s:Int×Int)=>iH M s.1 s.2) (0,0) (fun s=>∃i:Nat,i<=M.length/\s=((if i=0 then 0 else(cc M:Int)),(i:Int))/\∀k (hk:k<M.length),k<i->(M[k]).length=cc M) (fun s=>(M.length-s.2).toNat)
  (fun r=>(right M=false/\r=Ex.ret (0,false))\/(right M=true/\r=Ex.da (cc M:Int))) ⟨0,Nat.zero_le _,rfl,fun k _ hk=>by omega⟩ (by
  rintro s ⟨i,hi,rfl,hall⟩
  simp only
  unfold iH
  by_cases hlt:i<M.length
  ·rw[if_pos (decide_eq_true (by omega)),et hlt]
   have hc:=uY (M:=M) (by omega)
   have e:(if((i:Int)==0)=true then(some M[i]).bind fun v14=>some ((v14.length:Int))else some (if i=0 then 0 else(cc M:Int)))=some (cc M:Int):=by
    by_cases h0:i=0
    ·subst h0;simp[hc]
    ·rw[if_neg (by simpa using h0),if_neg h0]
   rw[e]
   simp only[Option.bind_some]
   by_cases hq:(M[i]).length=cc M
   ·left
    rw[hq,if_neg (by simp)]
    refine⟨_,rfl,⟨i+1,hlt,?_,fun k hk hki=>?_⟩,by simp only;rw[dL hlt (by omega)];omega⟩
    ·rw[dL hlt (by omega)];simp
    ·by_cases e:k=i
     ·subst e;exact hq
     ·exact hall k hk (by omega)
   ·right
    rw[if_pos (by simp;omega)]
    exact⟨_,rfl,.inl ⟨ti hlt hq,rfl⟩⟩
  ·right
   rw[if_neg (by simp;omega)]
   have hil:i=M.length:=by omega
   refine⟨_,rfl,.inr ⟨rh (fun k hk=>hall k hk (by omega)),?_⟩⟩
   by_cases h0:i=0
   ·rw[if_pos h0]
    have:cc M=0:=by unfold cc;rw[kA (by omega)];rfl
    rw[this];rfl
   ·rw[if_neg h0])
 unfold iU
 rw[hr]
 rcases hp with⟨h1,rfl⟩|⟨h1,rfl⟩<;>rw[h1]<;>rfl
theorem mN(M:List (List Rat))(hM:M.length<=30):gT M=some ((M.length:Int),(cc M:Int),right M):=by
 unfold gT
 by_cases h0:M=[]
 ·subst h0;rfl
 have hl:0<M.length:=List.length_pos_iff.2 h0
 rw[if_neg (by simpa using h0)]
 have e0:ix M 0=some M[0]:=et (n:=0) hl
 rw[e0]
 simp only[Option.bind_some]
 obtain⟨r,hr,hp⟩:=bI (body:=fun(s:Int)=>dK M ((M[0]).length:Int) s) 0 (fun s=>∃i:Nat,i<=M.length/\s=(i:Int)/\∀k (hk:k<M.length),k<i->(M[k]).length=cc M) (fun s=>(M.length-s).toNat)
  (fun r=>(right M=false/\∃j:Int,0<=j/\r=Ex.ret j)\/(right M=true/\r=Ex.da ())) ⟨0,Nat.zero_le _,rfl,fun k _ hk=>by omega⟩ (by
  rintro s ⟨i,hi,rfl,hall⟩
  unfold dK jR
  by_cases hlt:i<M.length
  ·rw[if_pos (decide_eq_true (by omega)),et hlt,←uY hl]
   simp only[Option.bind_some]
   by_cases hq:(M[i]).length=cc M
   ·left
    rw[hq,if_neg (by simp)]
    refine⟨_,rfl,⟨i+1,hlt,dL hlt (by omega),fun k hk hki=>?_⟩,by rw[dL hlt (by omega)];omega⟩
    by_cases e:k=i
    ·subst e;exact hq
    ·exact hall k hk (by omega)
   ·right
    rw[if_pos (by simp;omega)]
    exact⟨_,rfl,.inl ⟨ti hlt hq,_,by omega,rfl⟩⟩
  ·right
   rw[if_neg (by simp;omega)]
   exact⟨_,rfl,.inr ⟨rh (fun k hk=>hall k hk (by omega)),rfl⟩⟩)
 unfold eW gl
 rw[hr,←uY hl]
 rcases hp with⟨h1,j,hj,rfl⟩|⟨h1,rfl⟩
 ·rw[h1]
  have:decide (j>=0)=true:=decide_eq_true hj
  simp only[Option.bind_some,this]
  rfl
 ·rw[h1];rfl
end Go.Am
namespace Go.Am
theorem tu{k m:Nat}{f:Nat->Nat->Rat}:bh (k+1) m f=bh k m f++[(List.range m).map (f k)]:=by
 unfold bh
 rw[List.range_succ,List.map_append];rfl
theorem A0{m:Nat}{g:Nat->Rat}:(List.range (m+1)).map g=(List.range m).map g++[g m]:=by
 rw[List.range_succ,List.map_append];rfl
theorem yD{r:List Rat}:r=(List.range r.length).map fun j=>r.getD j 0:=by
 apply List.ext_getElem
 ·simp
 ·intro j h1 h2
  simp[List.getD,h1]
theorem CV{M:List (List Rat)}(h:right M=true):M=bh M.length (cc M) (Ej M):=by
 apply List.ext_getElem
 ·rw[cn]
 ·intro i h1 h2
  simp only[bh,List.getElem_map,List.getElem_range]
  rw[←ia h h1]
  conv=>lhs;rw[yD (r:=M[i])]
  apply List.map_congr_left
  intro j _
  unfold Ej
  rw[jO h1]
variable {M:List (List Rat)}
end Go.Am
namespace Go.Am
open Go.RowKit
set_option maxRecDepth 100000
noncomputable section
end
end Go.Am
namespace Go.Am
variable {M N:List (List Rat)}
theorem Dg{n m b:Nat}{f:Nat->Nat->Rat}(h:∀k j,sz (f k j)<=b):bd (bh n m f) b:=by
 intro r hr x hx
 unfold bh at hr
 obtain⟨k,_,rfl⟩:=List.mem_map.1 hr
 obtain⟨j,_,rfl⟩:=List.mem_map.1 hx
 exact h k j
def small(x:List (List (Int×Int×Int)))(n:Nat):Bool:=decide (x.length<=n)&&x.all fun r=>decide (r.length<=n)
theorem qS{x:List (List (Int×Int×Int))}{n:Nat}(h:small x n=true):x.length<=n/\∀r∈x,r.length<=n:=by
 unfold small at h
 rw[Bool.and_eq_true,List.all_eq_true]at h
 exact⟨by simpa using h.1,fun r hr=>by simpa using h.2 r hr⟩
theorem zU(x:List (List (Int×Int×Int)))(n:Nat)(hn:n<=30):kV x (n:Int)=some (small x n):=by
 obtain⟨r,hr,hp⟩:=bI (body:=fun(s:Int)=>iN x (n:Int) s) 0 (fun s=>∃i:Nat,i<=x.length/\i<=n+1/\s=(i:Int)/\∀k (hk:k<x.length),k<i->(x[k]).length<=n) (fun s=>(x.length-s).toNat)
  (fun r=>(small x n=false/\r=Ex.ret false)\/((small x n=true\/n<x.length)/\r=Ex.da ())) ⟨0,Nat.zero_le _,Nat.zero_le _,rfl,fun k _ hk=>by omega⟩ (by
  rintro s ⟨i,hi,dt,rfl,hall⟩
  unfold iN
  by_cases hlt:i<x.length
  ·rw[if_pos (decide_eq_true (by omega))]
   by_cases hn2:i<=n
   ·rw[if_pos (decide_eq_true (by omega)),et hlt]
    simp only[Option.bind_some]
    by_cases hq:(x[i]).length>n
    ·right
     rw[if_pos (decide_eq_true (by omega))]
     refine⟨_,rfl,.inl ⟨?_,rfl⟩⟩
     cases hs:small x n with
     |false=>rfl
     |true=>have:=(qS hs).2 x[i] (List.getElem_mem hlt);omega
    ·left
     rw[if_neg (by rw[decide_eq_true_eq];omega)]
     have hw:IntKind.i64.wrap ((i:Int)+1)=((i+1:Nat):Int):=by rw[i64_in (by omega)];omega
     rw[hw]
     refine⟨_,rfl,⟨i+1,hlt,by omega,rfl,fun k hk hki=>?_⟩,by omega⟩
     by_cases e:k=i
     ·subst e;omega
     ·exact hall k hk (by omega)
   ·right
    rw[if_neg (by rw[decide_eq_true_eq];omega)]
    exact⟨_,rfl,.inr ⟨.inr (by omega),rfl⟩⟩
  ·right
   rw[if_neg (by rw[decide_eq_true_eq];omega)]
   refine⟨_,rfl,.inr ⟨?_,rfl⟩⟩
   by_cases hxn:n<x.length
   ·exact .inr hxn
   ·left
    unfold small
    rw[Bool.and_eq_true,List.all_eq_true]
    refine⟨decide_eq_true (by omega),fun r hr=>?_⟩
    obtain⟨k,hk,rfl⟩:=List.getElem_of_mem hr
    exact decide_eq_true (hall k hk (by omega)))
 unfold kV
 rw[hr]
 rcases hp with⟨h1,rfl⟩|⟨h1,rfl⟩
 ·rw[h1];rfl
 ·rcases h1 with h1|h1
  ·have:=(qS h1).1
   simp only[Option.bind_some,h1]
   rw[decide_eq_true (by omega)]
  ·have h2:small x n=false:=by
    unfold small
    rw[decide_eq_false (by omega),Bool.false_and]
   simp only[Option.bind_some,h2]
   rw[decide_eq_false (by omega)]
def yc(x:List (List (Int×Int×Int))):Prop:=∀r∈x,∀e∈r,oJ e
theorem E3(x:List (List (Int×Int×Int)))(h:yc x)(hl:x.length<=30)(hr:∀r∈x,r.length<=30):om x=some (x.map cO,x.map cO):=by
 have hL:=lk (body:=fun(s:Int×(List (List Rat))×(List (List Rat)))=>gW x s.1 s.2.1 s.2.2) x.length (fun i=>((x.map cO).take i,(x.map cO).take i)) (x.map cO,x.map cO) (fun i hi=>by
   unfold gW
   rw[if_pos (decide_eq_true (by omega)),et hi]
   simp only[Option.bind_some]
   rw[xX _ (h _ (List.getElem_mem hi)) (hr _ (List.getElem_mem hi))]
   simp only[Option.bind_some]
   have ht:((x.map cO).take i).length=i:=by simp;omega
   rw[aQ (by rw[ht];simp only[List.length_singleton];omega),aQ (by rw[ht];simp only[List.length_singleton];omega),dL hi (by omega)]
   have e:(x.map cO).take (i+1)=(x.map cO).take i++[cO x[i]]:=by
    rw[List.take_succ_eq_append_getElem (by simpa using hi)];simp
   rw[e]) (by
   unfold gW
   rw[if_neg (by simp)]
   have e:(x.map cO).take x.length=x.map cO:=by rw[List.take_of_length_le];simp
   rw[e])
 unfold om
 have:Loop (fun(s:Int×(List (List Rat))×(List (List Rat)))=>gW x s.1 s.2.1 s.2.2) (0,[],[])=some (x.map cO,x.map cO):=hL
 rw[this];rfl
theorem Ao{x:List (List (Int×Int×Int))}(h:yc x):bd (x.map cO) 256:=by
 intro r hr q hq
 obtain⟨r',hr',rfl⟩:=List.mem_map.1 hr
 obtain⟨j,hj,rfl⟩:=List.getElem_of_mem hq
 have:=vo (h r' hr') j
 rwa [jO hj]at this
theorem uT(l:List Rat)(hl:l.length<=30)(h:∀q∈l,sz q<=400000000000):jV l l=some true:=by
 unfold jV
 rw[if_neg (by simp)]
 have hL:=rF (body:=fun(s:Int)=>gu l l s) l.length (Ex.da ()) (fun i hi=>by
  unfold gu
  rw[if_pos (decide_eq_true (by omega)),et hi]
  simp only[Option.bind_some]
  rw[ze (h _ (List.getElem_mem hi))]
  simp only[Option.bind_some,Bool.not_true,Bool.false_eq_true,if_false]
  rw[dL hi (by omega)]) (by
  unfold gu
  rw[if_neg (by simp)])
 rw[hL];rfl
theorem mC(M:List (List Rat))(hl:M.length<=30)(hr:∀r∈M,r.length<=30)(h:bd M 400000000000):fw M M=some true:=by
 unfold fw
 rw[if_neg (by simp)]
 have hL:=rF (body:=fun(s:Int)=>eK M M s) M.length (Ex.da ()) (fun i hi=>by
  unfold eK
  rw[if_pos (decide_eq_true (by omega)),et hi]
  simp only[Option.bind_some]
  rw[uT _ (hr _ (List.getElem_mem hi)) (h _ (List.getElem_mem hi))]
  simp only[Option.bind_some,Bool.not_true,Bool.false_eq_true,if_false]
  rw[dL hi (by omega)]) (by
  unfold eK
  rw[if_neg (by simp)])
 rw[hL];rfl
theorem tA{n m:Nat}{f:Nat->Nat->Rat}{r:List Rat}(h:r∈bh n m f):r.length=m:=by
 unfold bh at h
 obtain⟨k,_,rfl⟩:=List.mem_map.1 h
 simp
end Go.Am
namespace Go.Am
open Go.RowKit
section
variable {P:Program} {os:List Oper} {c:Ctx} {T T':List (Nat×D)} {H H':List (Nat×Hp)} {sps:List Spec}
variable {ops:Array Oper} {dst:Option Nat} {ty:TypeId} {pos:String} {aft:Array Edge}
variable {α:Type} {e:ak α} {te tr:TypeId} {r s:Nat} {M X:List (List α)}
theorem an.sk{t:TypeId}{x y:Operand}{m:Nat}{k:IntKind}{z:Int}(hx:ev T x=some (.own r))(hy:ev T y=some (.int k z))(hh:ai H r=some (.cl e te s []))(hk:ai H s=some (.store e tr M))(ht:sle P t=some m)(h0:0<=z)(h1:z<M.length)
  (hr:an P ops c os (br T dst (.ref r (z.toNat*m))) H sps T' H'):
  an P ops c (⟨dst,.indexAddr t x y,ty,pos,aft,none⟩::os) T H (DH [(x,.own r),(y,.int k z)] r (.cl e te s []) s (.store e tr M) (.ref r (z.toNat*m))::sps) T' H':=
 .E9 rfl (two hx hy) hh hk (fun r' hr'=>.inl (by simpa [D.ref]using hr')) (fun ε w S a F F' ha h1' h2'=>by
  have h2:a.eval x=ε r:=(ha (x,.own r) (by simp)).1
  have h3:a.eval y=.int k z:=ha (y,.int k z) (by simp)
  obtain⟨A,cap,hb,hA⟩:=qE (n:=M.length) (by decide) (by simp[cI]) (kz h1' h2')
  have hA':=hA (by omega)
  subst hA'
  refine⟨.pointer (some ⟨jF (ε r),z.toNat*m,none⟩),?_,rfl⟩
  generalize jF (ε r)=g at hb
  simp only[execOp,h2,hb,h3,Sem.run_bind,h_ ht g 0 M.length cap k z h0 h1 w,Result.andThen_ok,Nat.zero_add]
  rfl) hr
theorem an.EE{t:TypeId}{x:Operand}(hx:ev T x=some (.own r))(hh:ai H r=some (.cl e te s []))(hk:ai H s=some (.store e tr M))(ht:isSlice P t=true)(hr:an P ops c os (br T dst (.int .i64 M.length)) H sps T' H'):
  an P ops c (⟨dst,.call {callee:=.builtin .len,args:=#[x],argTypes:=#[t]},ty,pos,aft,none⟩::os) T H (DH [(x,.own r)] r (.cl e te s []) s (.store e tr M) (.int .i64 M.length)::sps) T' H':=
 .E9 rfl (by simpa using hx) hh hk (fun r' hr'=>by cases hr') (fun ε w S a F F' ha h1' h2'=>by
  have h2:a.eval x=ε r:=(ha (x,.own r) (by simp)).1
  obtain⟨A,cap,hb,_⟩:=qE (n:=M.length) (by decide) (by simp[cI]) (kz h1' h2')
  exact⟨_,iZ a w (by rw[h2,hb];exact ov ht _ _ cap w),rfl⟩) hr
theorem x8{q r:Nat}{x:Hp}{H:List (Nat×Hp)}(h:Nat.beq q r=false):ai ((r,x)::H) q=ai H q:=by
 show(match Nat.beq q r with|true=>some x|false=>ai H q)=ai H q
 rw[h]
theorem Ok.Gr{x:Code}{Q:Exit->Act->World->Prop}(r s s2:Nat)(hh:ai H r=some (.cl e te s []))(hk:ai H s=some (.store e tr M))(hf:ai H s2=none)(hne:Nat.beq r s=false)
  (h:Ok P c T ((r,.cl e te s2 [])::(s2,.store e tr M)::(s,.dead)::H) x Q):Ok P c T H x Q:=by
 intro a w ⟨ε,φ,hs⟩
 have hrow:=kz (hs.h r _ hh) (hs.h s _ hk)
 rw[List.map_nil,List.append_nil]at hrow
 have hT:=hs.tell (y:=.gG 1 te ((List.range M.length).map (D.mr s))) hh hrow (fun q hq=>by rw[Br hq,hk];simp)
 have hT':Sat c (aP T) (ai ((r,.gG 1 te ((List.range M.length).map (D.mr s)))::H)) a w:=Sat.ext ⟨ε,φ,hT⟩ (fun _=>rfl) (fun q=>by rw[bw];rfl)
 have hrs:Nat.beq s r=false:=by
  cases hb:Nat.beq s r with
  |false=>rfl
  |true=>rw[Nat.eq_of_beq_eq_true hb]at hne;simp at hne
 have hr2:Nat.beq s2 r=false:=by
  cases hb:Nat.beq s2 r with
  |false=>rfl
  |true=>rw[Nat.eq_of_beq_eq_true hb]at hf;rw[hf]at hh;cases hh
 refine Ok.DJ (H:=(r,.gG 1 te ((List.range M.length).map (D.mr s)))::H) (r:=r) (s:=s) (te:=te) (js:=List.range M.length) (e:=e) (tr:=tr) (M:=M) (M2:=M) s2 (by simp[ai]) (by rw[x8 hrs];exact hk) (by rw[x8 hr2];exact hf) hne List.nodup_range (by simp) (fun i j hj=>?_) (fun a w hs=>h a w (Sat.ext hs (fun _=>rfl) (fun q=>?_))) a w hT'
 ·have hi:=(List.getElem?_eq_some_iff.1 hj).1
  simp only[List.length_range]at hi
  rw[List.getElem?_range hi]at hj
  injection hj with hj
  subst hj
  exact⟨rfl,hi⟩
 ·simp only[ai]
  cases Nat.beq q r<;>cases Nat.beq q s2<;>cases Nat.beq q s<;>rfl
theorem an.Gl{t:TypeId}{z:Int}{m:Nat}{x:Operand}{xs:List α}(hz:z=(M.length:Int))(hX:X[0]?=some xs)(h:ev T x=some (.ref r (z.toNat*m)))(hh:ai H r=some (.cl e te s X))(hk:ai H s=some (.store e tr M))(hm:m=1)(ht:lay P t=some none)
  (hr:an P ops c os (br T dst (ag e xs)) H sps T' H'):an P ops c (⟨dst,.load t x,ty,pos,aft,none⟩::os) T H (DH [(x,.ref r (z.toNat*m))] r (.cl e te s X) s (.store e tr M) (ag e xs)::sps) T' H':=
 .G9 (by omega) (by rw[show z.toNat-M.length=0 by omega];exact hX) h hh hk hm ht hr
theorem an.Gb{t:TypeId}{x y:Operand}{r1 s2 m:Nat}{z:Int}{x0 xs:List α}(hz:z=(M.length:Int))(hX:X[0]?=some x0)(h:ev T x=some (.ref r (z.toNat*m)))(hy:ev T y=some (.own r1))(hh:ai H r=some (.cl e te s X))(hk:ai H s=some (.store e tr M))(h1:ai H r1=some (a_ e tr xs))(hf:ai H s2=none)
  (hne:r≠s/\r≠r1/\s≠r1)(hm:m=1)(ht:lay P t=some none)
  (hr:an P ops c os (br T dst .any) ((r,.cl e te s2 X.tail)::(s2,.store e tr (M++[xs]))::(s,.dead)::(r1,.dead)::H) sps T' H'):
  an P ops c (⟨dst,.store t x y,ty,pos,aft,none⟩::os) T H (Eb x (.ref r (z.toNat*m)) y (.own r1) [(r,.cl e te s X),(s,.store e tr M),(r1,a_ e tr xs)] [(r,.cl e te s2 X.tail),(s2,.store e tr (M++[xs])),(s,.dead),(r1,.dead)] [s2]::sps) T' H':=by
 cases X with
 |nil=>simp at hX
 |cons y0 X=>exact .Gj (x0:=y0) (by omega) h hy hh hk h1 hf hne hm ht hr
end
end Go.Am
namespace Go.Am
open Go.RowKit
section
variable {P:Program} {os:List Oper} {c:Ctx} {T T':List (Nat×D)} {H H':List (Nat×Hp)} {sps:List Spec}
variable {ops:Array Oper} {dst:Option Nat} {ty:TypeId} {pos:String} {aft:Array Edge}
theorem an.GM{α:Type}{e:ak α}{t te:TypeId}{x y:Operand}{r r' m bt:Nat}{ys:List α}{z:List D}{dy:D}(hx:ev T x=some .nil)(hy:ev T y=some dy)(hdy:Le dy (ag e ys))(hm:n5 P t=some (te,m,bt,z))(hmn:m=e.n)
  (hb:ys.length*bt<=140737488355328)(hmax:ys.length<=9223372036854775807)(hf:ai H r=none)(hf':ai H r'=none)(hne:r≠r')
  (hr:an P ops c os ((r,.own r)::T) ((r',.dead)::(r,a_ e te ys)::H) sps T' H'):
  an P ops c (⟨some r,.call {callee:=.builtin .append,args:=#[x,y],argTypes:=#[t,t]},ty,pos,aft,none⟩::os) T H
   ({ins:=eD x .nil++eD y dy,dt:=[],out:=.own r,de:=[(r',.dead),(r,a_ e te ys)],news:=[r,r']}::sps) T' H':=by
 subst hmn
 refine .cons (sp:={ins:=eD x .nil++eD y dy,dt:=[],out:=.own r,de:=[(r',.dead),(r,a_ e te ys)],news:=[r,r']}) ?_ (bf.2 ⟨(aA hx).1,(aA hy).1⟩) trivial ⟨hf,hf',trivial⟩ hr
 intro hd T0 H0 hi _ hnew a w ⟨ε,φ,hs⟩ Q K hK
 rw[if_pos (bj rfl _)]
 obtain⟨hi1,hi2⟩:=bf.1 hi
 obtain⟨hn1,hn2,_⟩:=hnew
 have h1:a.eval x=.slice none 0 0:=(hs.ev hi1 (aA hx).2).1
 have hN:=hs.j4 (x:=.row e.n te [] rfl) (b:=.slice none 0 0) (F:=noBlocks) (r:=r') hn2 (Below.refl _ _) (fun k hk=>hk.elim) (.inl ⟨rfl,rfl,rfl⟩) (fun q hq=>by cases hq)
 have hr1:bB H0 [(r',Hp.row e.n te [] rfl)] r'=some (.row e.n te [] rfl):=by rw[bF,au]
 have hr0:bB H0 [(r',Hp.row e.n te [] rfl)] r=none:=by rw[bF,aC _ _ hne];exact hn1
 obtain⟨A,cap2,h2,_,hln,hA⟩:=hdy.1 _ _ _ _ (hN.ev hi2 (aA hy).2).1
 obtain⟨vs,hvA,hv1,hv⟩:=ub hln hA
 obtain⟨v',w',ε',φ',hrun,hS,ev',ho⟩:=hN.app (P:=P) (ty:=ty) hm (r:=r) (n1:=0) (l2:=flat e ys) (l:=flat e ys) (hl:=dM e ys) hr1 hr0 (by simp) hln (dM e ys) rfl hvA hv1 hv (by rw[Nat.zero_add];exact hb) (by omega) (cap2:=cap2)
 have hrun':(Builtin.append_ #[t,t] ty #[a.eval x,a.eval y]).run P w=.ok v' w':=by rw[h1,h2];rw[au]at hrun;exact hrun
 simp only[Oper.wp,lI a w w' hrun',Oper.upon]
 have e1:bB (bB H0 [(r',Hp.row e.n te [] rfl)]) [(r',.dead),(r,.row e.n te (flat e ys) (dM e ys))]=bB H0 [(r',.dead),(r,a_ e te ys)]:=pa (by simp[ai])
 have hS2:cp c T0 (bB H0 [(r',.dead),(r,a_ e te ys)]) a w' ε' φ':=by rw[←e1];exact hS
 refine hK _ _ ⟨ε',φ',hS2.put (d:=.own r) (db hd) ⟨ev'.symm,ho⟩ (fun q hq=>?_)⟩
 have:q=r:=by simpa [D.own]using hq
 subst this
 rw[fe,aC _ _ hne,au];simp
end
end Go.Am
namespace Go.Am
open Go.RowKit
set_option maxRecDepth 100000
noncomputable section
def eR(a1:List (List Rat))(v4:Int)(v5:List (List Rat)):Option (St (Int×(List (List Rat))) (List (List Rat))):=(if(decide (v4<(a1.length:Int)))=true then(ix a1 v4).bind fun v11=>bZ (v11.length*64<=140737488355328/\v11.length<=9223372036854775807) (bZ ((v5.length+1)*24<=140737488355328/\v5.length+1<=9223372036854775807) (some (St.next ((IntKind.i64.wrap (v4+1)),(v5++[v11])))))else some (St.done v5))
def ki(a1:List (List Rat)):Option (List (List Rat)):=((Loop (fun(s:Int×(List (List Rat)))=>eR a1 s.1 s.2) (0,([]:List (List Rat)))).bind fun v15=>some (v15)).bind fun v16=>some v16
theorem xb{a1:List (List Rat)}{r17:List (List Rat)}(h:ki a1=some r17):aS PP 206 [] [ag (ak.slice ak.rq) a1] [(2000003,Hp.cl ak.rq 69 4000003 ([])),(4000003,Hp.store ak.rq 37 r17)] (D.own 2000003):=by
 unfold ki at h
 refine .of Go.Proofs.Tryz.func206 rfl (by kernel_rfl) rfl rfl rfl rfl rfl rfl (fun A w0 L b=>?_)
 show Ok PP _ [(0,ag (ak.slice ak.rq) a1)] [] _ _
 refine .al (.aq rfl<|.nil) rfl ?_
 refine .al (.aq rfl<|.nil) rfl ?_
 obtain⟨v16,hp3,h⟩:=bind_some h
 refine .cd (fun i=>v16=i) (fun(i:(List (List Rat)))=>[(3,D.own 2000003)]) (fun(i:(List (List Rat)))=>[(2000003,Hp.cl ak.rq 69 4000003 ([])),(4000003,Hp.store ak.rq 37 i)]) ?_ ?_
 ·have ho1:=h
  clear h
  have h:=hp3
  clear hp3
  refine .al (.aq rfl<|.nil) rfl ?_
  refine .z8 ak.rq 3 2000003 4000003 69 37 rfl rfl rfl rfl ?_
  obtain⟨o6,hl7,h⟩:=bind_some h
  have ho2:=h
  clear h
  refine .block (.b8 (fun(s:Int×(List (List Rat)))=>[(0,ag (ak.slice ak.rq) a1),(3,D.own 2000003),(4,D.int .i64 s.1)]) (fun(s:Int×(List (List Rat)))=>[(2000003,Hp.cl ak.rq 69 4000003 ([])),(4000003,Hp.store ak.rq 37 s.2)]) hl7 (.of rfl) (.of rfl) rfl rfl ?_)
  rintro⟨v4,v5⟩ st8 hb9
  have h:eR a1 v4 v5=some st8:=hb9
  clear hb9
  unfold eR at h
  try dsimp only
  refine .sq ?_
  refine .al (.mv rfl<|.mv rfl<|.ep rfl b9<|.cm rfl rfl rfl<|.nil) rfl ?_
  by_cases c10:(decide (v4<(a1.length:Int)))=true
  ·replace h:=aa c10 h
   refine .cj rfl c10 ?_
   refine .skip (Ok.on ?_)
   refine .sq ?_
   refine .block ?_
   refine .kj 3 rfl rfl rfl ?_
   obtain⟨v11,e12,h⟩:=bind_some h
   obtain⟨k13,h⟩:=aw h
   obtain⟨k14,h⟩:=aw h
   refine .region (.mv rfl<|.mv rfl<|.mv rfl<|.ko rfl rfl aY (af e12).1 (af e12).2<|.gC rfl bb<|.GM (r':=5000016) (e:=ak.rq) (ys:=v11) rfl rfl (.refl _) cY rfl k13.1 k13.2 rfl rfl (by decide)<|.Fv rfl cK rfl<|.FH (s2:=3000018) rfl .sl rfl rfl rfl rfl rfl cK k14.1 k14.2 rfl rfl ⟨by decide,by decide,by decide,by decide,by decide,by decide,by decide⟩<|.aq rfl<|.nil) rfl (Ok.on ?_)
   refine .region (.mv rfl<|.ar rfl rfl rfl<|.aq rfl<|.nil) rfl (fun _ _ hs=>⟨((IntKind.i64.wrap (v4+1)),(v5++[v11])),(Option.some.inj h).symm,hs.nE (fun r=>match r with|2000003=>18|4000003=>3000018|r=>r) ⟨⟨_,rfl,.refl rfl⟩,⟨_,rfl,.own (r:=2000003)⟩,⟨_,rfl,.refl rfl⟩,trivial⟩ ⟨⟨_,rfl,.cl (s:=4000003)⟩,⟨_,rfl,.refl rfl⟩,trivial⟩ rfl rfl rfl⟩)
  ·replace h:=ab c10 h
   refine .ck rfl c10 ?_
   refine .exit (fun a w hs=>⟨_,(Option.some.inj h).symm,fun e=>by subst e;have h:=ho2;exact aZ (⟨v5,(Option.some.inj h).symm,hs.sub (.of rfl) (.of rfl) rfl rfl⟩)⟩)
 ·rintro _ rfl
  try dsimp only
  refine .kj 3 rfl rfl rfl ?_
  refine .al (.mv rfl<|.aq rfl<|.nil) rfl ?_
  refine .rJ 2 (.own 2000003) rfl .sl ?_
  cases h
  refine .aH (fun _ _ hb=>hb) rfl (.cons (.tmp rfl) .nil) (.refl _) trivial (.of rfl)
def dT(v9:Int)(v10:List (List Rat))(v20:Int):Option (St Int Int):=(if(decide (v20<(v10.length:Int)))=true then(ix v10 v20).bind fun v26=>(ix v26 v9).bind fun v28=>(i_ v28).bind fun v30=>(if(v30==0)=true then some (St.next (IntKind.i64.wrap (v20+1)))else some (St.done v20))else some (St.done v20))
def kl(v4:Int)(v11:List Int)(v49:Rat)(v53:Int)(v54:List (List Rat)):Option (St (Int×(List (List Rat))) (List (List Rat))):=(if(decide (v53<v4))=true then(ix v54 (v11.length:Int)).bind fun v60=>(ix v54 (v11.length:Int)).bind fun v62=>(ix v62 v53).bind fun v64=>(iR v64 v49).bind fun v66=>(ix v60 v53).bind fun v68=>some (St.next ((IntKind.i64.wrap (v53+1)),(v54.set (v11.length:Int).toNat (v60.set v53.toNat v66))))else some (St.done v54))
def kr(v4:Int)(v11:List Int)(v74:Int)(v85:Rat)(v91:Int)(v92:List (List Rat)):Option (St (Int×(List (List Rat))) (List (List Rat))):=(if(decide (v91<v4))=true then(ix v92 v74).bind fun v98=>(ix v92 v74).bind fun v100=>(ix v100 v91).bind fun v102=>(ix v92 (v11.length:Int)).bind fun v104=>(ix v104 v91).bind fun v106=>(iR v85 v106).bind fun v108=>(ky v102 v108).bind fun v110=>(ix v98 v91).bind fun v112=>some (St.next ((IntKind.i64.wrap (v91+1)),(v92.set v74.toNat (v98.set v91.toNat v110))))else some (St.done v92))
def fj(v4:Int)(v9:Int)(v11:List Int)(v74:Int)(v75:List (List Rat)):Option (St (Int×(List (List Rat))) (List (List Rat))):=(if(decide (v74<(v75.length:Int)))=true then((ix v75 v74).bind fun v83=>(ix v83 v9).bind fun v85=>(if(v74==(v11.length:Int))=true then some (v75)else(i_ v85).bind fun v88=>(if(v88==0)=true then some (v75)else(Loop (fun(s:Int×(List (List Rat)))=>kr v4 v11 v74 v85 s.1 s.2) (0,v75)).bind fun v114=>some (v114)))).bind fun v115=>some (St.next ((IntKind.i64.wrap (v74+1)),v115))else some (St.done v75))
def ca(v4:Int)(v9:Int)(v10:List (List Rat))(v11:List Int):Option (St (Int×(List (List Rat))×(List Int)) ((List (List Rat))×(List Int))):=(if(decide (v9<v4))=true then(if(decide ((v11.length:Int)<(v10.length:Int)))=true then((Loop (fun(s:Int)=>dT v9 v10 s) (v11.length:Int)).bind fun v33=>(if(v33==(v10.length:Int))=true then some ((v10,v11))else(ix v10 v33).bind fun v35=>(ix v10 (v11.length:Int)).bind fun v37=>(ix v10 (v11.length:Int)).bind fun v39=>(ix v10 v33).bind fun v41=>(gz 1).bind fun v43=>(ix ((v10.set (v11.length:Int).toNat v35).set v33.toNat v39) (v11.length:Int)).bind fun v45=>(ix v45 v9).bind fun v47=>(gS v43 v47).bind fun v49=>((Loop (fun(s:Int×(List (List Rat)))=>kl v4 v11 v49 s.1 s.2) (0,((v10.set (v11.length:Int).toNat v35).set v33.toNat v39))).bind fun v70=>some (v70)).bind fun v71=>((Loop (fun(s:Int×(List (List Rat)))=>fj v4 v9 v11 s.1 s.2) (0,v71)).bind fun v116=>some (v116)).bind fun v117=>bZ ((v11.length+([v9]).length)*8<=140737488355328/\v11.length+([v9]).length<=9223372036854775807) (some ((v117,(v11++[v9])))))).bind fun(v119,v120)=>some (St.next ((IntKind.i64.wrap (v9+1)),v119,v120))else some (St.done (v10,v11)))else some (St.done (v10,v11)))
def j0(a1:List (List Rat)):Option ((List (List Rat))×(List Int)):=(ki a1).bind fun v2=>(iU v2).bind fun(v4,v5)=>((Loop (fun(s:Int×(List (List Rat))×(List Int))=>ca v4 s.1 s.2.1 s.2.2) (0,v2,([]:List Int))).bind fun(v121,v122)=>some ((v121,v122))).bind fun(v123,v124)=>some (v123,v124)
theorem v_{a1:List (List Rat)}{r125:List (List Rat)}{r126:List Int}(h:j0 a1=some (r125,r126)):aS PP 127 [] [ag (ak.slice ak.rq) a1] [] (D.iC [ag (ak.slice ak.rq) r125,ag (ak.int .i64) r126]):=by
 unfold j0 at h
 refine .of Go.Proofs.Tryz.func127 rfl (by kernel_rfl) rfl rfl rfl rfl rfl rfl (fun A w0 L b=>?_)
 show Ok PP _ [(0,ag (ak.slice ak.rq) a1)] [] _ _
 refine .al (.aq rfl<|.aq rfl<|.nil) rfl ?_
 obtain⟨v2,e3,h⟩:=bind_some h
 refine .al (.mv rfl<|.ah (Hi:=[]) (Ho:=[(17,Hp.cl ak.rq 69 3000017 ([])),(3000017,Hp.store ak.rq 37 v2)]) (d:=D.own 17) (ds:=[ag (ak.slice ak.rq) a1]) (.Di (xb e3) (fun r=>match r with|2000003=>17|4000003=>3000017|r=>r) (fun r=>match r with|17=>2000003|3000017=>4000003|r=>r) rfl trivial rfl ⟨.refl rfl,trivial⟩ ⟨⟨_,rfl,.cl (s:=3000017)⟩,⟨_,rfl,.refl rfl⟩,trivial⟩ rfl (.own (r:=17)) rfl rfl rfl rfl rfl) ⟨rfl,trivial⟩ trivial ⟨rfl,rfl,trivial⟩<|.aq rfl<|.nil) rfl ?_
 refine .kj 4 rfl rfl rfl ?_
 obtain⟨⟨v4,v5⟩,e6,h⟩:=bind_some h
 refine .al (.mv rfl<|.Bi (ds0:=[D.sl 17 v2.length]) [(17,Hp.cl ak.rq 69 3000017 ([])),(3000017,Hp.store ak.rq 37 v2)] (pA e6) ⟨rfl,trivial⟩ ⟨rfl,rfl,trivial⟩ ⟨(.cl .sl rfl rfl rfl),trivial⟩ (.iC ⟨.int,.bool,trivial⟩) rfl<|.mv rfl<|.ext rfl rfl<|.ext rfl rfl<|.aq rfl<|.aq rfl<|.nil) rfl ?_
 refine .al (.aq rfl<|.nil) rfl ?_
 obtain⟨o7,hp8,h⟩:=bind_some h
 refine .cd (fun i=>o7=i) (fun(i:(List (List Rat))×(List Int))=>[(4,D.own 17),(7,D.own 2000007)]) (fun(i:(List (List Rat))×(List Int))=>[(17,Hp.cl ak.rq 69 3000017 ([])),(3000017,Hp.store ak.rq 37 i.1),(2000007,a_ (ak.int .i64) 3 i.2)]) ?_ ?_
 ·have ho1:=h
  clear h
  have h:=hp8
  clear hp8
  refine .al (.aq rfl<|.nil) rfl ?_
  refine .jJ (ak.int .i64) 7 2000007 3 rfl rfl ?_
  obtain⟨o12,hl13,h⟩:=bind_some h
  have ho2:=h
  clear h
  refine .block (.b8 (fun(s:Int×(List (List Rat))×(List Int))=>[(4,D.own 17),(5,D.int .i64 v4),(7,D.own 2000007),(8,D.int .i64 s.1)]) (fun(s:Int×(List (List Rat))×(List Int))=>[(17,Hp.cl ak.rq 69 3000017 ([])),(3000017,Hp.store ak.rq 37 s.2.1),(2000007,a_ (ak.int .i64) 3 s.2.2)]) hl13 ⟨⟨_,rfl,.sl⟩,⟨_,rfl,.refl _⟩,⟨_,rfl,.refl _⟩,⟨_,rfl,.refl _⟩,trivial⟩ (.of rfl) rfl rfl ?_)
  rintro⟨v9,v10,v11⟩ st14 hb15
  have h:ca v4 v9 v10 v11=some st14:=hb15
  clear hb15
  unfold ca at h
  try dsimp only
  refine .sq ?_
  refine .kj 4 rfl rfl rfl ?_
  refine .sl 7 rfl rfl rfl ?_
  by_cases c16:(decide (v9<v4))=true
  ·replace h:=aa c16 h
   refine .al (.mv rfl<|.mv rfl<|.cm rfl rfl rfl<|.mv rfl<|.aV rfl rfl rfl c16<|.mv rfl<|.aV rfl rfl rfl c16<|.zS rfl ba<|.aV rfl rfl rfl c16<|.mv rfl<|.aV rfl rfl rfl c16<|.zS rfl b9<|.aV rfl rfl rfl c16<|.cm rfl rfl rfl<|.bn rfl c16 rfl<|.nil) rfl ?_
   by_cases c17:(decide ((v11.length:Int)<(v10.length:Int)))=true
   ·replace h:=aa c17 h
    refine .cj rfl c17 ?_
    refine .skip (Ok.on ?_)
    obtain⟨o18,hp19,h⟩:=bind_some h
    refine .cd (fun i=>o18=i) (fun(i:(List (List Rat))×(List Int))=>[(4,D.own 17),(5,D.int .i64 v4),(7,D.own 2000007),(8,D.int .i64 v9)]) (fun(i:(List (List Rat))×(List Int))=>[(17,Hp.cl ak.rq 69 3000017 ([])),(3000017,Hp.store ak.rq 37 i.1),(2000007,a_ (ak.int .i64) 3 i.2)]) ?_ ?_
    ·have ho3:=h
     clear h
     have h:=hp19
     clear hp19
     refine .block ?_
     refine .al (.mv rfl<|.zS rfl ba<|.aq rfl<|.nil) rfl ?_
     refine .al (.mv rfl<|.aq rfl<|.nil) rfl ?_
     obtain⟨v33,hl22,h⟩:=bind_some h
     refine .cd (fun i=>v33=i) (fun(i:Int)=>[(4,D.own 17),(5,D.int .i64 v4),(7,D.own 2000007),(8,D.int .i64 v9),(9,D.int .i64 (v11.length:Int)),(10,D.int .i64 i)]) (fun(i:Int)=>[(17,Hp.cl ak.rq 69 3000017 ([])),(3000017,Hp.store ak.rq 37 v10),(2000007,a_ (ak.int .i64) 3 v11)]) ?_ ?_
     ·have ho4:=h
      clear h
      refine .block (.b8 (fun(s:Int)=>[(4,D.own 17),(5,D.int .i64 v4),(7,D.own 2000007),(8,D.int .i64 v9),(9,D.int .i64 (v11.length:Int)),(10,D.int .i64 s)]) (fun(s:Int)=>[(17,Hp.cl ak.rq 69 3000017 ([])),(3000017,Hp.store ak.rq 37 v10),(2000007,a_ (ak.int .i64) 3 v11)]) hl22 ⟨⟨_,rfl,.sl⟩,⟨_,rfl,.refl _⟩,⟨_,rfl,.sl⟩,⟨_,rfl,.refl _⟩,⟨_,rfl,.refl _⟩,⟨_,rfl,.refl _⟩,trivial⟩ (.of rfl) rfl rfl ?_)
      rintro v20 st23 hb24
      have h:dT v9 v10 v20=some st23:=hb24
      clear hb24
      unfold dT at h
      try dsimp only
      refine .sq ?_
      refine .kj 4 rfl rfl rfl ?_
      by_cases c25:(decide (v20<(v10.length:Int)))=true
      ·replace h:=aa c25 h
       obtain⟨v26,e27,h⟩:=bind_some h
       obtain⟨v28,e29,h⟩:=bind_some h
       obtain⟨v30,e31,h⟩:=bind_some h
       refine .al (.mv rfl<|.mv rfl<|.zS rfl b9<|.cm rfl rfl rfl<|.mv rfl<|.aV rfl rfl rfl c25<|.mv rfl<|.aV rfl rfl rfl c25<|.mv rfl<|.aV rfl rfl rfl c25<|.oH rfl rfl aY (af e27).1 (by have:=aW e27;have:=(af e27).1;(try simp only[List.length_set]at*);omega)<|.aV rfl rfl rfl c25<|.sv (aW e27) rfl rfl rfl rfl bb<|.aV rfl rfl rfl c25<|.mv rfl<|.aV rfl rfl rfl c25<|.uM rfl rfl rfl (af e27).2 bE (af e29).1 (by have:=aW e29;have:=(af e29).1;omega) rfl<|.aV rfl rfl rfl c25<|.oY rfl rfl (af e27).2 (af e29).2 ao rfl rfl<|.aV rfl rfl rfl c25<|.ah (Ax e31) ⟨rfl,trivial⟩ trivial trivial<|.aV rfl rfl rfl c25<|.cm rfl rfl rfl<|.bn rfl c25 rfl<|.nil) rfl ?_
       by_cases c32:(v30==0)=true
       ·replace h:=aa c32 h
        refine .cj rfl c32 ?_
        refine .skip (Ok.on ?_)
        refine .block ?_
        refine .region (.mv rfl<|.ar rfl rfl rfl<|.aq rfl<|.nil) rfl (fun _ _ hs=>⟨(IntKind.i64.wrap (v20+1)),(Option.some.inj h).symm,hs.sub ⟨⟨_,rfl,.sl⟩,⟨_,rfl,.refl _⟩,⟨_,rfl,.refl _⟩,⟨_,rfl,.refl _⟩,⟨_,rfl,.refl _⟩,⟨_,rfl,.refl _⟩,trivial⟩ (.of rfl) rfl rfl⟩)
       ·replace h:=ab c32 h
        refine .ck rfl c32 ?_
        refine .exit (fun _ _ hs=>⟨_,(Option.some.inj h).symm,fun e=>⟨v20,e.symm,hs.sub ⟨⟨_,rfl,.sl⟩,⟨_,rfl,.refl _⟩,⟨_,rfl,.refl _⟩,⟨_,rfl,.refl _⟩,⟨_,rfl,.refl _⟩,⟨_,rfl,.refl _⟩,trivial⟩ (.of rfl) rfl rfl⟩⟩)
      ·replace h:=ab c25 h
       refine .al (.mv rfl<|.mv rfl<|.zS rfl b9<|.cm rfl rfl rfl<|.mv rfl<|.aT rfl rfl rfl c25<|.aT rfl rfl rfl c25<|.aT rfl rfl rfl c25<|.aT rfl rfl rfl c25<|.aT rfl rfl rfl c25<|.aT rfl rfl rfl c25<|.aT rfl rfl rfl c25<|.aT rfl rfl rfl c25<|.aT rfl rfl rfl c25<|.bm rfl c25 rfl<|.nil) rfl ?_
       refine .ck rfl (by decide) ?_
       refine .exit (fun _ _ hs=>⟨_,(Option.some.inj h).symm,fun e=>⟨v20,e.symm,hs.sub ⟨⟨_,rfl,.sl⟩,⟨_,rfl,.refl _⟩,⟨_,rfl,.refl _⟩,⟨_,rfl,.refl _⟩,⟨_,rfl,.refl _⟩,⟨_,rfl,.refl _⟩,trivial⟩ (.of rfl) rfl rfl⟩⟩)
     ·rintro _ rfl
      try dsimp only
      refine .sq ?_
      refine .kj 4 rfl rfl rfl ?_
      refine .al (.mv rfl<|.mv rfl<|.zS rfl b9<|.cm rfl rfl rfl<|.nil) rfl ?_
      by_cases c34:(v33==(v10.length:Int))=true
      ·replace h:=aa c34 h
       refine .cj rfl c34 ?_
       refine .exit (fun _ _ hs=>⟨(v10,v11),(Option.some.inj h).symm,hs.sub ⟨⟨_,rfl,.sl⟩,⟨_,rfl,.refl _⟩,⟨_,rfl,.refl _⟩,⟨_,rfl,.refl _⟩,trivial⟩ (.of rfl) rfl rfl⟩)
      ·replace h:=ab c34 h
       refine .ck rfl c34 ?_
       refine .skip (Ok.on ?_)
       obtain⟨v35,e36,h⟩:=bind_some h
       obtain⟨v37,e38,h⟩:=bind_some h
       obtain⟨v39,e40,h⟩:=bind_some h
       obtain⟨v41,e42,h⟩:=bind_some h
       refine .dc cg (.mv rfl<|.mv rfl<|.mv rfl<|.mv rfl<|.mv rfl<|.mv rfl<|.oH rfl rfl aY (af e36).1 (by have:=aW e36;have:=(af e36).1;(try simp only[List.length_set]at*);omega)<|.sv (aW e36) rfl rfl rfl rfl bb<|.mv rfl<|.mv rfl<|.oH rfl rfl aY (af e38).1 (by have:=aW e38;have:=(af e38).1;(try simp only[List.length_set]at*);omega)<|.sv (aW e38) rfl rfl rfl rfl bb<|.oH rfl rfl aY (af e40).1 (by have:=aW e40;have:=(af e40).1;(try simp only[List.length_set]at*);omega)<|.GJ (aW e40) rfl rfl rfl rfl rfl bb<|.oH rfl rfl aY (af e42).1 (by have:=aW e42;have:=(af e42).1;(try simp only[List.length_set]at*);omega)<|.Gy (by have:=aW e42;simpa using this) rfl rfl rfl rfl rfl bb<|.nil) rfl (by kernel_rfl) ?_
       refine .DK (r:=17) (s:=3000017) (i:=(v11.length:Int)) (k:=v33) 4000017 rfl rfl rfl rfl (af e40).2 (af e36).2 ?_
       obtain⟨v43,e44,h⟩:=bind_some h
       obtain⟨v45,e46,h⟩:=bind_some h
       obtain⟨v47,e48,h⟩:=bind_some h
       obtain⟨v49,e50,h⟩:=bind_some h
       refine .dc cg (.ah (DE e44) ⟨rfl,trivial⟩ trivial trivial<|.mv rfl<|.mv rfl<|.oH rfl rfl aY (af e46).1 (by have:=aW e46;have:=(af e46).1;(try simp only[List.length_set]at*);omega)<|.sv (aW e46) rfl rfl rfl rfl bb<|.mv rfl<|.uM rfl rfl rfl (af e46).2 bE (af e48).1 (by have:=aW e48;have:=(af e48).1;omega) rfl<|.oY rfl rfl (af e46).2 (af e48).2 ao rfl rfl<|.ah (D3 e50) ⟨rfl,rfl,trivial⟩ trivial trivial<|.gd (lU (0)) bC ⟨DW,DO,.refl _,DL,trivial⟩ rfl<|.cH (lU (v49)) rfl rfl rfl ao rfl rfl rfl<|.nil) rfl (by kernel_rfl) ?_
       obtain⟨v71,hp52,h⟩:=bind_some h
       refine .cd (fun i=>v71=i) (fun(i:(List (List Rat)))=>[(4,D.own 17),(5,D.int .i64 v4),(7,D.own 2000007),(8,D.int .i64 v9),(9,D.int .i64 (v11.length:Int))]) (fun(i:(List (List Rat)))=>[(17,Hp.cl ak.rq 69 4000017 ([])),(4000017,Hp.store ak.rq 37 i),(2000007,a_ (ak.int .i64) 3 v11)]) ?_ ?_
       ·have ho4:=h
        clear h
        have h:=hp52
        clear hp52
        refine .al (.aq rfl<|.nil) rfl ?_
        obtain⟨o55,hl56,h⟩:=bind_some h
        have ho5:=h
        clear h
        refine .block (.b8 (fun(s:Int×(List (List Rat)))=>[(4,D.own 17),(5,D.int .i64 v4),(7,D.own 2000007),(8,D.int .i64 v9),(9,D.int .i64 (v11.length:Int)),(11,D.ref 11 0),(12,D.int .i64 s.1)]) (fun(s:Int×(List (List Rat)))=>[(17,Hp.cl ak.rq 69 4000017 ([])),(4000017,Hp.store ak.rq 37 s.2),(2000007,a_ (ak.int .i64) 3 v11),(11,Hp.box 37 (lU (v49)))]) hl56 ⟨⟨_,rfl,.sl⟩,⟨_,rfl,.refl _⟩,⟨_,rfl,.refl _⟩,⟨_,rfl,.refl _⟩,⟨_,rfl,.refl _⟩,⟨_,rfl,.refl _⟩,⟨_,rfl,.refl _⟩,trivial⟩ (.of rfl) rfl rfl ?_)
        rintro⟨v53,v54⟩ st57 hb58
        have h:kl v4 v11 v49 v53 v54=some st57:=hb58
        clear hb58
        unfold kl at h
        try dsimp only
        refine .sq ?_
        refine .al (.mv rfl<|.mv rfl<|.cm rfl rfl rfl<|.nil) rfl ?_
        by_cases c59:(decide (v53<v4))=true
        ·replace h:=aa c59 h
         refine .cj rfl c59 ?_
         refine .skip (Ok.on ?_)
         refine .sq ?_
         refine .block ?_
         refine .kj 4 rfl rfl rfl ?_
         obtain⟨v60,e61,h⟩:=bind_some h
         obtain⟨v62,e63,h⟩:=bind_some h
         obtain⟨v64,e65,h⟩:=bind_some h
         obtain⟨v66,e67,h⟩:=bind_some h
         obtain⟨v68,e69,h⟩:=bind_some h
         refine .c_ cg (.mv rfl<|.mv rfl<|.oH rfl rfl aY (af e61).1 (by have:=aW e61;have:=(af e61).1;(try simp only[List.length_set]at*);omega)<|.sv (aW e61) rfl rfl rfl rfl bb<|.mv rfl<|.mv rfl<|.mv rfl<|.oH rfl rfl aY (af e63).1 (by have:=aW e63;have:=(af e63).1;(try simp only[List.length_set]at*);omega)<|.sv (aW e63) rfl rfl rfl rfl bb<|.mv rfl<|.uM rfl rfl rfl (af e63).2 bE (af e65).1 (by have:=aW e65;have:=(af e65).1;omega) rfl<|.oY rfl rfl (af e63).2 (af e65).2 ao rfl rfl<|.b_ (lU (v49)) rfl rfl ao rfl rfl<|.ah (Bb e67) ⟨rfl,rfl,trivial⟩ trivial trivial<|.uM rfl rfl rfl (af e61).2 bE (af e69).1 (by have:=aW e69;have:=(af e69).1;omega) rfl<|.Co v66 rfl rfl rfl (af e61).2 (aW e69) ao rfl rfl rfl<|.nil) rfl (by kernel_rfl) (Ok.on ?_)
         refine .region (.mv rfl<|.ar rfl rfl rfl<|.aq rfl<|.nil) rfl (fun _ _ hs=>⟨((IntKind.i64.wrap (v53+1)),(v54.set (v11.length:Int).toNat (v60.set v53.toNat v66))),(Option.some.inj h).symm,hs.sub ⟨⟨_,rfl,.sl⟩,⟨_,rfl,.refl _⟩,⟨_,rfl,.refl _⟩,⟨_,rfl,.refl _⟩,⟨_,rfl,.refl _⟩,⟨_,rfl,.refl _⟩,⟨_,rfl,.refl _⟩,trivial⟩ (.of rfl) rfl rfl⟩)
        ·replace h:=ab c59 h
         refine .ck rfl c59 ?_
         refine .exit (fun a w hs=>⟨_,(Option.some.inj h).symm,fun e=>by subst e;have h:=ho5;exact aZ (⟨v54,(Option.some.inj h).symm,hs.sub (.of rfl) (.of rfl) rfl rfl⟩)⟩)
       ·rintro _ rfl
        try dsimp only
        obtain⟨v117,hp73,h⟩:=bind_some h
        refine .cd (fun i=>v117=i) (fun(i:(List (List Rat)))=>[(4,D.own 17),(5,D.int .i64 v4),(7,D.own 2000007),(8,D.int .i64 v9)]) (fun(i:(List (List Rat)))=>[(17,Hp.cl ak.rq 69 4000017 ([])),(4000017,Hp.store ak.rq 37 i),(2000007,a_ (ak.int .i64) 3 v11)]) ?_ ?_
        ·have ho4:=h
         clear h
         have h:=hp73
         clear hp73
         refine .al (.aq rfl<|.nil) rfl ?_
         obtain⟨o76,hl77,h⟩:=bind_some h
         have ho5:=h
         clear h
         refine .block (.b8 (fun(s:Int×(List (List Rat)))=>[(4,D.own 17),(5,D.int .i64 v4),(7,D.own 2000007),(8,D.int .i64 v9),(9,D.int .i64 (v11.length:Int)),(13,D.int .i64 s.1)]) (fun(s:Int×(List (List Rat)))=>[(17,Hp.cl ak.rq 69 4000017 ([])),(4000017,Hp.store ak.rq 37 s.2),(2000007,a_ (ak.int .i64) 3 v11)]) hl77 (.of rfl) (.of rfl) rfl rfl ?_)
         rintro⟨v74,v75⟩ st78 hb79
         have h:fj v4 v9 v11 v74 v75=some st78:=hb79
         clear hb79
         unfold fj at h
         try dsimp only
         refine .sq ?_
         refine .kj 4 rfl rfl rfl ?_
         refine .al (.mv rfl<|.mv rfl<|.zS rfl b9<|.cm rfl rfl rfl<|.nil) rfl ?_
         by_cases c80:(decide (v74<(v75.length:Int)))=true
         ·replace h:=aa c80 h
          refine .cj rfl c80 ?_
          refine .skip (Ok.on ?_)
          obtain⟨v115,hp82,h⟩:=bind_some h
          refine .cd (fun i=>v115=i) (fun(i:(List (List Rat)))=>[(4,D.own 17),(5,D.int .i64 v4),(7,D.own 2000007),(8,D.int .i64 v9),(9,D.int .i64 (v11.length:Int)),(13,D.int .i64 v74)]) (fun(i:(List (List Rat)))=>[(17,Hp.cl ak.rq 69 4000017 ([])),(4000017,Hp.store ak.rq 37 i),(2000007,a_ (ak.int .i64) 3 v11)]) ?_ ?_
          ·have ho6:=h
           clear h
           have h:=hp82
           clear hp82
           refine .block ?_
           obtain⟨v83,e84,h⟩:=bind_some h
           obtain⟨v85,e86,h⟩:=bind_some h
           refine .al (.mv rfl<|.mv rfl<|.oH rfl rfl aY (af e84).1 (by have:=aW e84;have:=(af e84).1;(try simp only[List.length_set]at*);omega)<|.sv (aW e84) rfl rfl rfl rfl bb<|.mv rfl<|.uM rfl rfl rfl (af e84).2 bE (af e86).1 (by have:=aW e86;have:=(af e86).1;omega) rfl<|.oY rfl rfl (af e84).2 (af e86).2 ao rfl rfl<|.gd (lU (0)) bC ⟨DW,DO,.refl _,DL,trivial⟩ rfl<|.cH (lU (v85)) rfl rfl rfl ao rfl rfl rfl<|.nil) rfl ?_
           refine .sq ?_
           by_cases c87:(v74==(v11.length:Int))=true
           ·replace h:=aa c87 h
            refine .al (.mv rfl<|.mv rfl<|.cm rfl rfl rfl<|.mv rfl<|.eQ rfl rfl rfl c87<|.eQ rfl rfl rfl c87<|.eQ rfl rfl rfl c87<|.bn rfl c87 rfl<|.nil) rfl ?_
            refine .cj rfl rfl ?_
            refine .exit (fun _ _ hs=>⟨v75,(Option.some.inj h).symm,hs.sub ⟨⟨_,rfl,.sl⟩,⟨_,rfl,.refl _⟩,⟨_,rfl,.refl _⟩,⟨_,rfl,.refl _⟩,⟨_,rfl,.refl _⟩,⟨_,rfl,.refl _⟩,trivial⟩ (.of rfl) rfl rfl⟩)
           ·replace h:=ab c87 h
            obtain⟨v88,e89,h⟩:=bind_some h
            refine .al (.mv rfl<|.mv rfl<|.cm rfl rfl rfl<|.mv rfl<|.dn rfl rfl rfl c87<|.b_ (lU (v85)) rfl rfl ao rfl rfl<|.dn rfl rfl rfl c87<|.ah (Ax e89) ⟨rfl,trivial⟩ trivial trivial<|.dn rfl rfl rfl c87<|.cm rfl rfl rfl<|.bm rfl c87 rfl<|.nil) rfl ?_
            by_cases c90:(v88==0)=true
            ·replace h:=aa c90 h
             refine .cj rfl c90 ?_
             refine .exit (fun _ _ hs=>⟨v75,(Option.some.inj h).symm,hs.sub ⟨⟨_,rfl,.sl⟩,⟨_,rfl,.refl _⟩,⟨_,rfl,.refl _⟩,⟨_,rfl,.refl _⟩,⟨_,rfl,.refl _⟩,⟨_,rfl,.refl _⟩,trivial⟩ (.of rfl) rfl rfl⟩)
            ·replace h:=ab c90 h
             refine .ck rfl c90 ?_
             refine .skip (Ok.on ?_)
             refine .al (.aq rfl<|.nil) rfl ?_
             obtain⟨o93,hl94,h⟩:=bind_some h
             have ho7:=h
             clear h
             refine .block (.b8 (fun(s:Int×(List (List Rat)))=>[(4,D.own 17),(5,D.int .i64 v4),(7,D.own 2000007),(8,D.int .i64 v9),(9,D.int .i64 (v11.length:Int)),(13,D.int .i64 v74),(14,D.ref 14 0),(15,D.int .i64 s.1)]) (fun(s:Int×(List (List Rat)))=>[(17,Hp.cl ak.rq 69 4000017 ([])),(4000017,Hp.store ak.rq 37 s.2),(2000007,a_ (ak.int .i64) 3 v11),(14,Hp.box 37 (lU (v85)))]) hl94 ⟨⟨_,rfl,.sl⟩,⟨_,rfl,.refl _⟩,⟨_,rfl,.refl _⟩,⟨_,rfl,.refl _⟩,⟨_,rfl,.refl _⟩,⟨_,rfl,.refl _⟩,⟨_,rfl,.refl _⟩,⟨_,rfl,.refl _⟩,trivial⟩ (.of rfl) rfl rfl ?_)
             rintro⟨v91,v92⟩ st95 hb96
             have h:kr v4 v11 v74 v85 v91 v92=some st95:=hb96
             clear hb96
             unfold kr at h
             try dsimp only
             refine .sq ?_
             refine .al (.mv rfl<|.mv rfl<|.cm rfl rfl rfl<|.nil) rfl ?_
             by_cases c97:(decide (v91<v4))=true
             ·replace h:=aa c97 h
              refine .cj rfl c97 ?_
              refine .skip (Ok.on ?_)
              refine .sq ?_
              refine .block ?_
              refine .kj 4 rfl rfl rfl ?_
              obtain⟨v98,e99,h⟩:=bind_some h
              obtain⟨v100,e101,h⟩:=bind_some h
              obtain⟨v102,e103,h⟩:=bind_some h
              obtain⟨v104,e105,h⟩:=bind_some h
              obtain⟨v106,e107,h⟩:=bind_some h
              obtain⟨v108,e109,h⟩:=bind_some h
              obtain⟨v110,e111,h⟩:=bind_some h
              obtain⟨v112,e113,h⟩:=bind_some h
              refine .c_ cg (.mv rfl<|.mv rfl<|.oH rfl rfl aY (af e99).1 (by have:=aW e99;have:=(af e99).1;(try simp only[List.length_set]at*);omega)<|.sv (aW e99) rfl rfl rfl rfl bb<|.mv rfl<|.mv rfl<|.mv rfl<|.oH rfl rfl aY (af e101).1 (by have:=aW e101;have:=(af e101).1;(try simp only[List.length_set]at*);omega)<|.sv (aW e101) rfl rfl rfl rfl bb<|.mv rfl<|.uM rfl rfl rfl (af e101).2 bE (af e103).1 (by have:=aW e103;have:=(af e103).1;omega) rfl<|.oY rfl rfl (af e101).2 (af e103).2 ao rfl rfl<|.b_ (lU (v85)) rfl rfl ao rfl rfl<|.mv rfl<|.mv rfl<|.oH rfl rfl aY (af e105).1 (by have:=aW e105;have:=(af e105).1;(try simp only[List.length_set]at*);omega)<|.sv (aW e105) rfl rfl rfl rfl bb<|.mv rfl<|.uM rfl rfl rfl (af e105).2 bE (af e107).1 (by have:=aW e107;have:=(af e107).1;omega) rfl<|.oY rfl rfl (af e105).2 (af e107).2 ao rfl rfl<|.ah (Bb e109) ⟨rfl,rfl,trivial⟩ trivial trivial<|.ah (FL e111) ⟨rfl,rfl,trivial⟩ trivial trivial<|.uM rfl rfl rfl (af e99).2 bE (af e113).1 (by have:=aW e113;have:=(af e113).1;omega) rfl<|.Co v110 rfl rfl rfl (af e99).2 (aW e113) ao rfl rfl rfl<|.nil) rfl (by kernel_rfl) (Ok.on ?_)
              refine .region (.mv rfl<|.ar rfl rfl rfl<|.aq rfl<|.nil) rfl (fun _ _ hs=>⟨((IntKind.i64.wrap (v91+1)),(v92.set v74.toNat (v98.set v91.toNat v110))),(Option.some.inj h).symm,hs.sub ⟨⟨_,rfl,.sl⟩,⟨_,rfl,.refl _⟩,⟨_,rfl,.refl _⟩,⟨_,rfl,.refl _⟩,⟨_,rfl,.refl _⟩,⟨_,rfl,.refl _⟩,⟨_,rfl,.refl _⟩,⟨_,rfl,.refl _⟩,trivial⟩ (.of rfl) rfl rfl⟩)
             ·replace h:=ab c97 h
              refine .ck rfl c97 ?_
              refine .exit (fun a w hs=>⟨_,(Option.some.inj h).symm,fun e=>by subst e;have h:=ho7;exact aZ (⟨v92,(Option.some.inj h).symm,hs.sub (.of rfl) (.of rfl) rfl rfl⟩)⟩)
          ·rintro _ rfl
           try dsimp only
           refine .region (.mv rfl<|.ar rfl rfl rfl<|.aq rfl<|.nil) rfl (fun _ _ hs=>⟨((IntKind.i64.wrap (v74+1)),v115),(Option.some.inj h).symm,hs.sub (.of rfl) (.of rfl) rfl rfl⟩)
         ·replace h:=ab c80 h
          refine .ck rfl c80 ?_
          refine .exit (fun a w hs=>⟨_,(Option.some.inj h).symm,fun e=>by subst e;have h:=ho5;exact aZ (⟨v75,(Option.some.inj h).symm,hs.sub ⟨⟨_,rfl,.sl⟩,⟨_,rfl,.refl _⟩,⟨_,rfl,.refl _⟩,⟨_,rfl,.refl _⟩,trivial⟩ (.of rfl) rfl rfl⟩)⟩)
        ·rintro _ rfl
         try dsimp only
         refine .sl 7 rfl rfl rfl ?_
         obtain⟨k118,h⟩:=aw h
         refine .region (.mv rfl<|.mv rfl<|.zP (e:=(ak.int .i64)) [v9] [(0,_,D.int .i64 v9,[D.int .i64 v9])] fM rfl rfl rfl ⟨rfl,rfl,.one rfl,rfl,trivial⟩ ⟨rfl,trivial⟩ rfl rfl<|.yU (ys:=[v9]) rfl .sl rfl (.refl _) rfl fM rfl k118.1 k118.2 rfl<|.aq rfl<|.nil) rfl (fun _ _ hs=>⟨(v117,(v11++[v9])),(Option.some.inj h).symm,hs.nE (fun r=>match r with|2000007=>154|3000017=>4000017|r=>r) ⟨⟨_,rfl,.own (r:=17)⟩,⟨_,rfl,.refl rfl⟩,⟨_,rfl,.own (r:=2000007)⟩,⟨_,rfl,.refl rfl⟩,trivial⟩ ⟨⟨_,rfl,.cl (s:=3000017)⟩,⟨_,rfl,.refl rfl⟩,⟨_,rfl,.refl rfl⟩,trivial⟩ rfl rfl rfl⟩)
    ·rintro⟨v119,v120⟩ rfl
     try dsimp only
     refine .region (.mv rfl<|.ar rfl rfl rfl<|.aq rfl<|.nil) rfl (fun _ _ hs=>⟨((IntKind.i64.wrap (v9+1)),v119,v120),(Option.some.inj h).symm,hs.sub (.of rfl) (.of rfl) rfl rfl⟩)
   ·replace h:=ab c17 h
    refine .ck rfl c17 ?_
    refine .exit (fun a w hs=>⟨_,(Option.some.inj h).symm,fun e=>by subst e;have h:=ho2;exact aZ (⟨(v10,v11),(Option.some.inj h).symm,hs.sub ⟨⟨_,rfl,.sl⟩,⟨_,rfl,.sl⟩,trivial⟩ (.of rfl) rfl rfl⟩)⟩)
  ·replace h:=ab c16 h
   refine .al (.mv rfl<|.mv rfl<|.cm rfl rfl rfl<|.mv rfl<|.aT rfl rfl rfl c16<|.aT rfl rfl rfl c16<|.aT rfl rfl rfl c16<|.aT rfl rfl rfl c16<|.aT rfl rfl rfl c16<|.bm rfl c16 rfl<|.nil) rfl ?_
   refine .ck rfl (by decide) ?_
   refine .exit (fun a w hs=>⟨_,(Option.some.inj h).symm,fun e=>by subst e;have h:=ho2;exact aZ (⟨(v10,v11),(Option.some.inj h).symm,hs.sub ⟨⟨_,rfl,.sl⟩,⟨_,rfl,.sl⟩,trivial⟩ (.of rfl) rfl rfl⟩)⟩)
 ·rintro⟨v123,v124⟩ rfl
  try dsimp only
  refine .kj 4 rfl rfl rfl ?_
  refine .sl 7 rfl rfl rfl ?_
  refine .al (.mv rfl<|.mv rfl<|.aq rfl<|.aq rfl<|.nil) rfl ?_
  refine .rJ 2 (.own 17) rfl .sl ?_
  refine .vW 2 rfl rfl rfl rfl rfl ?_
  refine .rJ 3 (.own 2000007) rfl .sl ?_
  refine .kJ 3 rfl rfl rfl ?_
  cases h
  refine .aH (fun _ _ hb=>hb) rfl (.cons (.tmp rfl) (.cons (.tmp rfl) .nil)) (.refl _) trivial trivial
def ke(a1:List Int)(a2:Int)(v5:Int):Option (St Int (Ex Unit Int)):=(if(decide (v5<(a1.length:Int)))=true then(ix a1 v5).bind fun v11=>(if(v11==a2)=true then some (St.done (Ex.ret v5))else some (St.next (IntKind.i64.wrap (v5+1))))else some (St.done (Ex.da ())))
def mV(a1:List Int)(a2:Int):Option Int:=((Loop (fun(s:Int)=>ke a1 a2 s) 0).bind fun o6=>(match o6 with|Ex.da ()=>some (Ex.da ())|Ex.ret r14=>some (Ex.ret r14))).bind fun o3=>(match o3 with|Ex.da ()=>some (-1)|Ex.ret r15=>some r15)
theorem yw{a1:List Int}{a2:Int}{r16:Int}(h:mV a1 a2=some r16):aS PP 207 [] [ag (ak.int .i64) a1,D.int .i64 a2] [] (D.int .i64 r16):=by
 unfold mV at h
 refine .of Go.Proofs.Tryz.func207 rfl (by kernel_rfl) rfl rfl rfl rfl rfl rfl (fun A w0 L b=>?_)
 show Ok PP _ [(0,ag (ak.int .i64) a1),(1,D.int .i64 a2)] [] _ _
 refine .al (.aq rfl<|.nil) rfl ?_
 obtain⟨o3,hp4,h⟩:=bind_some h
 refine .cd (fun i=>o3=Ex.da i) (fun(i:Unit)=>[]) (fun(i:Unit)=>[]) ?_ ?_
 ·have ho1:=h
  clear h
  have h:=hp4
  clear hp4
  refine .al (.aq rfl<|.nil) rfl ?_
  obtain⟨o6,hl7,h⟩:=bind_some h
  have ho2:=h
  clear h
  refine .block (.b8 (fun(s:Int)=>[(0,ag (ak.int .i64) a1),(1,D.int .i64 a2),(5,D.int .i64 s)]) (fun(s:Int)=>[]) hl7 (.of rfl) trivial rfl rfl ?_)
  rintro v5 st8 hb9
  have h:ke a1 a2 v5=some st8:=hb9
  clear hb9
  unfold ke at h
  try dsimp only
  refine .sq ?_
  refine .al (.mv rfl<|.mv rfl<|.ep rfl ba<|.cm rfl rfl rfl<|.nil) rfl ?_
  by_cases c10:(decide (v5<(a1.length:Int)))=true
  ·replace h:=aa c10 h
   refine .cj rfl c10 ?_
   refine .skip (Ok.on ?_)
   refine .sq ?_
   refine .block ?_
   obtain⟨v11,e12,h⟩:=bind_some h
   refine .al (.mv rfl<|.mv rfl<|.ko rfl rfl cy (af e12).1 (af e12).2<|.gC rfl cB<|.mv rfl<|.cm rfl rfl rfl<|.nil) rfl ?_
   by_cases c13:(v11==a2)=true
   ·replace h:=aa c13 h
    refine .cj rfl c13 ?_
    refine .al (.mv rfl<|.aq rfl<|.nil) rfl ?_
    refine .aH (Hi:=[]) (Ho:=[]) (b:=b) (fn:=Go.Proofs.Tryz.f207) (d:=D.int .i64 v5) (fun _ _ hb=>by exact⟨_,(Option.some.inj h).symm,fun e=>by subst e;have h:=ho2;cases h;have h:=ho1;cases h;exact hb⟩) rfl (.cons (.tmp rfl) .nil) (.refl _) trivial trivial
   ·replace h:=ab c13 h
    refine .ck rfl c13 ?_
    refine .skip (Ok.on ?_)
    refine .region (.mv rfl<|.ar rfl rfl rfl<|.aq rfl<|.nil) rfl (fun _ _ hs=>⟨(IntKind.i64.wrap (v5+1)),(Option.some.inj h).symm,hs.sub (.of rfl) trivial rfl rfl⟩)
  ·replace h:=ab c10 h
   refine .ck rfl c10 ?_
   refine .exit (fun a w hs=>⟨_,(Option.some.inj h).symm,fun e=>by subst e;have h:=ho2;exact aZ (⟨(),(Option.some.inj h).symm,hs.sub trivial trivial rfl rfl⟩)⟩)
 ·rintro⟨⟩ rfl
  try dsimp only
  refine .al (.aq rfl<|.nil) rfl ?_
  cases h
  refine .aH (fun _ _ hb=>hb) rfl (.cons (.tmp rfl) .nil) (.refl _) trivial trivial
def fu(a1:List (List Rat))(a2:List Rat)(v8:Int)(v9:List (List Rat)):Option (St (Int×(List (List Rat))) (List (List Rat))):=(if(decide (v8<(a1.length:Int)))=true then(ix a1 v8).bind fun v15=>bZ (v15.length*64<=140737488355328/\v15.length<=9223372036854775807) ((ix a2 v8).bind fun v18=>bZ ((v15.length+([v18]).length)*64<=140737488355328/\v15.length+([v18]).length<=9223372036854775807) (bZ ((v9.length+1)*24<=140737488355328/\v9.length+1<=9223372036854775807) (some (St.next ((IntKind.i64.wrap (v8+1)),(v9++[(v15++[v18])]))))))else some (St.done v9))
def jP(v3:Int)(v24:List (List Rat))(v25:List Int)(v33:Int)(v34:List Rat):Option (St (Int×(List Rat)) (List Rat)):=(if(decide (v33<(v25.length:Int)))=true then(ix v25 v33).bind fun v40=>(ix v24 v33).bind fun v42=>(ix v42 v3).bind fun v44=>(ix v34 v40).bind fun v46=>some (St.next ((IntKind.i64.wrap (v33+1)),(v34.set v40.toNat v44)))else some (St.done v34))
def jN(v24:List (List Rat))(v25:List Int)(v52:Int)(v71:Int)(v72:List Rat):Option (St (Int×(List Rat)) (List Rat)):=(if(decide (v71<(v25.length:Int)))=true then(ix v25 v71).bind fun v78=>(ix v24 v71).bind fun v80=>(ix v80 v52).bind fun v82=>(vP v82).bind fun v84=>(ix v72 v78).bind fun v86=>some (St.next ((IntKind.i64.wrap (v71+1)),(v72.set v78.toNat v84)))else some (St.done v72))
def gm(v3:Int)(v24:List (List Rat))(v25:List Int)(v52:Int)(v53:List (List Rat)):Option (St (Int×(List (List Rat))) (List (List Rat))):=(if(decide (v52<v3))=true then((mV v25 v52).bind fun v61=>(if(decide (v61>=0))=true then some (v53)else bZ ((0:Int)<=v3/\(64:Int)*v3<=281474976710656/\(v3:Int)<=9223372036854775807) ((gz 1).bind fun v65=>(ix (List.replicate v3.toNat (0:Rat)) v52).bind fun v67=>((Loop (fun(s:Int×(List Rat))=>jN v24 v25 v52 s.1 s.2) (0,((List.replicate v3.toNat (0:Rat)).set v52.toNat v65))).bind fun v88=>some (v88)).bind fun v89=>bZ ((v53.length+1)*24<=140737488355328/\v53.length+1<=9223372036854775807) (some ((v53++[v89])))))).bind fun v91=>some (St.next ((IntKind.i64.wrap (v52+1)),v91))else some (St.done v53))
def ja(a1:List (List Rat))(a2:List Rat):Option ((List Rat)×(List (List Rat))×Bool):=(iU a1).bind fun(v3,v4)=>((Loop (fun(s:Int×(List (List Rat)))=>fu a1 a2 s.1 s.2) (0,([]:List (List Rat)))).bind fun v22=>some (v22)).bind fun v23=>(j0 v23).bind fun(v24,v25)=>(mV v25 v3).bind fun v27=>(if(decide (v27>=0))=true then some ([],[],false)else bZ ((0:Int)<=v3/\(64:Int)*v3<=281474976710656/\(v3:Int)<=9223372036854775807) (((Loop (fun(s:Int×(List Rat))=>jP v3 v24 v25 s.1 s.2) (0,(List.replicate v3.toNat (0:Rat)))).bind fun v48=>some (v48)).bind fun v49=>((Loop (fun(s:Int×(List (List Rat)))=>gm v3 v24 v25 s.1 s.2) (0,([]:List (List Rat)))).bind fun v92=>some (v92)).bind fun v93=>some (v49,v93,true)))
theorem y5{a1:List (List Rat)}{a2:List Rat}{r94:List Rat}{r95:List (List Rat)}{r96:Bool}(h:ja a1 a2=some (r94,r95,r96)):aS PP 128 [] [ag (ak.slice ak.rq) a1,ag ak.rq a2] [] (D.iC [ag ak.rq r94,ag (ak.slice ak.rq) r95,D.bool r96]):=by
 unfold ja at h
 refine .of Go.Proofs.Tryz.func128 rfl (by kernel_rfl) rfl rfl rfl rfl rfl rfl (fun A w0 L b=>?_)
 show Ok PP _ [(0,ag (ak.slice ak.rq) a1),(1,ag ak.rq a2)] [] _ _
 refine .al (.aq rfl<|.aq rfl<|.aq rfl<|.nil) rfl ?_
 obtain⟨⟨v3,v4⟩,e5,h⟩:=bind_some h
 refine .al (.mv rfl<|.ah (pA e5) ⟨rfl,trivial⟩ trivial trivial<|.mv rfl<|.ext rfl rfl<|.ext rfl rfl<|.aq rfl<|.aq rfl<|.nil) rfl ?_
 refine .al (.aq rfl<|.nil) rfl ?_
 obtain⟨v23,hp7,h⟩:=bind_some h
 refine .cd (fun i=>v23=i) (fun(i:(List (List Rat)))=>[(7,D.int .i64 v3),(9,D.own 2000009)]) (fun(i:(List (List Rat)))=>[(2000009,Hp.cl ak.rq 69 4000009 ([])),(4000009,Hp.store ak.rq 37 i)]) ?_ ?_
 ·have ho1:=h
  clear h
  have h:=hp7
  clear hp7
  refine .al (.aq rfl<|.nil) rfl ?_
  refine .z8 ak.rq 9 2000009 4000009 69 37 rfl rfl rfl rfl ?_
  obtain⟨o10,hl11,h⟩:=bind_some h
  have ho2:=h
  clear h
  refine .block (.b8 (fun(s:Int×(List (List Rat)))=>[(0,ag (ak.slice ak.rq) a1),(1,ag ak.rq a2),(7,D.int .i64 v3),(9,D.own 2000009),(10,D.int .i64 s.1)]) (fun(s:Int×(List (List Rat)))=>[(2000009,Hp.cl ak.rq 69 4000009 ([])),(4000009,Hp.store ak.rq 37 s.2)]) hl11 (.of rfl) (.of rfl) rfl rfl ?_)
  rintro⟨v8,v9⟩ st12 hb13
  have h:fu a1 a2 v8 v9=some st12:=hb13
  clear hb13
  unfold fu at h
  try dsimp only
  refine .sq ?_
  refine .al (.mv rfl<|.mv rfl<|.ep rfl b9<|.cm rfl rfl rfl<|.nil) rfl ?_
  by_cases c14:(decide (v8<(a1.length:Int)))=true
  ·replace h:=aa c14 h
   refine .cj rfl c14 ?_
   refine .skip (Ok.on ?_)
   refine .sq ?_
   refine .block ?_
   refine .kj 9 rfl rfl rfl ?_
   obtain⟨v15,e16,h⟩:=bind_some h
   obtain⟨k17,h⟩:=aw h
   obtain⟨v18,e19,h⟩:=bind_some h
   obtain⟨k20,h⟩:=aw h
   obtain⟨k21,h⟩:=aw h
   refine .c_ cg (.mv rfl<|.mv rfl<|.mv rfl<|.ko rfl rfl aY (af e16).1 (af e16).2<|.gC rfl bb<|.GM (r':=5000035) (e:=ak.rq) (ys:=v15) rfl rfl (.refl _) cY rfl k17.1 k17.2 rfl rfl (by decide)<|.mv rfl<|.mv rfl<|.ko rfl rfl bE (af e19).1 (af e19).2<|.EW (l:=lU (v18)) rfl ao rfl<|.zP (e:=ak.rq) [v18] [(0,_,p8 v18,lU (v18))] cY rfl rfl rfl ⟨rfl,rfl,.agg _,rfl,trivial⟩ ⟨rfl,trivial⟩ rfl rfl<|.yU (ys:=[v18]) rfl (.refl _) rfl (.refl _) rfl cY rfl k20.1 k20.2 rfl<|.Fv rfl cK rfl<|.FH (s2:=3000043) rfl .sl rfl rfl rfl rfl rfl cK k21.1 k21.2 rfl rfl ⟨by decide,by decide,by decide,by decide,by decide,by decide,by decide⟩<|.aq rfl<|.nil) rfl (by kernel_rfl) (Ok.on ?_)
   refine .region (.mv rfl<|.ar rfl rfl rfl<|.aq rfl<|.nil) rfl (fun _ _ hs=>⟨((IntKind.i64.wrap (v8+1)),(v9++[(v15++[v18])])),(Option.some.inj h).symm,hs.nE (fun r=>match r with|2000009=>43|4000009=>3000043|r=>r) ⟨⟨_,rfl,.refl rfl⟩,⟨_,rfl,.refl rfl⟩,⟨_,rfl,.refl rfl⟩,⟨_,rfl,.own (r:=2000009)⟩,⟨_,rfl,.refl rfl⟩,trivial⟩ ⟨⟨_,rfl,.cl (s:=4000009)⟩,⟨_,rfl,.refl rfl⟩,trivial⟩ rfl rfl rfl⟩)
  ·replace h:=ab c14 h
   refine .ck rfl c14 ?_
   refine .exit (fun a w hs=>⟨_,(Option.some.inj h).symm,fun e=>by subst e;have h:=ho2;exact aZ (⟨v9,(Option.some.inj h).symm,hs.sub (.of rfl) (.of rfl) rfl rfl⟩)⟩)
 ·rintro _ rfl
  try dsimp only
  refine .kj 9 rfl rfl rfl ?_
  refine .rJ 9 (.own 2000009) rfl .sl ?_
  refine .vW 9 rfl rfl rfl rfl rfl ?_
  obtain⟨⟨v24,v25⟩,e26,h⟩:=bind_some h
  refine .al (.mv rfl<|.ah (v_ e26) ⟨rfl,trivial⟩ trivial trivial<|.mv rfl<|.ext rfl rfl<|.ext rfl rfl<|.aq rfl<|.aq rfl<|.nil) rfl ?_
  refine .sq ?_
  obtain⟨v27,e28,h⟩:=bind_some h
  refine .al (.mv rfl<|.mv rfl<|.ah (yw e28) ⟨rfl,rfl,trivial⟩ trivial trivial<|.cm rfl rfl rfl<|.nil) rfl ?_
  by_cases c29:(decide (v27>=0))=true
  ·replace h:=aa c29 h
   refine .cj rfl c29 ?_
   refine .al (.aq rfl<|.aq rfl<|.aq rfl<|.nil) rfl ?_
   cases h
   refine .aH (fun _ _ hb=>hb) rfl (.cons (.tmp rfl) (.cons (.tmp rfl) (.cons (.tmp rfl) .nil))) (.iC ⟨.jJ _,.jJ _,.refl _,trivial⟩) trivial trivial
  ·replace h:=ab c29 h
   refine .ck rfl c29 ?_
   refine .skip (Ok.on ?_)
   obtain⟨k30,h⟩:=aw h
   refine .al (.mv rfl<|.Fj (e:=ak.rq) 0 rfl rfl cY rfl ⟨DW,DO,.refl _,DL,trivial⟩ k30.1 k30.2.1 k30.2.2 rfl<|.aq rfl<|.nil) rfl ?_
   obtain⟨v49,hp32,h⟩:=bind_some h
   refine .cd (fun i=>v49=i) (fun(i:(List Rat))=>[(7,D.int .i64 v3),(11,ag (ak.slice ak.rq) v24),(12,ag (ak.int .i64) v25),(13,D.own 54)]) (fun(i:(List Rat))=>[(54,a_ ak.rq 37 i)]) ?_ ?_
   ·have ho1:=h
    clear h
    have h:=hp32
    clear hp32
    refine .al (.aq rfl<|.nil) rfl ?_
    obtain⟨o35,hl36,h⟩:=bind_some h
    have ho2:=h
    clear h
    refine .block (.b8 (fun(s:Int×(List Rat))=>[(7,D.int .i64 v3),(11,ag (ak.slice ak.rq) v24),(12,ag (ak.int .i64) v25),(13,D.own 54),(14,D.int .i64 s.1)]) (fun(s:Int×(List Rat))=>[(54,a_ ak.rq 37 s.2)]) hl36 (.of rfl) (.of rfl) rfl rfl ?_)
    rintro⟨v33,v34⟩ st37 hb38
    have h:jP v3 v24 v25 v33 v34=some st37:=hb38
    clear hb38
    unfold jP at h
    try dsimp only
    refine .sq ?_
    refine .al (.mv rfl<|.mv rfl<|.ep rfl ba<|.cm rfl rfl rfl<|.nil) rfl ?_
    by_cases c39:(decide (v33<(v25.length:Int)))=true
    ·replace h:=aa c39 h
     refine .cj rfl c39 ?_
     refine .skip (Ok.on ?_)
     refine .sq ?_
     refine .block ?_
     refine .sl 13 rfl rfl rfl ?_
     obtain⟨v40,e41,h⟩:=bind_some h
     obtain⟨v42,e43,h⟩:=bind_some h
     obtain⟨v44,e45,h⟩:=bind_some h
     obtain⟨v46,e47,h⟩:=bind_some h
     refine .c_ cg (.mv rfl<|.mv rfl<|.mv rfl<|.ko rfl rfl cy (af e41).1 (af e41).2<|.gC rfl cB<|.mv rfl<|.mv rfl<|.ko rfl rfl aY (af e43).1 (af e43).2<|.gC rfl bb<|.mv rfl<|.ko rfl rfl bE (af e45).1 (af e45).2<|.EW (l:=lU (v44)) rfl ao rfl<|.oH rfl rfl bE (af e47).1 (by have:=aW e47;have:=(af e47).1;(try simp only[List.length_set]at*);omega)<|.zM v44 rfl rfl rfl ao rfl rfl rfl (aW e47)<|.nil) rfl (by kernel_rfl) (Ok.on ?_)
     refine .region (.mv rfl<|.ar rfl rfl rfl<|.aq rfl<|.nil) rfl (fun _ _ hs=>⟨((IntKind.i64.wrap (v33+1)),(v34.set v40.toNat v44)),(Option.some.inj h).symm,hs.sub ⟨⟨_,rfl,.refl _⟩,⟨_,rfl,.refl _⟩,⟨_,rfl,.refl _⟩,⟨_,rfl,.sl⟩,⟨_,rfl,.refl _⟩,trivial⟩ (.of rfl) rfl rfl⟩)
    ·replace h:=ab c39 h
     refine .ck rfl c39 ?_
     refine .exit (fun a w hs=>⟨_,(Option.some.inj h).symm,fun e=>by subst e;have h:=ho2;exact aZ (⟨v34,(Option.some.inj h).symm,hs.sub (.of rfl) (.of rfl) rfl rfl⟩)⟩)
   ·rintro _ rfl
    try dsimp only
    refine .al (.aq rfl<|.nil) rfl ?_
    obtain⟨v93,hp51,h⟩:=bind_some h
    refine .cd (fun i=>v93=i) (fun(i:(List (List Rat)))=>[(13,D.own 54),(15,D.own 2000015)]) (fun(i:(List (List Rat)))=>[(54,a_ ak.rq 37 v49),(2000015,Hp.cl ak.rq 69 4000015 ([])),(4000015,Hp.store ak.rq 37 i)]) ?_ ?_
    ·have ho1:=h
     clear h
     have h:=hp51
     clear hp51
     refine .al (.aq rfl<|.nil) rfl ?_
     refine .z8 ak.rq 15 2000015 4000015 69 37 rfl rfl rfl rfl ?_
     obtain⟨o54,hl55,h⟩:=bind_some h
     have ho2:=h
     clear h
     refine .block (.b8 (fun(s:Int×(List (List Rat)))=>[(7,D.int .i64 v3),(11,ag (ak.slice ak.rq) v24),(12,ag (ak.int .i64) v25),(13,D.own 54),(15,D.own 2000015),(16,D.int .i64 s.1)]) (fun(s:Int×(List (List Rat)))=>[(54,a_ ak.rq 37 v49),(2000015,Hp.cl ak.rq 69 4000015 ([])),(4000015,Hp.store ak.rq 37 s.2)]) hl55 (.of rfl) (.of rfl) rfl rfl ?_)
     rintro⟨v52,v53⟩ st56 hb57
     have h:gm v3 v24 v25 v52 v53=some st56:=hb57
     clear hb57
     unfold gm at h
     try dsimp only
     refine .sq ?_
     refine .al (.mv rfl<|.mv rfl<|.cm rfl rfl rfl<|.nil) rfl ?_
     by_cases c58:(decide (v52<v3))=true
     ·replace h:=aa c58 h
      refine .cj rfl c58 ?_
      refine .skip (Ok.on ?_)
      obtain⟨v91,hp60,h⟩:=bind_some h
      refine .cd (fun i=>v91=i) (fun(i:(List (List Rat)))=>[(7,D.int .i64 v3),(11,ag (ak.slice ak.rq) v24),(12,ag (ak.int .i64) v25),(13,D.own 54),(15,D.own 2000015),(16,D.int .i64 v52)]) (fun(i:(List (List Rat)))=>[(54,a_ ak.rq 37 v49),(2000015,Hp.cl ak.rq 69 4000015 ([])),(4000015,Hp.store ak.rq 37 i)]) ?_ ?_
      ·have ho3:=h
       clear h
       have h:=hp60
       clear hp60
       refine .block ?_
       refine .sq ?_
       obtain⟨v61,e62,h⟩:=bind_some h
       refine .al (.mv rfl<|.mv rfl<|.ah (yw e62) ⟨rfl,rfl,trivial⟩ trivial trivial<|.cm rfl rfl rfl<|.nil) rfl ?_
       by_cases c63:(decide (v61>=0))=true
       ·replace h:=aa c63 h
        refine .cj rfl c63 ?_
        refine .exit (fun _ _ hs=>⟨v53,(Option.some.inj h).symm,hs.sub (.of rfl) (.of rfl) rfl rfl⟩)
       ·replace h:=ab c63 h
        refine .ck rfl c63 ?_
        refine .skip (Ok.on ?_)
        obtain⟨k64,h⟩:=aw h
        refine .al (.mv rfl<|.Fj (e:=ak.rq) 0 rfl rfl cY rfl ⟨DW,DO,.refl _,DL,trivial⟩ k64.1 k64.2.1 k64.2.2 rfl<|.aq rfl<|.nil) rfl ?_
        refine .sl 17 rfl rfl rfl ?_
        obtain⟨v65,e66,h⟩:=bind_some h
        obtain⟨v67,e68,h⟩:=bind_some h
        refine .al (.mv rfl<|.mv rfl<|.ah (DE e66) ⟨rfl,trivial⟩ trivial trivial<|.oH rfl rfl bE (af e68).1 (by have:=aW e68;have:=(af e68).1;(try simp only[List.length_set]at*);omega)<|.zM v65 rfl rfl rfl ao rfl rfl rfl (aW e68)<|.nil) rfl ?_
        obtain⟨v89,hp70,h⟩:=bind_some h
        refine .cd (fun i=>v89=i) (fun(i:(List Rat))=>[(7,D.int .i64 v3),(11,ag (ak.slice ak.rq) v24),(12,ag (ak.int .i64) v25),(13,D.own 54),(15,D.own 2000015),(16,D.int .i64 v52),(17,D.own 84)]) (fun(i:(List Rat))=>[(54,a_ ak.rq 37 v49),(2000015,Hp.cl ak.rq 69 4000015 ([])),(4000015,Hp.store ak.rq 37 v53),(84,a_ ak.rq 37 i)]) ?_ ?_
        ·have ho4:=h
         clear h
         have h:=hp70
         clear hp70
         refine .al (.aq rfl<|.nil) rfl ?_
         obtain⟨o73,hl74,h⟩:=bind_some h
         have ho5:=h
         clear h
         refine .block (.b8 (fun(s:Int×(List Rat))=>[(7,D.int .i64 v3),(11,ag (ak.slice ak.rq) v24),(12,ag (ak.int .i64) v25),(13,D.own 54),(15,D.own 2000015),(16,D.int .i64 v52),(17,D.own 84),(18,D.int .i64 s.1)]) (fun(s:Int×(List Rat))=>[(54,a_ ak.rq 37 v49),(2000015,Hp.cl ak.rq 69 4000015 ([])),(4000015,Hp.store ak.rq 37 v53),(84,a_ ak.rq 37 s.2)]) hl74 ⟨⟨_,rfl,.refl _⟩,⟨_,rfl,.refl _⟩,⟨_,rfl,.refl _⟩,⟨_,rfl,.refl _⟩,⟨_,rfl,.refl _⟩,⟨_,rfl,.refl _⟩,⟨_,rfl,.sl⟩,⟨_,rfl,.refl _⟩,trivial⟩ (.of rfl) rfl rfl ?_)
         rintro⟨v71,v72⟩ st75 hb76
         have h:jN v24 v25 v52 v71 v72=some st75:=hb76
         clear hb76
         unfold jN at h
         try dsimp only
         refine .sq ?_
         refine .al (.mv rfl<|.mv rfl<|.ep rfl ba<|.cm rfl rfl rfl<|.nil) rfl ?_
         by_cases c77:(decide (v71<(v25.length:Int)))=true
         ·replace h:=aa c77 h
          refine .cj rfl c77 ?_
          refine .skip (Ok.on ?_)
          refine .sq ?_
          refine .block ?_
          refine .sl 17 rfl rfl rfl ?_
          obtain⟨v78,e79,h⟩:=bind_some h
          obtain⟨v80,e81,h⟩:=bind_some h
          obtain⟨v82,e83,h⟩:=bind_some h
          obtain⟨v84,e85,h⟩:=bind_some h
          obtain⟨v86,e87,h⟩:=bind_some h
          refine .c_ cg (.mv rfl<|.mv rfl<|.mv rfl<|.ko rfl rfl cy (af e79).1 (af e79).2<|.gC rfl cB<|.mv rfl<|.mv rfl<|.ko rfl rfl aY (af e81).1 (af e81).2<|.gC rfl bb<|.mv rfl<|.ko rfl rfl bE (af e83).1 (af e83).2<|.EW (l:=lU (v82)) rfl ao rfl<|.ah (FD e85) ⟨rfl,trivial⟩ trivial trivial<|.oH rfl rfl bE (af e87).1 (by have:=aW e87;have:=(af e87).1;(try simp only[List.length_set]at*);omega)<|.zM v84 rfl rfl rfl ao rfl rfl rfl (aW e87)<|.nil) rfl (by kernel_rfl) (Ok.on ?_)
          refine .region (.mv rfl<|.ar rfl rfl rfl<|.aq rfl<|.nil) rfl (fun _ _ hs=>⟨((IntKind.i64.wrap (v71+1)),(v72.set v78.toNat v84)),(Option.some.inj h).symm,hs.sub ⟨⟨_,rfl,.refl _⟩,⟨_,rfl,.refl _⟩,⟨_,rfl,.refl _⟩,⟨_,rfl,.refl _⟩,⟨_,rfl,.refl _⟩,⟨_,rfl,.refl _⟩,⟨_,rfl,.sl⟩,⟨_,rfl,.refl _⟩,trivial⟩ (.of rfl) rfl rfl⟩)
         ·replace h:=ab c77 h
          refine .ck rfl c77 ?_
          refine .exit (fun a w hs=>⟨_,(Option.some.inj h).symm,fun e=>by subst e;have h:=ho5;exact aZ (⟨v72,(Option.some.inj h).symm,hs.sub (.of rfl) (.of rfl) rfl rfl⟩)⟩)
        ·rintro _ rfl
         try dsimp only
         refine .kj 15 rfl rfl rfl ?_
         refine .sl 17 rfl rfl rfl ?_
         refine .rJ 17 (.own 84) rfl .sl ?_
         obtain⟨k90,h⟩:=aw h
         refine .region (.mv rfl<|.mv rfl<|.Fv rfl cK rfl<|.FH (s2:=3000112) rfl .sl rfl rfl rfl rfl rfl cK k90.1 k90.2 rfl rfl ⟨by decide,by decide,by decide,by decide,by decide,by decide,by decide⟩<|.aq rfl<|.nil) rfl (fun _ _ hs=>⟨(v53++[v89]),(Option.some.inj h).symm,hs.nE (fun r=>match r with|2000015=>112|4000015=>3000112|r=>r) ⟨⟨_,rfl,.refl rfl⟩,⟨_,rfl,.refl rfl⟩,⟨_,rfl,.refl rfl⟩,⟨_,rfl,.own (r:=54)⟩,⟨_,rfl,.own (r:=2000015)⟩,⟨_,rfl,.refl rfl⟩,trivial⟩ ⟨⟨_,rfl,.refl rfl⟩,⟨_,rfl,.cl (s:=4000015)⟩,⟨_,rfl,.refl rfl⟩,trivial⟩ rfl rfl rfl⟩)
      ·rintro _ rfl
       try dsimp only
       refine .region (.mv rfl<|.ar rfl rfl rfl<|.aq rfl<|.nil) rfl (fun _ _ hs=>⟨((IntKind.i64.wrap (v52+1)),v91),(Option.some.inj h).symm,hs.sub (.of rfl) (.of rfl) rfl rfl⟩)
     ·replace h:=ab c58 h
      refine .ck rfl c58 ?_
      refine .exit (fun a w hs=>⟨_,(Option.some.inj h).symm,fun e=>by subst e;have h:=ho2;exact aZ (⟨v53,(Option.some.inj h).symm,hs.sub (.of rfl) (.of rfl) rfl rfl⟩)⟩)
    ·rintro _ rfl
     try dsimp only
     refine .sl 13 rfl rfl rfl ?_
     refine .kj 15 rfl rfl rfl ?_
     refine .al (.mv rfl<|.mv rfl<|.aq rfl<|.aq rfl<|.aq rfl<|.nil) rfl ?_
     refine .rJ 4 (.own 54) rfl .sl ?_
     refine .kJ 4 rfl rfl rfl ?_
     refine .rJ 5 (.own 2000015) rfl .sl ?_
     refine .vW 5 rfl rfl rfl rfl rfl ?_
     cases h
     refine .aH (fun _ _ hb=>hb) rfl (.cons (.tmp rfl) (.cons (.tmp rfl) (.cons (.tmp rfl) .nil))) (.refl _) trivial trivial
end
end Go.Am
namespace Go.Am
open Go.RowKit
set_option maxRecDepth 100000
def kn{α:Type}(xs:List α):Option (List α):=bZ (xs.length<=1000000000) (some xs)
theorem vy{xs r:List Rat}(h:kn xs=some r):zi PP 204 [ag ak.rat xs] ak.rat.n 28 (flat ak.rat r):=by
 obtain⟨ha,h⟩:=aw h
 cases h
 refine .of (hl:=dM _ _) Go.Proofs.Tryz.func204 rfl (by kernel_rfl) rfl rfl (fun A w0=>?_)
 refine .al (.aq rfl<|.nil) rfl (.sq ?_)
 refine .al (.mv rfl<|.Gm dp rfl rfl<|.nil) rfl ?_
 refine .cQ rfl (fun h=>?_) (.skip (Ok.on ?_))
 ·have ha0:xs=[]:=List.eq_nil_of_length_eq_zero h
  subst ha0
  refine .al (.aq rfl<|.nil) rfl ?_
  refine .uu 2 2 3 28 rfl rfl ?_
  exact .yQ (fun _ _ h=>h) rfl rfl rfl
 ·refine .al (.F2 fh rfl<|.mv rfl<|.F6 (n1:=0) rfl rfl rfl fh rfl (by omega) (by omega) rfl<|.aq rfl<|.nil) rfl ?_
  exact .yQ (fun _ _ h=>h) rfl rfl rfl
theorem B5{xs r:List (List Rat)}(h:kn xs=some r):zi PP 235 [ag (ak.slice ak.rat) xs] (ak.slice ak.rat).n 68 (flat (ak.slice ak.rat) r):=by
 obtain⟨ha,h⟩:=aw h
 cases h
 refine .of (hl:=dM _ _) Go.Proofs.Tryz.func235 rfl (by kernel_rfl) rfl rfl (fun A w0=>?_)
 refine .al (.aq rfl<|.nil) rfl (.sq ?_)
 refine .al (.mv rfl<|.Gm bN rfl rfl<|.nil) rfl ?_
 refine .cQ rfl (fun h=>?_) (.skip (Ok.on ?_))
 ·have ha0:xs=[]:=List.eq_nil_of_length_eq_zero h
  subst ha0
  refine .al (.aq rfl<|.nil) rfl ?_
  refine .uu 2 2 1 68 rfl rfl ?_
  exact .yQ (fun _ _ h=>h) rfl rfl rfl
 ·refine .al (.F2 eO rfl<|.mv rfl<|.F6 (n1:=0) rfl rfl rfl eO rfl (by omega) (by omega) rfl<|.aq rfl<|.nil) rfl ?_
  exact .yQ (fun _ _ h=>h) rfl rfl rfl
end Go.Am
namespace Go.Am
open Go.RowKit
section
variable {P:Program} {os:List Oper} {c:Ctx} {T T':List (Nat×D)} {H H':List (Nat×Hp)} {sps:List Spec}
variable {ops:Array Oper} {dst:Option Nat} {ty:TypeId} {pos:String} {aft:Array Edge}
theorem an.F4{t te:TypeId}{x y:Operand}{r m n:Nat}{l:List D}{k:IntKind}{z:Int}(hx:ev T x=some (.own r))(hy:ev T y=some (.int k z))(hh:ai H r=some (.gG 1 te l))(hl:l.length=n)(ht:sle P t=some m)(h0:0<=z)(h1:z<n)
  (hr:an P ops c os (br T dst (.ref r (z.toNat*m))) H sps T' H'):
  an P ops c (⟨dst,.indexAddr t x y,ty,pos,aft,none⟩::os) T H (BV [(x,.own r),(y,.int k z)] r (.gG 1 te l) (.ref r (z.toNat*m))::sps) T' H':=
 .ask rfl (two hx hy) hh (fun r' hr'=>.inl (by simpa [D.ref]using hr')) (fun ε w S a F ha hp=>by
  have h2:a.eval x=ε r:=(ha (x,.own r) (by simp)).1
  have h3:a.eval y=.int k z:=ha (y,.int k z) (by simp)
  obtain⟨A,cap,hb,hA⟩:=qE (n:=n) (by decide) (by omega) (show ll 1 te l ε w S (ε r) F from hp)
  have hA':=hA (by omega)
  subst hA'
  refine⟨.pointer (some ⟨jF (ε r),z.toNat*m,none⟩),?_,rfl⟩
  generalize jF (ε r)=g at hb
  simp only[execOp,h2,hb,h3,Sem.run_bind,h_ ht g 0 n cap k z h0 h1 w,Result.andThen_ok,Nat.zero_add]
  rfl) hr
end
end Go.Am
