/- Part 5 of 7 of what the laws of layer 1 share: contracts of functions of the program, each for every argument of its description; no condition beyond it. -/
import Derived.Test.YtgnepgenefcnpaaGreatDoorBhD
set_option linter.unusedVariables false
set_option linter.unusedSimpArgs false
namespace Go.Am
open Go.RowKit
theorem pf{z:Array Value}(h:∀u∈z.toList,u.oneCell'=true)(n:Nat):∀u∈(Builtin.zeroCells z n).toList,u.oneCell'=true:=by
 intro u hu;unfold Builtin.zeroCells at hu;rw[Array.toList_map]at hu;obtain⟨j,hj,rfl⟩:=List.mem_map.1 hu;have hj':j<n*z.size:=by simpa using hj
 have hz:0<z.size:=Nat.pos_of_ne_zero fun e=>by rw[e]at hj';simp at hj'
 have hlt:j%z.size<z.size:=Nat.mod_lt _ hz;rw[getElem!_pos z _ hlt];exact h _ (by simp)
theorem Ce{P:Program}(w:World)(t tx ty e:TypeId)(i:TypeInfo)(zv:Value)(k:IntKind)(ht:P.underlying t=some (.slice e))(htx:P.underlying tx=some (.int k))(hi:P.info? e=some i)(hz:i.zero=some zv)(hzs:zv.cells.size=i.size)(h1:∀u∈zv.cells.toList,u.oneCell'=true)(hm0:0<i.size)
  (n:Nat)(hn:(n:Int)<=9223372036854775807)(hb:n*i.bytes<=281474976710656):
  (n=0->(Builtin.append_ #[t,tx] ty #[.slice none 0 0,.int .i64 n]).run P w=.ok (.slice none 0 0) w)/\
  (∀g n' cap (cur:Array Value),w.heap[g]?=some (.cells cur e (0,0))->n'+n<=cap->n'*i.size+n*i.size<=cur.size->(Builtin.append_ #[t,tx] ty #[.slice (some ⟨g,0,none⟩) n' cap,.int .i64 n]).run P w=.ok (.slice (some ⟨g,0,none⟩) (n'+n) cap) (w.setRow g (cur.toList.take (n'*i.size)++(Builtin.zeroCells zv.cells n).toList++cur.toList.drop (n'*i.size+n*i.size)).toArray))/\
  (∀base sLen sCap (olds:List Value),(Builtin.firstCells i.size sLen (.slice base sLen sCap)).run P w.drew=.ok olds.toArray w.drew->sCap<sLen+n->((sLen+n:Nat):Int)<=9223372036854775807->Builtin.nextslicecap (sLen+n) sCap*i.bytes<=281474976710656->
   (Builtin.append_ #[t,tx] ty #[.slice base sLen sCap,.int .i64 n]).run P w=.ok (.slice (some ⟨w.heap.size,0,none⟩) (sLen+n) (grownCap w (sLen+n) sCap e)) (w.drew.alloc (.cells ((olds++(Builtin.zeroCells zv.cells n).toList).toArray++Builtin.zeroCells zv.cells (grownCap w (sLen+n) sCap e-(sLen+n))) e))):=by
 have hw:IntKind.i64.wrap (n:Int)=n:=by rw[IntKind.wrap_i64];omega
 have hneg:¬((n:Int)<0):=by omega
 have h48i:¬(281474976710656<(n:Int)*(i.bytes:Int)):=by
  rw[←Int.natCast_mul];omega
 have hzl:(Builtin.zeroCells zv.cells n).toList.length=n*i.size:=by rw[Array.length_toList,size_zeroCells,hzs]
 have hz1:∀u∈(Builtin.zeroCells zv.cells n).toList,u.oneCell'=true:=pf h1 n;refine⟨fun h0=>?_,fun g n' cap cur hg hroom hfit=>?_,fun base sLen sCap olds hold hg h63 hfit=>?_⟩
 ·subst h0;have hw0:IntKind.i64.wrap 0=0:=by decide
  simp[Builtin.append_,run_underlying ht,run_underlying htx,sizeOf,typeInfo,hi,asInt,asIntOf,hw0]
 ·have hst:=run_storeCells_at P g (n'*i.size) e (Builtin.zeroCells zv.cells n).toList 0 cur w hg (by rw[hzl];simpa using hfit) hz1;simp only[Nat.add_zero,hzl]at hst;by_cases h0:n=0
  ·subst h0;have hs0:(Builtin.zeroCells zv.cells 0).toList=[]:=List.eq_nil_of_length_eq_zero (by simpa using hzl);rw[hs0]at hst|-;have hr:(n'<=cap):=hroom;have hw0:IntKind.i64.wrap 0=0:=by decide
   simp[Builtin.append_,run_underlying ht,run_underlying htx,sizeOf,typeInfo,hi,asInt,asIntOf,hw0,hr,Addr.add_lit]at hst|-;rw[hst];rfl
  ·have hnm:¬(n*i.size=0):=Nat.ne_of_gt (Nat.mul_pos (by omega) hm0);simp[Builtin.append_,run_underlying ht,run_underlying htx,sizeOf,typeInfo,zeroValue,hi,hz,asInt,asIntOf,hw,hneg,h48i,hroom,Addr.add_lit,hnm]at hst|-;rw[hst];rfl
 ·have hn0:n≠0\/n=0:=by omega
  have hnr:¬(sLen+n<=sCap):=by omega
  have h63':¬(9223372036854775807<((sLen:Int)+(n:Int))):=by omega
  have h48':¬(281474976710656<Builtin.nextslicecap (sLen+n) sCap*i.bytes):=by omega
  by_cases h0:n=0
  ·subst h0;have hw0:IntKind.i64.wrap 0=0:=by decide
   have hs0:(Builtin.zeroCells zv.cells 0)=#[]:=by apply Array.eq_empty_of_size_eq_zero;simpa using hzl
   simp[Builtin.append_,run_underlying ht,run_underlying htx,sizeOf,typeInfo,zeroValue,hi,hz,asInt,asIntOf,hw0,Question.forced,hold,newRow,grownCap,hs0]at hnr h63' h48'|-;rw[if_neg (by omega),if_neg (by omega),if_neg (by omega)]
  ·have hnm:¬(n*i.size=0):=Nat.ne_of_gt (Nat.mul_pos (by omega) hm0);simp[Builtin.append_,run_underlying ht,run_underlying htx,sizeOf,typeInfo,zeroValue,hi,hz,asInt,asIntOf,hw,hneg,h48i,hnr,h63',h48',Question.forced,hold,newRow,grownCap,hnm]
   congr 2
   apply Array.ext';simp[List.append_assoc]
section
variable {P:Program} {os:List Oper} {c:Ctx} {T T':List (Nat×D)} {H H':List (Nat×Hp)} {sps:List Spec}
variable {ops:Array Oper} {dst:Option Nat} {ty:TypeId} {pos:String} {aft:Array Edge}
theorem sw{t tx:TypeId}{x y:Operand}{r:Nat}(a:Act)(w w':World){v:Value}(h:(Builtin.append_ #[t,tx] ty #[a.eval x,a.eval y]).run P w=.ok v w'):
  (execOp a.eval ⟨some r,.call {callee:=.builtin .append,args:=#[x,y],argTypes:=#[t,tx]},ty,pos,aft,none⟩).run P w=.ok (.value v) w':=by
 simp only[execOp,resolve,Sem.run_bind,Sem.run_pure,Result.andThen_ok,invoke,builtin,List.map_toArray,List.map_cons,List.map_nil,h]
theorem cS.Jl{α:Type}{e:ak α}{T0:Nat->Option D}{H0:Nat->Option Hp}{a:Act}{w:World}{ε:Env}{φ:Nat->cX}(hs:cS c T0 H0 a w ε φ){t tx te:TypeId}{r1 r bt:Nat}{xs:List α}{zl:List D}{k:Nat}(a0:α)(hh:H0 r1=some (aY e te xs))(hm:nF P t=some (te,e.n,bt,zl))(hk:P.underlying tx=some (.int .i64))(hz:se zl (e.c a0))
  (hb:(xs.length+k)*bt<=140737488355328)(hmax:xs.length+k<=9223372036854775807)(hf:H0 r=none):
  ∃v' w' ε' φ',(Builtin.append_ #[t,tx] ty #[ε r1,.int .i64 k]).run P w=.ok v' w'/\cS c T0 (bu H0 [(r1,.dead),(r,aY e te (xs++List.replicate k a0))]) a w' ε' φ'/\ε' r=v'/\v'.oneCell'=true:=by
 obtain⟨i,v,hu,hinf,hzv,hsz,hbz,ez,hv1,hvs,hm0⟩:=iv hm;have hbk:k*i.bytes<=281474976710656:=by
  rw[hbz];have:k*bt<=(xs.length+k)*bt:=Nat.mul_le_mul_right _ (by omega);omega
 obtain⟨z1,z2,z3⟩:=Ce (P:=P) w t tx ty te i v .i64 hu hk hinf hzv (by rw[hvs,hsz]) hv1 (by omega) k (by omega) hbk;have hzl:(Builtin.zeroCells v.cells k).toList.length=k*e.n:=by rw[Array.length_toList,size_zeroCells,hvs]
 have hall:cr ε w (Am.al c H0 φ) (flat e (List.replicate k a0)) (Builtin.zeroCells v.cells k).toList:=by
  have e1:Builtin.zeroCells v.cells k=madeCells v.cells (k*e.n):=by rw[←hvs];rfl
  rw[e1,fF hvs hm0 k,uy e a0 k];refine(hz.rep k).all ?_;rw[ez];exact gr (jP _ _ _ _) k
 obtain⟨v',w',ε',φ',hrun,hS,ev',ho⟩:=hs.Ja (P:=P) (ty:=ty) (tx:=tx) (x:=.int .i64 k) hm (r:=r) (n2:=k) (hl:=dM e (xs++List.replicate k a0)) hh hf (bK e xs) (by rw[bK,List.length_replicate]) (dM e _) (ob e xs _).symm hzl (pf hv1 k) hall
  z1 (fun g n' cap cur hg hroom hfit=>by have:=z2 g n' cap cur hg hroom (by rw[hsz];rw[hzl]at hfit;exact hfit);rw[hsz]at this;rw[hzl];exact this)
  (fun i' zv' e1 e2 e3 e4 e5 base sLen sCap olds ho hc h63 hfit=>by
   have e6:i'=i:=by rw[hinf]at e2;injection e2 with e2;exact e2.symm
   subst e6;have e7:zv'=v:=by rw[hzv]at e3;injection e3 with e3;exact e3.symm
   subst e7;exact z3 base sLen sCap olds ho hc h63 (by rw[hbz];exact hfit)) hb hmax
 exact⟨v',w',ε',φ',hrun,hS,ev',ho.1⟩
theorem an.Jl{α:Type}{e:ak α}{t tx te:TypeId}{x y:Operand}{r1 r m bt:Nat}{xs:List α}{zl:List D}{dx:D}{n:Int}(a0:α)(hx:ev T x=some dx)(hdx:Le dx (.own r1))(hy:ev T y=some (.int .i64 n))(hh:ah H r1=some (aY e te xs))(hm:nF P t=some (te,m,bt,zl))(hk:P.underlying tx=some (.int .i64))(hmn:m=e.n)(hz:se zl (e.c a0))
  (h0:0<=n)(hb:(xs.length+n.toNat)*bt<=140737488355328)(hmax:xs.length+n.toNat<=9223372036854775807)(hf:ah H r=none)
  (hr:an P ops c os ((r,.own r)::T) ((r1,.dead)::(r,aY e te (xs++List.replicate n.toNat a0))::H) sps T' H'):
  an P ops c (⟨some r,.call {callee:=.builtin .append,args:=#[x,y],argTypes:=#[t,tx]},ty,pos,aft,none⟩::os) T H
   (apps x dx y (.int .i64 n) r1 r [(r1,aY e te xs)] (aY e te (xs++List.replicate n.toNat a0))::sps) T' H':=by
 subst hmn;refine .cons (sp:=apps x dx y (.int .i64 n) r1 r [(r1,aY e te xs)] (aY e te (xs++List.replicate n.toNat a0))) ?_ (bg.2 ⟨(ay hx).1,(ay hy).1⟩) ⟨hh,trivial⟩ ⟨hf,trivial⟩ hr;intro hd T0 H0 hi dw hnew a w ⟨ε,φ,hs⟩ Q K hK;rw[if_pos (bp rfl _)];obtain⟨hi1,hi2⟩:=bg.1 hi;have h1:a.eval x=ε r1:=(hdx.1 _ _ _ _ (hs.ev hi1 (ay hx).2).1).1;have h2:a.eval y=.int .i64 n:=(hs.ev hi2 (ay hy).2).1;obtain⟨k,rfl⟩:∃k:Nat,n=k:=⟨n.toNat,by omega⟩;rw[Int.toNat_natCast]at hb hmax;simp only[Int.toNat_natCast]at hK;obtain⟨v',w',ε',φ',hrun,hS,ev',ho⟩:=hs.Jl (P:=P) (ty:=ty) (r:=r) (k:=k) a0 dw.1 hm hk hz hb hmax hnew.1;have hrun':(Builtin.append_ #[t,tx] ty #[a.eval x,a.eval y]).run P w=.ok v' w':=by rw[h1,h2];exact hrun
 simp only[Oper.wp,sw a w w' hrun',Oper.upon];refine hK _ _ ⟨ε',φ',hS.put (d:=.own r) (du hd) ⟨ev'.symm,ho⟩ (fun r' hr'=>?_)⟩;have:r'=r:=by simpa [D.own]using hr'
 subst this;rw[fY];have hne:r'≠r1:=fun e=>by subst e;have:=dw.1;have h0:=hnew.1;rw[h0]at this;cases this
 rw[aK _ _ hne,au];simp
end
end Go.Am
namespace Go.Am
open Go.RowKit
set_option maxRecDepth 100000
noncomputable section
def ng(v8:Int)(v9:List (List Rat))(v18:Int):Option (St Int Int):=(if(decide (v18<(v9.length:Int)))=true then(ix v9 v18).bind fun v24=>(ix v24 v8).bind fun v26=>(cZ v26).bind fun v28=>(if(v28==0)=true then some (St.next (IntKind.i64.wrap (v18+1)))else some (St.done v18))else some (St.done v18))
def ll(v8:Int)(v54:Int)(v71:Rat)(v73:Int)(v74:List (List Rat)):Option (St (Int×(List (List Rat))) (List (List Rat))):=(if(decide (v73<(v74.length:Int)))=true then(ix v74 v54).bind fun v80=>(ix v74 v54).bind fun v82=>(ix v82 v73).bind fun v84=>(ix v74 v8).bind fun v86=>(ix v86 v73).bind fun v88=>(fp v71 v88).bind fun v90=>(kv v84 v90).bind fun v92=>(ix v80 v73).bind fun v94=>some (St.next ((IntKind.i64.wrap (v73+1)),(v74.set v54.toNat (v80.set v73.toNat v92))))else some (St.done v74))
def je(v8:Int)(v54:Int)(v55:List (List Rat)):Option (St (Int×(List (List Rat))) (List (List Rat))):=(if(decide (v54<(v55.length:Int)))=true then((ix v55 v54).bind fun v63=>(ix v63 v8).bind fun v65=>(ix v55 v8).bind fun v67=>(ix v67 v8).bind fun v69=>(fU v65 v69).bind fun v71=>(Loop (fun(s:Int×(List (List Rat)))=>ll v8 v54 v71 s.1 s.2) (v8,v55)).bind fun v96=>some (v96)).bind fun v97=>some (St.next ((IntKind.i64.wrap (v54+1)),v97))else some (St.done v55))
def cV(v8:Int)(v9:List (List Rat))(v10:Rat):Option (St (Int×(List (List Rat))×Rat) (Ex Rat Rat)):=(if(decide (v8<(v9.length:Int)))=true then((Loop (fun(s:Int)=>ng v8 v9 s) v8).bind fun v31=>(if(v31==(v9.length:Int))=true then some (Ex.ret 0)else((if(v31 !=v8)=true then(ix v9 v31).bind fun v36=>(ix v9 v8).bind fun v38=>(ix v9 v8).bind fun v40=>(ix v9 v31).bind fun v42=>(pg v10).bind fun v44=>some ((((v9.set v8.toNat v36).set v31.toNat v40),v44))else some ((v9,v10)))).bind fun(v46,v47)=>(ix v46 v8).bind fun v48=>(ix v48 v8).bind fun v50=>(fp v47 v50).bind fun v52=>(Loop (fun(s:Int×(List (List Rat)))=>je v8 s.1 s.2) ((IntKind.i64.wrap (v8+1)),v46)).bind fun v98=>some (Ex.cf (v98,v52)))).bind fun o16=>(match o16 with|Ex.cf (v99,v100)=>some (St.next ((IntKind.i64.wrap (v8+1)),v99,v100))|Ex.ret r101=>some (St.done (Ex.ret r101)))else some (St.done (Ex.cf v10)))
def oN(a1:List (List Rat)):Option Rat:=(j0 a1).bind fun v2=>(f_ 1).bind fun v4=>((Loop (fun(s:Int×(List (List Rat))×Rat)=>cV s.1 s.2.1 s.2.2) (0,v2,v4)).bind fun o11=>(match o11 with|Ex.cf v102=>some (Ex.cf v102)|Ex.ret r103=>some (Ex.ret r103))).bind fun o6=>(match o6 with|Ex.cf v104=>some v104|Ex.ret r105=>some r105)
theorem Bh{a1:List (List Rat)}{r106:Rat}(h:oN a1=some r106):bh PP 133 [] [ai (ak.slice ak.rq) a1] [] (qd r106):=by
 unfold oN at h;refine .of Go.Proofs.Tryz.func133 rfl (by kernel_rfl) rfl rfl rfl rfl rfl rfl (fun A w0 L b=>?_);show Ok PP _ [(0,ai (ak.slice ak.rq) a1)] [] _ _;refine .al (.fN (iB (0)) bw ⟨Cz,EG,.refl _,D4,trivial⟩ rfl<|.nil) rfl ?_;obtain⟨v2,e3,h⟩:=bind_some h;refine .al (.mv rfl<|.ag (Hi:=[]) (Ho:=[(11,Hp.cc ak.rq 69 3000011 ([])),(3000011,Hp.store ak.rq 37 v2)]) (d:=D.own 11) (ds:=[ai (ak.slice ak.rq) a1]) (.Ab (tQ e3) (fun r=>match r with|2000003=>11|4000003=>3000011|r=>r) (fun r=>match r with|11=>2000003|3000011=>4000003|r=>r) rfl trivial rfl ⟨.refl rfl,trivial⟩ (.p rfl (.cc (s:=3000011))<|.r rfl rfl<|trivial) rfl (.own (r:=11)) rfl rfl rfl rfl rfl) ⟨rfl,trivial⟩ trivial ⟨rfl,rfl,trivial⟩<|.aq rfl<|.nil) rfl ?_;obtain⟨v4,e5,h⟩:=bind_some h;refine .al (.ag (Dt e5) ⟨rfl,trivial⟩ trivial trivial<|.fN (iB (0)) bw ⟨Cz,EG,.refl _,D4,trivial⟩ rfl<|.cW (iB (v4)) rfl rfl rfl aj rfl rfl rfl<|.nil) rfl ?_;obtain⟨o6,hp7,h⟩:=bind_some h;refine .cd (fun i=>o6=Ex.cf i) (fun(i:Rat)=>[(2,D.ref 2 0),(4,D.ref 4 0)]) (fun(i:Rat)=>[(2,Hp.box 37 (iB (0))),(4,Hp.box 37 (iB (i)))]) ?_ ?_
 ·have ho1:=h;have h:=hp7;refine .al (.aq rfl<|.nil) rfl ?_;obtain⟨o11,hl12,h⟩:=bind_some h;have ho2:=h;refine .block (.bV (fun(s:Int×(List (List Rat))×Rat)=>[(2,D.ref 2 0),(3,D.own 11),(4,D.ref 4 0),(5,D.int .i64 s.1)]) (fun(s:Int×(List (List Rat))×Rat)=>[(2,Hp.box 37 (iB (0))),(11,Hp.cc ak.rq 69 3000011 ([])),(3000011,Hp.store ak.rq 37 s.2.1),(4,Hp.box 37 (iB (s.2.2)))]) hl12 (.of rfl) (.of rfl) rfl rfl ?_);rintro⟨v8,v9,v10⟩ st13 hb14;have h:cV v8 v9 v10=some st13:=hb14;unfold cV at h
  try dsimp only
  refine .sq ?_;refine .fL 3 rfl rfl rfl ?_;refine .al (.mv rfl<|.mv rfl<|.uW rfl aJ<|.cm rfl rfl rfl<|.nil) rfl ?_;by_cases c15:(decide (v8<(v9.length:Int)))=true
  ·replace h:=aa c15 h;refine .cp rfl c15 ?_;refine .skip (Ok.on ?_);obtain⟨o16,hp17,h⟩:=bind_some h;refine .cd (fun i=>o16=Ex.cf i) (fun(i:(List (List Rat))×Rat)=>[(2,D.ref 2 0),(3,D.own 11),(4,D.ref 4 0),(5,D.int .i64 v8)]) (fun(i:(List (List Rat))×Rat)=>[(2,Hp.box 37 (iB (0))),(11,Hp.cc ak.rq 69 4000011 ([])),(4000011,Hp.store ak.rq 37 i.1),(4,Hp.box 37 (iB (i.2)))]) ?_ ?_
   ·have ho3:=h;have h:=hp17;refine .block ?_;refine .al (.mv rfl<|.aq rfl<|.nil) rfl ?_;obtain⟨v31,hl20,h⟩:=bind_some h;refine .cd (fun i=>v31=i) (fun(i:Int)=>[(2,D.ref 2 0),(3,D.own 11),(4,D.ref 4 0),(5,D.int .i64 v8),(6,D.int .i64 i)]) (fun(i:Int)=>[(2,Hp.box 37 (iB (0))),(11,Hp.cc ak.rq 69 3000011 ([])),(3000011,Hp.store ak.rq 37 v9),(4,Hp.box 37 (iB (v10)))]) ?_ ?_
    ·have ho4:=h;refine .block (.bV (fun(s:Int)=>[(2,D.ref 2 0),(3,D.own 11),(4,D.ref 4 0),(5,D.int .i64 v8),(6,D.int .i64 s)]) (fun(s:Int)=>[(2,Hp.box 37 (iB (0))),(11,Hp.cc ak.rq 69 3000011 ([])),(3000011,Hp.store ak.rq 37 v9),(4,Hp.box 37 (iB (v10)))]) hl20 (.k rfl<|.p rfl .sl<|.k rfl<|.k rfl<|.k rfl<|trivial) (.of rfl) rfl rfl ?_);rintro v18 st21 hb22;have h:ng v8 v9 v18=some st21:=hb22;unfold ng at h
     try dsimp only
     refine .sq ?_;refine .fL 3 rfl rfl rfl ?_;by_cases c23:(decide (v18<(v9.length:Int)))=true
     ·replace h:=aa c23 h;obtain⟨v24,e25,h⟩:=bind_some h;obtain⟨v26,e27,h⟩:=bind_some h;obtain⟨v28,e29,h⟩:=bind_some h;refine .al (.mv rfl<|.mv rfl<|.uW rfl aJ<|.cm rfl rfl rfl<|.mv rfl<|.aO rfl rfl rfl c23<|.mv rfl<|.aO rfl rfl rfl c23<|.mv rfl<|.aO rfl rfl rfl c23<|.ib rfl rfl aF (af e25).1 (by have:=dG e25;simpa using this)<|.aO rfl rfl rfl c23<|.jm (bq e25) rfl rfl rfl rfl aP<|.aO rfl rfl rfl c23<|.mv rfl<|.aO rfl rfl rfl c23<|.lO rfl rfl rfl (af e25).2 bn (af e27).1 (dG e27) rfl<|.aO rfl rfl rfl c23<|.gK rfl rfl (af e25).2 (af e27).2 aj rfl rfl<|.aO rfl rfl rfl c23<|.ag (xx e29) ⟨rfl,trivial⟩ trivial trivial<|.aO rfl rfl rfl c23<|.cm rfl rfl rfl<|.aZ rfl c23 rfl<|.nil) rfl ?_;by_cases c30:(v28==0)=true
      ·replace h:=aa c30 h;refine .cp rfl c30 ?_;refine .skip (Ok.on ?_);refine .block ?_;refine .region (.mv rfl<|.ar rfl rfl rfl<|.aq rfl<|.nil) rfl (fun _ _ hs=>⟨(IntKind.i64.wrap (v18+1)),(sj h),hs.sub (.k rfl<|.p rfl .sl<|.k rfl<|.k rfl<|.k rfl<|trivial) (.of rfl) rfl rfl⟩)
      ·replace h:=ab c30 h;refine .ct rfl c30 ?_;refine .exit (fun _ _ hs=>⟨_,(sj h),fun e=>⟨v18,e.symm,hs.sub (.k rfl<|.p rfl .sl<|.k rfl<|.k rfl<|.k rfl<|trivial) (.of rfl) rfl rfl⟩⟩)
     ·replace h:=ab c23 h;refine .al (.mv rfl<|.mv rfl<|.uW rfl aJ<|.cm rfl rfl rfl<|.mv rfl<|.aM rfl rfl rfl c23<|.aM rfl rfl rfl c23<|.aM rfl rfl rfl c23<|.aM rfl rfl rfl c23<|.aM rfl rfl rfl c23<|.aM rfl rfl rfl c23<|.aM rfl rfl rfl c23<|.aM rfl rfl rfl c23<|.aM rfl rfl rfl c23<|.aV rfl c23 rfl<|.nil) rfl ?_;refine .ct rfl (by decide) ?_;refine .exit (fun _ _ hs=>⟨_,(sj h),fun e=>⟨v18,e.symm,hs.sub (.k rfl<|.p rfl .sl<|.k rfl<|.k rfl<|.k rfl<|trivial) (.of rfl) rfl rfl⟩⟩)
    ·rintro _ rfl
     try dsimp only
     refine .sq ?_;refine .fL 3 rfl rfl rfl ?_;refine .al (.mv rfl<|.mv rfl<|.uW rfl aJ<|.cm rfl rfl rfl<|.nil) rfl ?_;by_cases c32:(v31==(v9.length:Int))=true
     ·replace h:=aa c32 h;refine .cp rfl c32 ?_;refine .al (.ox (iB (0)) [] bw gO trivial trivial ⟨Cz,EG,.refl _,D4,trivial⟩<|.cW (iB (0)) rfl rfl rfl aj rfl rfl rfl<|.nil) rfl ?_;cases h;have h:=ho3;refine .aQ (Hi:=[]) (Ho:=[]) (b:=b) (fn:=Go.Proofs.Tryz.f133) (d:=qd 0) (fun _ _ hb=>by exact⟨_,(sj h),fun e=>by subst e;have h:=ho2;cases h;have h:=ho1;cases h;exact hb⟩) rfl (.cons (.agg rfl rfl aj rfl) .nil) (.refl _) trivial trivial
     ·replace h:=ab c32 h;refine .ct rfl c32 ?_;refine .skip (Ok.on ?_);obtain⟨o33,hp34,h⟩:=bind_some h;refine .cd (fun i=>o33=i) (fun(i:(List (List Rat))×Rat)=>[(2,D.ref 2 0),(3,D.own 11),(4,D.ref 4 0),(5,D.int .i64 v8)]) (fun(i:(List (List Rat))×Rat)=>[(2,Hp.box 37 (iB (0))),(11,Hp.cc ak.rq 69 4000011 ([])),(4000011,Hp.store ak.rq 37 i.1),(4,Hp.box 37 (iB (i.2)))]) ?_ ?_
      ·have ho4:=h;have h:=hp34;refine .al (.mv rfl<|.mv rfl<|.cm rfl rfl rfl<|.nil) rfl ?_;by_cases c35:(v31 !=v8)=true
       ·replace h:=aa c35 h;refine .cp rfl c35 ?_;obtain⟨v36,e37,h⟩:=bind_some h;obtain⟨v38,e39,h⟩:=bind_some h;obtain⟨v40,e41,h⟩:=bind_some h;obtain⟨v42,e43,h⟩:=bind_some h;refine .c_ cj (.mv rfl<|.mv rfl<|.mv rfl<|.mv rfl<|.mv rfl<|.mv rfl<|.ib rfl rfl aF (af e37).1 (by have:=dG e37;simpa using this)<|.jm (bq e37) rfl rfl rfl rfl aP<|.mv rfl<|.mv rfl<|.ib rfl rfl aF (af e39).1 (by have:=dG e39;simpa using this)<|.jm (bq e39) rfl rfl rfl rfl aP<|.ib rfl rfl aF (af e41).1 (by have:=dG e41;simpa using this)<|.Jr (bq e41) rfl rfl rfl rfl rfl aP<|.ib rfl rfl aF (af e43).1 (by have:=dG e43;simpa using this)<|.Ju (by have:=bq e43;simpa using this) rfl rfl rfl rfl rfl aP<|.nil) rfl (by kernel_rfl) ?_;refine .AT (r:=11) (s:=3000011) (i:=v8) (k:=v31) 4000011 rfl rfl rfl rfl (af e41).2 (af e37).2 ?_;obtain⟨v44,e45,h⟩:=bind_some h;refine .region (.ck (iB (v10)) rfl rfl aj rfl rfl<|.ag (IX e45) ⟨rfl,trivial⟩ trivial trivial<|.cW (iB (v44)) rfl rfl rfl aj rfl rfl rfl<|.nil) rfl (fun _ _ hs=>⟨(((v9.set v8.toNat v36).set v31.toNat v40),v44),(sj h),hs.sub (.k rfl<|.p rfl .sl<|.k rfl<|.k rfl<|trivial) (.of rfl) rfl rfl⟩)
       ·replace h:=ab c35 h;refine .ct rfl c35 ?_;refine .skip (fun _ _ hs=>⟨(v9,v10),(sj h),hs.kC (fun r=>match r with|4000011=>3000011|r=>r) (.p rfl (.ref (r:=2))<|.p rfl (.Fx (r:=11))<|.p rfl (.ref (r:=4))<|.r rfl rfl<|trivial) (.r rfl rfl<|.p rfl (.cc (s:=4000011))<|.r rfl rfl<|.r rfl rfl<|trivial) rfl rfl rfl⟩)
      ·rintro⟨v46,v47⟩ rfl
       try dsimp only
       refine .fL 3 rfl rfl rfl ?_;obtain⟨v48,e49,h⟩:=bind_some h;obtain⟨v50,e51,h⟩:=bind_some h;obtain⟨v52,e53,h⟩:=bind_some h;refine .c_ cj (.ck (iB (v47)) rfl rfl aj rfl rfl<|.mv rfl<|.mv rfl<|.ib rfl rfl aF (af e49).1 (by have:=dG e49;simpa using this)<|.jm (bq e49) rfl rfl rfl rfl aP<|.mv rfl<|.lO rfl rfl rfl (af e49).2 bn (af e51).1 (dG e51) rfl<|.gK rfl rfl (af e49).2 (af e51).2 aj rfl rfl<|.ag (x7 e53) ⟨rfl,rfl,trivial⟩ trivial trivial<|.cW (iB (v52)) rfl rfl rfl aj rfl rfl rfl<|.nil) rfl (by kernel_rfl) ?_;refine .al (.mv rfl<|.ar rfl rfl rfl<|.aq rfl<|.nil) rfl ?_;obtain⟨o56,hl57,h⟩:=bind_some h;have ho4:=h;refine .block (.bV (fun(s:Int×(List (List Rat)))=>[(2,D.ref 2 0),(3,D.own 11),(4,D.ref 4 0),(5,D.int .i64 v8),(7,D.int .i64 s.1)]) (fun(s:Int×(List (List Rat)))=>[(2,Hp.box 37 (iB (0))),(11,Hp.cc ak.rq 69 4000011 ([])),(4000011,Hp.store ak.rq 37 s.2),(4,Hp.box 37 (iB (v52)))]) hl57 (.k rfl<|.p rfl .sl<|.k rfl<|.k rfl<|.k rfl<|trivial) (.of rfl) rfl rfl ?_);rintro⟨v54,v55⟩ st58 hb59;have h:je v8 v54 v55=some st58:=hb59;unfold je at h
       try dsimp only
       refine .sq ?_;refine .fL 3 rfl rfl rfl ?_;refine .al (.mv rfl<|.mv rfl<|.uW rfl aJ<|.cm rfl rfl rfl<|.nil) rfl ?_;by_cases c60:(decide (v54<(v55.length:Int)))=true
       ·replace h:=aa c60 h;refine .cp rfl c60 ?_;refine .skip (Ok.on ?_);obtain⟨v97,hp62,h⟩:=bind_some h;refine .cd (fun i=>v97=i) (fun(i:(List (List Rat)))=>[(2,D.ref 2 0),(3,D.own 11),(4,D.ref 4 0),(5,D.int .i64 v8),(7,D.int .i64 v54)]) (fun(i:(List (List Rat)))=>[(2,Hp.box 37 (iB (0))),(11,Hp.cc ak.rq 69 4000011 ([])),(4000011,Hp.store ak.rq 37 i),(4,Hp.box 37 (iB (v52)))]) ?_ ?_
        ·have ho5:=h;have h:=hp62;refine .block ?_;obtain⟨v63,e64,h⟩:=bind_some h;obtain⟨v65,e66,h⟩:=bind_some h;obtain⟨v67,e68,h⟩:=bind_some h;obtain⟨v69,e70,h⟩:=bind_some h;obtain⟨v71,e72,h⟩:=bind_some h;refine .c_ cj (.mv rfl<|.mv rfl<|.ib rfl rfl aF (af e64).1 (by have:=dG e64;simpa using this)<|.jm (bq e64) rfl rfl rfl rfl aP<|.mv rfl<|.lO rfl rfl rfl (af e64).2 bn (af e66).1 (dG e66) rfl<|.gK rfl rfl (af e64).2 (af e66).2 aj rfl rfl<|.mv rfl<|.mv rfl<|.ib rfl rfl aF (af e68).1 (by have:=dG e68;simpa using this)<|.jm (bq e68) rfl rfl rfl rfl aP<|.mv rfl<|.lO rfl rfl rfl (af e68).2 bn (af e70).1 (dG e70) rfl<|.gK rfl rfl (af e68).2 (af e70).2 aj rfl rfl<|.ag (ED e72) ⟨rfl,rfl,trivial⟩ trivial trivial<|.fN (iB (0)) bw ⟨Cz,EG,.refl _,D4,trivial⟩ rfl<|.cW (iB (v71)) rfl rfl rfl aj rfl rfl rfl<|.nil) rfl (by kernel_rfl) ?_;refine .al (.mv rfl<|.aq rfl<|.nil) rfl ?_;obtain⟨o75,hl76,h⟩:=bind_some h;have ho6:=h;refine .block (.bV (fun(s:Int×(List (List Rat)))=>[(2,D.ref 2 0),(3,D.own 11),(4,D.ref 4 0),(5,D.int .i64 v8),(7,D.int .i64 v54),(8,D.ref 8 0),(9,D.int .i64 s.1)]) (fun(s:Int×(List (List Rat)))=>[(2,Hp.box 37 (iB (0))),(11,Hp.cc ak.rq 69 4000011 ([])),(4000011,Hp.store ak.rq 37 s.2),(4,Hp.box 37 (iB (v52))),(8,Hp.box 37 (iB (v71)))]) hl76 (.k rfl<|.p rfl .sl<|.k rfl<|.k rfl<|.k rfl<|.k rfl<|.k rfl<|trivial) (.of rfl) rfl rfl ?_);rintro⟨v73,v74⟩ st77 hb78;have h:ll v8 v54 v71 v73 v74=some st77:=hb78;unfold ll at h
         try dsimp only
         refine .sq ?_;refine .fL 3 rfl rfl rfl ?_;refine .al (.mv rfl<|.mv rfl<|.uW rfl aJ<|.cm rfl rfl rfl<|.nil) rfl ?_;by_cases c79:(decide (v73<(v74.length:Int)))=true
         ·replace h:=aa c79 h;refine .cp rfl c79 ?_;refine .skip (Ok.on ?_);refine .sq ?_;refine .block ?_;obtain⟨v80,e81,h⟩:=bind_some h;obtain⟨v82,e83,h⟩:=bind_some h;obtain⟨v84,e85,h⟩:=bind_some h;obtain⟨v86,e87,h⟩:=bind_some h;obtain⟨v88,e89,h⟩:=bind_some h;obtain⟨v90,e91,h⟩:=bind_some h;obtain⟨v92,e93,h⟩:=bind_some h;obtain⟨v94,e95,h⟩:=bind_some h;refine .db cj (.mv rfl<|.mv rfl<|.ib rfl rfl aF (af e81).1 (by have:=dG e81;simpa using this)<|.jm (bq e81) rfl rfl rfl rfl aP<|.mv rfl<|.mv rfl<|.mv rfl<|.ib rfl rfl aF (af e83).1 (by have:=dG e83;simpa using this)<|.jm (bq e83) rfl rfl rfl rfl aP<|.mv rfl<|.lO rfl rfl rfl (af e83).2 bn (af e85).1 (dG e85) rfl<|.gK rfl rfl (af e83).2 (af e85).2 aj rfl rfl<|.ck (iB (v71)) rfl rfl aj rfl rfl<|.mv rfl<|.mv rfl<|.ib rfl rfl aF (af e87).1 (by have:=dG e87;simpa using this)<|.jm (bq e87) rfl rfl rfl rfl aP<|.mv rfl<|.lO rfl rfl rfl (af e87).2 bn (af e89).1 (dG e89) rfl<|.gK rfl rfl (af e87).2 (af e89).2 aj rfl rfl<|.ag (x7 e91) ⟨rfl,rfl,trivial⟩ trivial trivial<|.ag (GR e93) ⟨rfl,rfl,trivial⟩ trivial trivial<|.lO rfl rfl rfl (af e81).2 bn (af e95).1 (dG e95) rfl<|.wG v92 rfl rfl rfl (af e81).2 (bq e95) aj rfl rfl rfl<|.nil) rfl (by kernel_rfl) (Ok.on ?_);refine .region (.mv rfl<|.ar rfl rfl rfl<|.aq rfl<|.nil) rfl (fun _ _ hs=>⟨((IntKind.i64.wrap (v73+1)),(v74.set v54.toNat (v80.set v73.toNat v92))),(sj h),hs.sub (.k rfl<|.p rfl .sl<|.k rfl<|.k rfl<|.k rfl<|.k rfl<|.k rfl<|trivial) (.of rfl) rfl rfl⟩)
         ·replace h:=ab c79 h;refine .ct rfl c79 ?_;refine .exit (fun a w hs=>⟨_,(sj h),fun e=>by subst e;have h:=ho6;exact aT (⟨v74,(sj h),hs.sub (.k rfl<|.p rfl .sl<|.k rfl<|.k rfl<|.k rfl<|trivial) (.of rfl) rfl rfl⟩)⟩)
        ·rintro _ rfl
         try dsimp only
         refine .region (.mv rfl<|.ar rfl rfl rfl<|.aq rfl<|.nil) rfl (fun _ _ hs=>⟨((IntKind.i64.wrap (v54+1)),v97),(sj h),hs.sub (.of rfl) (.of rfl) rfl rfl⟩)
       ·replace h:=ab c60 h;refine .ct rfl c60 ?_;refine .exit (fun a w hs=>⟨_,(sj h),fun e=>by subst e;have h:=ho4;exact aT (⟨(v55,v52),(sj h),hs.sub (.k rfl<|.p rfl .sl<|.k rfl<|.k rfl<|trivial) (.of rfl) rfl rfl⟩)⟩)
   ·rintro⟨v99,v100⟩ rfl
    try dsimp only
    refine .region (.mv rfl<|.ar rfl rfl rfl<|.aq rfl<|.nil) rfl (fun _ _ hs=>⟨((IntKind.i64.wrap (v8+1)),v99,v100),(sj h),hs.kC (fun r=>match r with|3000011=>4000011|r=>r) (.p rfl (.ref (r:=2))<|.p rfl (.own (r:=11))<|.p rfl (.ref (r:=4))<|.r rfl rfl<|trivial) (.r rfl rfl<|.p rfl (.cc (s:=3000011))<|.r rfl rfl<|.r rfl rfl<|trivial) rfl rfl rfl⟩)
  ·replace h:=ab c15 h;refine .ct rfl c15 ?_;refine .exit (fun a w hs=>⟨_,(sj h),fun e=>by subst e;have h:=ho2;exact aT (⟨v10,(sj h),hs.sub (.of rfl) (.of rfl) rfl rfl⟩)⟩)
 ·rintro v104 rfl
  try dsimp only
  refine .al (.ck (iB (v104)) rfl rfl aj rfl rfl<|.cW (iB (v104)) rfl rfl rfl aj rfl rfl rfl<|.nil) rfl ?_;cases h;refine .aQ (fun _ _ hb=>hb) rfl (.cons (.agg rfl rfl aj rfl) .nil) (.refl _) trivial trivial
def fi(a1:List (List Rat))(v4:Int)(v5:List (List Rat)):Option (St (Int×(List (List Rat))) (List (List Rat))):=(if(decide (v4<(a1.length:Int)))=true then(ix a1 v4).bind fun v11=>cl (v11.length*64<=140737488355328/\v11.length<=9223372036854775807) (cl ((0:Int)<=(a1.length:Int)/\(v11.length+(a1.length:Int).toNat)*64<=140737488355328/\v11.length+(a1.length:Int).toNat<=9223372036854775807) ((f_ 1).bind fun v15=>(ix (v11++List.replicate (a1.length:Int).toNat (0:Rat)) (IntKind.i64.wrap ((a1.length:Int)+v4))).bind fun v17=>cl ((v5.length+1)*24<=140737488355328/\v5.length+1<=9223372036854775807) (some (St.next ((IntKind.i64.wrap (v4+1)),(v5++[((v11++List.replicate (a1.length:Int).toNat (0:Rat)).set (IntKind.i64.wrap ((a1.length:Int)+v4)).toNat v15)]))))))else some (St.done v5))
def eI(a1:List (List Rat))(v22:List (List Rat))(v34:Int)(v35:List (List Rat)):Option (St (Int×(List (List Rat))) (List (List Rat))):=(if(decide (v34<(v22.length:Int)))=true then(ix v22 v34).bind fun v41=>cl ((0:Int)<=(a1.length:Int)/\((a1.length:Int):Int)<=(v41.length:Int)) (cl ((List.drop (a1.length:Int).toNat v41).length*64<=140737488355328/\(List.drop (a1.length:Int).toNat v41).length<=9223372036854775807) (cl ((v35.length+1)*24<=140737488355328/\v35.length+1<=9223372036854775807) (some (St.next ((IntKind.i64.wrap (v34+1)),(v35++[(List.drop (a1.length:Int).toNat v41)]))))))else some (St.done v35))
def il(a1:List (List Rat)):Option ((List (List Rat))×Bool):=((Loop (fun(s:Int×(List (List Rat)))=>fi a1 s.1 s.2) (0,([]:List (List Rat)))).bind fun v20=>some (v20)).bind fun v21=>(oz v21).bind fun(v22,v23)=>((if(decide ((v23.length:Int)<(a1.length:Int)))=true then some (Ex.ret ([],false))else(if(decide ((a1.length:Int)>0))=true then(ix v23 (IntKind.i64.wrap ((a1.length:Int)-1))).bind fun v29=>(if(v29 !=(IntKind.i64.wrap ((a1.length:Int)-1)))=true then some (Ex.ret ([],false))else some (Ex.cf ()))else some (Ex.cf ())))).bind fun o25=>(match o25 with|Ex.cf ()=>((Loop (fun(s:Int×(List (List Rat)))=>eI a1 v22 s.1 s.2) (0,([]:List (List Rat)))).bind fun v46=>some (v46)).bind fun v47=>some (v47,true)|Ex.ret (r48,r49)=>some (r48,r49))
theorem yv{a1:List (List Rat)}{r50:List (List Rat)}{r51:Bool}(h:il a1=some (r50,r51)):bh PP 134 [] [ai (ak.slice ak.rq) a1] [] (D.ig [ai (ak.slice ak.rq) r50,D.bool r51]):=by
 unfold il at h;refine .of Go.Proofs.Tryz.func134 rfl (by kernel_rfl) rfl rfl rfl rfl rfl rfl (fun A w0 L b=>?_);show Ok PP _ [(0,ai (ak.slice ak.rq) a1)] [] _ _;refine .al (.aq rfl<|.aq rfl<|.nil) rfl ?_;refine .al (.aq rfl<|.nil) rfl ?_;obtain⟨v21,hp3,h⟩:=bind_some h;refine .cd (fun i=>v21=i) (fun(i:(List (List Rat)))=>[(0,ai (ak.slice ak.rq) a1),(4,D.own 2000004)]) (fun(i:(List (List Rat)))=>[(2000004,Hp.cc ak.rq 69 4000004 ([])),(4000004,Hp.store ak.rq 37 i)]) ?_ ?_
 ·have ho1:=h;have h:=hp3;refine .al (.aq rfl<|.nil) rfl ?_;refine .E8 ak.rq 4 2000004 4000004 69 37 rfl rfl rfl rfl ?_;obtain⟨o6,hl7,h⟩:=bind_some h;have ho2:=h;refine .block (.bV (fun(s:Int×(List (List Rat)))=>[(0,ai (ak.slice ak.rq) a1),(4,D.own 2000004),(5,D.int .i64 s.1)]) (fun(s:Int×(List (List Rat)))=>[(2000004,Hp.cc ak.rq 69 4000004 ([])),(4000004,Hp.store ak.rq 37 s.2)]) hl7 (.of rfl) (.of rfl) rfl rfl ?_);rintro⟨v4,v5⟩ st8 hb9;have h:fi a1 v4 v5=some st8:=hb9;unfold fi at h
  try dsimp only
  refine .sq ?_;refine .al (.mv rfl<|.mv rfl<|.ec rfl aJ<|.cm rfl rfl rfl<|.nil) rfl ?_;by_cases c10:(decide (v4<(a1.length:Int)))=true
  ·replace h:=aa c10 h;refine .cp rfl c10 ?_;refine .skip (Ok.on ?_);refine .sq ?_;refine .block ?_;obtain⟨v11,e12,h⟩:=bind_some h;obtain⟨k13,h⟩:=av h;obtain⟨k14,h⟩:=av h;refine .al (.mv rfl<|.mv rfl<|.lN rfl rfl aF (af e12).1 (af e12).2<|.i4 rfl aP<|.J_ (r':=5000021) (e:=ak.rq) (ys:=v11) rfl rfl (.refl _) dK rfl k13.1 k13.2 rfl rfl (by decide)<|.mv rfl<|.ec rfl aJ<|.Jl 0 rfl (.refl _) rfl rfl dK (by kernel_rfl) rfl ⟨Cz,EG,.refl _,D4,trivial⟩ k14.1 k14.2.1 k14.2.2 rfl<|.aq rfl<|.nil) rfl ?_;refine .sl 6 rfl rfl rfl ?_;obtain⟨v15,e16,h⟩:=bind_some h;obtain⟨v17,e18,h⟩:=bind_some h;refine .al (.mv rfl<|.mv rfl<|.ec rfl aJ<|.mv rfl<|.ar rfl rfl rfl<|.ag (Dt e16) ⟨rfl,trivial⟩ trivial trivial<|.ib rfl rfl bn (af e18).1 (by have:=dG e18;simpa using this)<|.IY v15 rfl rfl rfl aj rfl rfl rfl (bq e18)<|.nil) rfl ?_;refine .fL 4 rfl rfl rfl ?_;refine .ti 6 (.own 24) rfl .sl ?_;refine .ti 25 (.own 24) rfl .sl ?_;obtain⟨k19,h⟩:=av h;refine .region (.mv rfl<|.mv rfl<|.Js rfl cO rfl<|.Jm (s2:=3000035) rfl .sl rfl rfl rfl rfl rfl cO k19.1 k19.2 rfl rfl ⟨by decide,by decide,by decide,by decide,by decide,by decide,by decide⟩<|.aq rfl<|.nil) rfl (Ok.on ?_);refine .region (.mv rfl<|.ar rfl rfl rfl<|.aq rfl<|.nil) rfl (fun _ _ hs=>⟨((IntKind.i64.wrap (v4+1)),(v5++[((v11++List.replicate (a1.length:Int).toNat (0:Rat)).set (IntKind.i64.wrap ((a1.length:Int)+v4)).toNat v15)])),(sj h),hs.kC (fun r=>match r with|2000004=>35|4000004=>3000035|r=>r) (.r rfl rfl<|.p rfl (.own (r:=2000004))<|.r rfl rfl<|trivial) (.p rfl (.cc (s:=4000004))<|.r rfl rfl<|trivial) rfl rfl rfl⟩)
  ·replace h:=ab c10 h;refine .ct rfl c10 ?_;refine .exit (fun a w hs=>⟨_,(sj h),fun e=>by subst e;have h:=ho2;exact aT (⟨v5,(sj h),hs.sub (.of rfl) (.of rfl) rfl rfl⟩)⟩)
 ·rintro _ rfl
  try dsimp only
  refine .fL 4 rfl rfl rfl ?_;refine .ti 4 (.own 2000004) rfl .sl ?_;refine .yV 4 rfl rfl rfl rfl rfl ?_;obtain⟨⟨v22,v23⟩,e24,h⟩:=bind_some h;refine .al (.mv rfl<|.ag (DJ e24) ⟨rfl,trivial⟩ trivial trivial<|.mv rfl<|.ext rfl rfl<|.ext rfl rfl<|.aq rfl<|.aq rfl<|.nil) rfl ?_;obtain⟨o25,hp26,h⟩:=bind_some h;refine .cd (fun i=>o25=Ex.cf i) (fun(i:Unit)=>[(0,ai (ak.slice ak.rq) a1),(7,ai (ak.slice ak.rq) v22)]) (fun(i:Unit)=>[]) ?_ ?_
  ·have ho1:=h;have h:=hp26;by_cases c27:(decide ((v23.length:Int)<(a1.length:Int)))=true
   ·replace h:=aa c27 h;refine .al (.mv rfl<|.ec rfl bL<|.mv rfl<|.ec rfl aJ<|.cm rfl rfl rfl<|.mv rfl<|.eh rfl rfl rfl c27<|.eh rfl rfl rfl c27<|.eh rfl rfl rfl c27<|.eh rfl rfl rfl c27<|.gU rfl rfl<|.gU rfl rfl<|.gU rfl rfl<|.gU rfl rfl<|.gU rfl rfl<|.gU rfl rfl<|.gU rfl rfl<|.gU rfl rfl<|.gU rfl rfl<|.gU rfl rfl<|.eh rfl rfl rfl c27<|.aZ rfl c27 rfl<|.nil) rfl ?_;refine .cp rfl rfl ?_;refine .al (.aq rfl<|.aq rfl<|.nil) rfl ?_;cases h;have h:=ho1;cases h;refine .aQ (fun _ _ hb=>hb) rfl (.cons (.tmp rfl) (.t1 (.tmp rfl))) (.ig ⟨.ju _,.refl _,trivial⟩) trivial trivial
   ·replace h:=ab c27 h;by_cases c28:(decide ((a1.length:Int)>0))=true
    ·replace h:=aa c28 h;obtain⟨v29,e30,h⟩:=bind_some h;refine .al (.mv rfl<|.ec rfl bL<|.mv rfl<|.ec rfl aJ<|.cm rfl rfl rfl<|.mv rfl<|.cx rfl rfl rfl c27<|.mv rfl<|.cx rfl rfl rfl c27<|.ec rfl aJ<|.cx rfl rfl rfl c27<|.cm rfl rfl rfl<|.cx rfl rfl rfl c27<|.mv rfl<|.aO rfl rfl rfl c28<|.mv rfl<|.aO rfl rfl rfl c28<|.mv rfl<|.aO rfl rfl rfl c28<|.ec rfl aJ<|.aO rfl rfl rfl c28<|.ar rfl rfl rfl<|.aO rfl rfl rfl c28<|.lN rfl rfl dZ (af e30).1 (af e30).2<|.aO rfl rfl rfl c28<|.i4 rfl dS<|.aO rfl rfl rfl c28<|.mv rfl<|.aO rfl rfl rfl c28<|.ec rfl aJ<|.aO rfl rfl rfl c28<|.ar rfl rfl rfl<|.aO rfl rfl rfl c28<|.cm rfl rfl rfl<|.cx rfl rfl rfl c27<|.aZ rfl c28 rfl<|.aV rfl c27 rfl<|.nil) rfl ?_;by_cases c31:(v29 !=(IntKind.i64.wrap ((a1.length:Int)-1)))=true
     ·replace h:=aa c31 h;refine .cp rfl c31 ?_;refine .al (.aq rfl<|.aq rfl<|.nil) rfl ?_;cases h;have h:=ho1;cases h;refine .aQ (fun _ _ hb=>hb) rfl (.cons (.tmp rfl) (.t1 (.tmp rfl))) (.ig ⟨.ju _,.refl _,trivial⟩) trivial trivial
     ·replace h:=ab c31 h;refine .ct rfl c31 ?_;refine .skip (fun _ _ hs=>⟨(),(sj h),hs.sub (.of rfl) trivial rfl rfl⟩)
    ·replace h:=ab c28 h;refine .al (.mv rfl<|.ec rfl bL<|.mv rfl<|.ec rfl aJ<|.cm rfl rfl rfl<|.mv rfl<|.cx rfl rfl rfl c27<|.mv rfl<|.cx rfl rfl rfl c27<|.ec rfl aJ<|.cx rfl rfl rfl c27<|.cm rfl rfl rfl<|.cx rfl rfl rfl c27<|.mv rfl<|.aM rfl rfl rfl c28<|.aM rfl rfl rfl c28<|.aM rfl rfl rfl c28<|.aM rfl rfl rfl c28<|.aM rfl rfl rfl c28<|.aM rfl rfl rfl c28<|.aM rfl rfl rfl c28<|.aM rfl rfl rfl c28<|.aM rfl rfl rfl c28<|.aM rfl rfl rfl c28<|.cx rfl rfl rfl c27<|.aV rfl c28 rfl<|.aV rfl c27 rfl<|.nil) rfl ?_;refine .ct rfl (by decide) ?_;refine .skip (fun _ _ hs=>⟨(),(sj h),hs.sub (.of rfl) trivial rfl rfl⟩)
  ·rintro⟨⟩ rfl
   try dsimp only
   refine .al (.aq rfl<|.nil) rfl ?_;obtain⟨v47,hp33,h⟩:=bind_some h;refine .cd (fun i=>v47=i) (fun(i:(List (List Rat)))=>[(9,D.own 2000009)]) (fun(i:(List (List Rat)))=>[(2000009,Hp.cc ak.rq 69 4000009 ([])),(4000009,Hp.store ak.rq 37 i)]) ?_ ?_
   ·have ho1:=h;have h:=hp33;refine .al (.aq rfl<|.nil) rfl ?_;refine .E8 ak.rq 9 2000009 4000009 69 37 rfl rfl rfl rfl ?_;obtain⟨o36,hl37,h⟩:=bind_some h;have ho2:=h;refine .block (.bV (fun(s:Int×(List (List Rat)))=>[(0,ai (ak.slice ak.rq) a1),(7,ai (ak.slice ak.rq) v22),(9,D.own 2000009),(10,D.int .i64 s.1)]) (fun(s:Int×(List (List Rat)))=>[(2000009,Hp.cc ak.rq 69 4000009 ([])),(4000009,Hp.store ak.rq 37 s.2)]) hl37 (.of rfl) (.of rfl) rfl rfl ?_);rintro⟨v34,v35⟩ st38 hb39;have h:eI a1 v22 v34 v35=some st38:=hb39;unfold eI at h
    try dsimp only
    refine .sq ?_;refine .al (.mv rfl<|.mv rfl<|.ec rfl aJ<|.cm rfl rfl rfl<|.nil) rfl ?_;by_cases c40:(decide (v34<(v22.length:Int)))=true
    ·replace h:=aa c40 h;refine .cp rfl c40 ?_;refine .skip (Ok.on ?_);refine .sq ?_;refine .block ?_;refine .fL 9 rfl rfl rfl ?_;obtain⟨v41,e42,h⟩:=bind_some h;obtain⟨k43,h⟩:=av h;obtain⟨k44,h⟩:=av h;obtain⟨k45,h⟩:=av h;refine .region (.mv rfl<|.mv rfl<|.mv rfl<|.lN rfl rfl aF (af e42).1 (af e42).2<|.i4 rfl aP<|.mv rfl<|.ec rfl aJ<|.JZ rfl rfl bn k43.1 k43.2<|.J_ (r':=5000077) (e:=ak.rq) (ys:=(List.drop (a1.length:Int).toNat v41)) rfl rfl (.refl _) dK rfl k44.1 k44.2 rfl rfl (by decide)<|.Js rfl cO rfl<|.Jm (s2:=3000079) rfl .sl rfl rfl rfl rfl rfl cO k45.1 k45.2 rfl rfl ⟨by decide,by decide,by decide,by decide,by decide,by decide,by decide⟩<|.aq rfl<|.nil) rfl (Ok.on ?_);refine .region (.mv rfl<|.ar rfl rfl rfl<|.aq rfl<|.nil) rfl (fun _ _ hs=>⟨((IntKind.i64.wrap (v34+1)),(v35++[(List.drop (a1.length:Int).toNat v41)])),(sj h),hs.kC (fun r=>match r with|2000009=>79|4000009=>3000079|r=>r) (.r rfl rfl<|.r rfl rfl<|.p rfl (.own (r:=2000009))<|.r rfl rfl<|trivial) (.p rfl (.cc (s:=4000009))<|.r rfl rfl<|trivial) rfl rfl rfl⟩)
    ·replace h:=ab c40 h;refine .ct rfl c40 ?_;refine .exit (fun a w hs=>⟨_,(sj h),fun e=>by subst e;have h:=ho2;exact aT (⟨v35,(sj h),hs.sub (.of rfl) (.of rfl) rfl rfl⟩)⟩)
   ·rintro _ rfl
    try dsimp only
    refine .fL 9 rfl rfl rfl ?_;refine .al (.mv rfl<|.aq rfl<|.aq rfl<|.nil) rfl ?_;refine .ti 2 (.own 2000009) rfl .sl ?_;refine .yV 2 rfl rfl rfl rfl rfl ?_;cases h;refine .aQ (fun _ _ hb=>hb) rfl (.cons (.tmp rfl) (.t1 (.tmp rfl))) (.refl _) trivial trivial
def b_(a1:List (List Rat))(v4:Int)(v12:Int):Option (St Int (Ex Unit Bool)):=(if(decide (v12<v4))=true then(ix a1 v4).bind fun v18=>(ix v18 v12).bind fun v20=>(ix a1 v12).bind fun v22=>(ix v22 v4).bind fun v24=>(lB v20 v24).bind fun v26=>(if(v26 !=0)=true then some (St.done (Ex.ret false))else some (St.next (IntKind.i64.wrap (v12+1))))else some (St.done (Ex.cf ())))
def ca(a1:List (List Rat))(v4:Int):Option (St Int (Ex Unit Bool)):=(if(decide (v4<(a1.length:Int)))=true then((Loop (fun(s:Int)=>b_ a1 v4 s) 0).bind fun o13=>(match o13 with|Ex.cf ()=>some (Ex.cf ())|Ex.ret r29=>some (Ex.ret r29))).bind fun o10=>(match o10 with|Ex.cf ()=>some (St.next (IntKind.i64.wrap (v4+1)))|Ex.ret r30=>some (St.done (Ex.ret r30)))else some (St.done (Ex.cf ())))
def fH(a1:List (List Rat)):Option Bool:=((Loop (fun(s:Int)=>ca a1 s) 0).bind fun o5=>(match o5 with|Ex.cf ()=>some (Ex.cf ())|Ex.ret r31=>some (Ex.ret r31))).bind fun o2=>(match o2 with|Ex.cf ()=>some true|Ex.ret r32=>some r32)
theorem vm{a1:List (List Rat)}{r33:Bool}(h:fH a1=some r33):bh PP 135 [] [ai (ak.slice ak.rq) a1] [] (D.bool r33):=by
 unfold fH at h;refine .of Go.Proofs.Tryz.func135 rfl (by kernel_rfl) rfl rfl rfl rfl rfl rfl (fun A w0 L b=>?_);show Ok PP _ [(0,ai (ak.slice ak.rq) a1)] [] _ _;refine .al (.aq rfl<|.nil) rfl ?_;obtain⟨o2,hp3,h⟩:=bind_some h;refine .cd (fun i=>o2=Ex.cf i) (fun(i:Unit)=>[]) (fun(i:Unit)=>[]) ?_ ?_
 ·have ho1:=h;have h:=hp3;refine .al (.aq rfl<|.nil) rfl ?_;obtain⟨o5,hl6,h⟩:=bind_some h;have ho2:=h;refine .block (.bV (fun(s:Int)=>[(0,ai (ak.slice ak.rq) a1),(3,D.int .i64 s)]) (fun(s:Int)=>[]) hl6 (.of rfl) trivial rfl rfl ?_);rintro v4 st7 hb8;have h:ca a1 v4=some st7:=hb8;unfold ca at h
  try dsimp only
  refine .sq ?_;refine .al (.mv rfl<|.mv rfl<|.ec rfl aJ<|.cm rfl rfl rfl<|.nil) rfl ?_;by_cases c9:(decide (v4<(a1.length:Int)))=true
  ·replace h:=aa c9 h;refine .cp rfl c9 ?_;refine .skip (Ok.on ?_);obtain⟨o10,hp11,h⟩:=bind_some h;refine .cd (fun i=>o10=Ex.cf i) (fun(i:Unit)=>[(0,ai (ak.slice ak.rq) a1),(3,D.int .i64 v4)]) (fun(i:Unit)=>[]) ?_ ?_
   ·have ho3:=h;have h:=hp11;refine .block ?_;refine .al (.aq rfl<|.nil) rfl ?_;obtain⟨o13,hl14,h⟩:=bind_some h;have ho4:=h;refine .block (.bV (fun(s:Int)=>[(0,ai (ak.slice ak.rq) a1),(3,D.int .i64 v4),(4,D.int .i64 s)]) (fun(s:Int)=>[]) hl14 (.of rfl) trivial rfl rfl ?_);rintro v12 st15 hb16;have h:b_ a1 v4 v12=some st15:=hb16;unfold b_ at h
    try dsimp only
    refine .sq ?_;refine .al (.mv rfl<|.mv rfl<|.cm rfl rfl rfl<|.nil) rfl ?_;by_cases c17:(decide (v12<v4))=true
    ·replace h:=aa c17 h;refine .cp rfl c17 ?_;refine .skip (Ok.on ?_);refine .sq ?_;refine .block ?_;obtain⟨v18,e19,h⟩:=bind_some h;obtain⟨v20,e21,h⟩:=bind_some h;obtain⟨v22,e23,h⟩:=bind_some h;obtain⟨v24,e25,h⟩:=bind_some h;obtain⟨v26,e27,h⟩:=bind_some h;refine .c_ cj (.mv rfl<|.mv rfl<|.lN rfl rfl aF (af e19).1 (af e19).2<|.i4 rfl aP<|.mv rfl<|.lN rfl rfl bn (af e21).1 (af e21).2<|.Cs (l:=iB (v20)) rfl aj rfl<|.mv rfl<|.mv rfl<|.lN rfl rfl aF (af e23).1 (af e23).2<|.i4 rfl aP<|.mv rfl<|.lN rfl rfl bn (af e25).1 (af e25).2<|.Cs (l:=iB (v24)) rfl aj rfl<|.ag (IG e27) ⟨rfl,rfl,trivial⟩ trivial trivial<|.cm rfl rfl rfl<|.nil) rfl (by kernel_rfl) ?_;by_cases c28:(v26 !=0)=true
     ·replace h:=aa c28 h;refine .cp rfl c28 ?_;refine .al (.aq rfl<|.nil) rfl ?_;refine .aQ (Hi:=[]) (Ho:=[]) (b:=b) (fn:=Go.Proofs.Tryz.f135) (d:=D.bool false) (fun _ _ hb=>by exact⟨_,(sj h),fun e=>by subst e;have h:=ho4;cases h;have h:=ho3;exact⟨_,(sj h),fun e=>by subst e;have h:=ho2;cases h;have h:=ho1;cases h;exact hb⟩⟩) rfl (.t1 (.tmp rfl)) (.refl _) trivial trivial
     ·replace h:=ab c28 h;refine .ct rfl c28 ?_;refine .skip (Ok.on ?_);refine .region (.mv rfl<|.ar rfl rfl rfl<|.aq rfl<|.nil) rfl (fun _ _ hs=>⟨(IntKind.i64.wrap (v12+1)),(sj h),hs.sub (.of rfl) trivial rfl rfl⟩)
    ·replace h:=ab c17 h;refine .ct rfl c17 ?_;refine .exit (fun a w hs=>⟨_,(sj h),fun e=>by subst e;have h:=ho4;exact aT (⟨(),(sj h),hs.sub (.of rfl) trivial rfl rfl⟩)⟩)
   ·rintro⟨⟩ rfl
    try dsimp only
    refine .region (.mv rfl<|.ar rfl rfl rfl<|.aq rfl<|.nil) rfl (fun _ _ hs=>⟨(IntKind.i64.wrap (v4+1)),(sj h),hs.sub (.of rfl) trivial rfl rfl⟩)
  ·replace h:=ab c9 h;refine .ct rfl c9 ?_;refine .exit (fun a w hs=>⟨_,(sj h),fun e=>by subst e;have h:=ho2;exact aT (⟨(),(sj h),hs.sub trivial trivial rfl rfl⟩)⟩)
 ·rintro⟨⟩ rfl
  try dsimp only
  refine .al (.aq rfl<|.nil) rfl ?_;cases h;refine .aQ (fun _ _ hb=>hb) rfl (.t1 (.tmp rfl)) (.refl _) trivial trivial
def dA(a1:List (List Rat))(v4:Int)(v13:Int)(v26:Int)(v27:List Rat):Option (St (Int×(List Rat)) (List Rat)):=(if(decide (v26<(a1.length:Int)))=true then(cl ((0:Int)<=(IntKind.u64.wrap v26)) ((if((Int.tmod (Int.fdiv v4 (2^(min (IntKind.u64.wrap v26).toNat IntKind.i64.bits))) 2)==1)=true then(ix a1 v13).bind fun v37=>(ix v37 v26).bind fun v39=>cl ((v27.length+([v39]).length)*64<=140737488355328/\v27.length+([v39]).length<=9223372036854775807) (some ((v27++[v39])))else some (v27)))).bind fun v42=>some (St.next ((IntKind.i64.wrap (v26+1)),v42))else some (St.done v27))
def dz(a1:List (List Rat))(v4:Int)(v13:Int)(v14:List (List Rat)):Option (St (Int×(List (List Rat))) (List (List Rat))):=(if(decide (v13<(a1.length:Int)))=true then(cl ((0:Int)<=(IntKind.u64.wrap v13)) ((if((Int.tmod (Int.fdiv v4 (2^(min (IntKind.u64.wrap v13).toNat IntKind.i64.bits))) 2)==0)=true then some (v14)else((Loop (fun(s:Int×(List Rat))=>dA a1 v4 v13 s.1 s.2) (0,([]:List Rat))).bind fun v43=>some (v43)).bind fun v44=>cl ((v14.length+1)*24<=140737488355328/\v14.length+1<=9223372036854775807) (some ((v14++[v44])))))).bind fun v46=>some (St.next ((IntKind.i64.wrap (v13+1)),v46))else some (St.done v14))
def bG(a1:List (List Rat))(v4:Int):Option (St Int (Ex Unit Bool)):=cl ((0:Int)<=(IntKind.u64.wrap (a1.length:Int))) ((if(decide (v4<(IntKind.i64.wrap (1*2^(min (IntKind.u64.wrap (a1.length:Int)).toNat IntKind.i64.bits)))))=true then((Loop (fun(s:Int×(List (List Rat)))=>dz a1 v4 s.1 s.2) (0,([]:List (List Rat)))).bind fun v47=>some (v47)).bind fun v48=>(oN v48).bind fun v49=>(cZ v49).bind fun v51=>(if(decide (v51<0))=true then some (St.done (Ex.ret false))else some (St.next (IntKind.i64.wrap (v4+1))))else some (St.done (Ex.cf ()))))
def cM(a1:List (List Rat)):Option Bool:=((Loop (fun(s:Int)=>bG a1 s) 1).bind fun o5=>(match o5 with|Ex.cf ()=>some (Ex.cf ())|Ex.ret r54=>some (Ex.ret r54))).bind fun o2=>(match o2 with|Ex.cf ()=>some true|Ex.ret r55=>some r55)
theorem rO{a1:List (List Rat)}{r56:Bool}(h:cM a1=some r56):bh PP 136 [] [ai (ak.slice ak.rq) a1] [] (D.bool r56):=by
 unfold cM at h;refine .of Go.Proofs.Tryz.func136 rfl (by kernel_rfl) rfl rfl rfl rfl rfl rfl (fun A w0 L b=>?_);show Ok PP _ [(0,ai (ak.slice ak.rq) a1)] [] _ _;refine .al (.aq rfl<|.nil) rfl ?_;obtain⟨o2,hp3,h⟩:=bind_some h;refine .cd (fun i=>o2=Ex.cf i) (fun(i:Unit)=>[]) (fun(i:Unit)=>[]) ?_ ?_
 ·have ho1:=h;have h:=hp3;refine .al (.aq rfl<|.nil) rfl ?_;obtain⟨o5,hl6,h⟩:=bind_some h;have ho2:=h;refine .block (.bV (fun(s:Int)=>[(0,ai (ak.slice ak.rq) a1),(3,D.int .i64 s)]) (fun(s:Int)=>[]) hl6 (.of rfl) trivial rfl rfl ?_);rintro v4 st7 hb8;have h:bG a1 v4=some st7:=hb8;unfold bG at h
  try dsimp only
  refine .sq ?_;obtain⟨k9,h⟩:=av h;refine .al (.mv rfl<|.mv rfl<|.ec rfl aJ<|.cv rfl oc rfl<|.sh rfl rfl (JB k9)<|.cm rfl rfl rfl<|.nil) rfl ?_;by_cases c10:(decide (v4<(IntKind.i64.wrap (1*2^(min (IntKind.u64.wrap (a1.length:Int)).toNat IntKind.i64.bits)))))=true
  ·replace h:=aa c10 h;refine .cp rfl c10 ?_;refine .skip (Ok.on ?_);refine .sq ?_;refine .block ?_;refine .al (.aq rfl<|.nil) rfl ?_;obtain⟨v48,hp12,h⟩:=bind_some h;refine .cd (fun i=>v48=i) (fun(i:(List (List Rat)))=>[(0,ai (ak.slice ak.rq) a1),(3,D.int .i64 v4),(4,D.own 2000004)]) (fun(i:(List (List Rat)))=>[(2000004,Hp.cc ak.rq 69 4000004 ([])),(4000004,Hp.store ak.rq 37 i)]) ?_ ?_
   ·have ho3:=h;have h:=hp12;refine .al (.aq rfl<|.nil) rfl ?_;refine .E8 ak.rq 4 2000004 4000004 69 37 rfl rfl rfl rfl ?_;obtain⟨o15,hl16,h⟩:=bind_some h;have ho4:=h;refine .block (.bV (fun(s:Int×(List (List Rat)))=>[(0,ai (ak.slice ak.rq) a1),(3,D.int .i64 v4),(4,D.own 2000004),(5,D.int .i64 s.1)]) (fun(s:Int×(List (List Rat)))=>[(2000004,Hp.cc ak.rq 69 4000004 ([])),(4000004,Hp.store ak.rq 37 s.2)]) hl16 (.of rfl) (.of rfl) rfl rfl ?_);rintro⟨v13,v14⟩ st17 hb18;have h:dz a1 v4 v13 v14=some st17:=hb18;unfold dz at h
    try dsimp only
    refine .sq ?_;refine .al (.mv rfl<|.mv rfl<|.ec rfl aJ<|.cm rfl rfl rfl<|.nil) rfl ?_;by_cases c19:(decide (v13<(a1.length:Int)))=true
    ·replace h:=aa c19 h;refine .cp rfl c19 ?_;refine .skip (Ok.on ?_);obtain⟨v46,hp21,h⟩:=bind_some h;refine .cd (fun i=>v46=i) (fun(i:(List (List Rat)))=>[(0,ai (ak.slice ak.rq) a1),(3,D.int .i64 v4),(4,D.own 2000004),(5,D.int .i64 v13)]) (fun(i:(List (List Rat)))=>[(2000004,Hp.cc ak.rq 69 4000004 ([])),(4000004,Hp.store ak.rq 37 i)]) ?_ ?_
     ·have ho5:=h;have h:=hp21;refine .block ?_;refine .sq ?_;obtain⟨k22,h⟩:=av h;refine .al (.mv rfl<|.mv rfl<|.cv rfl oc rfl<|.sh rfl rfl (IW k22)<|.ar rfl rfl (tl (by decide))<|.cm rfl rfl rfl<|.nil) rfl ?_;by_cases c23:((Int.tmod (Int.fdiv v4 (2^(min (IntKind.u64.wrap v13).toNat IntKind.i64.bits))) 2)==0)=true
      ·replace h:=aa c23 h;refine .cp rfl c23 ?_;refine .exit (fun _ _ hs=>⟨v14,(sj h),hs.sub (.of rfl) (.of rfl) rfl rfl⟩)
      ·replace h:=ab c23 h;refine .ct rfl c23 ?_;refine .skip (Ok.on ?_);refine .al (.aq rfl<|.nil) rfl ?_;obtain⟨v44,hp25,h⟩:=bind_some h;refine .cd (fun i=>v44=i) (fun(i:(List Rat))=>[(0,ai (ak.slice ak.rq) a1),(3,D.int .i64 v4),(4,D.own 2000004),(5,D.int .i64 v13),(6,D.own 2000006)]) (fun(i:(List Rat))=>[(2000004,Hp.cc ak.rq 69 4000004 ([])),(4000004,Hp.store ak.rq 37 v14),(2000006,aY ak.rq 37 i)]) ?_ ?_
       ·have ho6:=h;have h:=hp25;refine .al (.aq rfl<|.nil) rfl ?_;refine .ju ak.rq 6 2000006 37 rfl rfl ?_;obtain⟨o28,hl29,h⟩:=bind_some h;have ho7:=h;refine .block (.bV (fun(s:Int×(List Rat))=>[(0,ai (ak.slice ak.rq) a1),(3,D.int .i64 v4),(4,D.own 2000004),(5,D.int .i64 v13),(6,D.own 2000006),(7,D.int .i64 s.1)]) (fun(s:Int×(List Rat))=>[(2000004,Hp.cc ak.rq 69 4000004 ([])),(4000004,Hp.store ak.rq 37 v14),(2000006,aY ak.rq 37 s.2)]) hl29 (.of rfl) (.of rfl) rfl rfl ?_);rintro⟨v26,v27⟩ st30 hb31;have h:dA a1 v4 v13 v26 v27=some st30:=hb31;unfold dA at h
        try dsimp only
        refine .sq ?_;refine .al (.mv rfl<|.mv rfl<|.ec rfl aJ<|.cm rfl rfl rfl<|.nil) rfl ?_;by_cases c32:(decide (v26<(a1.length:Int)))=true
        ·replace h:=aa c32 h;refine .cp rfl c32 ?_;refine .skip (Ok.on ?_);obtain⟨v42,hp34,h⟩:=bind_some h;refine .cd (fun i=>v42=i) (fun(i:(List Rat))=>[(0,ai (ak.slice ak.rq) a1),(3,D.int .i64 v4),(4,D.own 2000004),(5,D.int .i64 v13),(6,D.own 49),(7,D.int .i64 v26)]) (fun(i:(List Rat))=>[(2000004,Hp.cc ak.rq 69 4000004 ([])),(4000004,Hp.store ak.rq 37 v14),(49,aY ak.rq 37 i)]) ?_ ?_
         ·have ho8:=h;have h:=hp34;refine .block ?_;obtain⟨k35,h⟩:=av h;refine .al (.mv rfl<|.mv rfl<|.cv rfl oc rfl<|.sh rfl rfl (IW k35)<|.ar rfl rfl (tl (by decide))<|.cm rfl rfl rfl<|.nil) rfl ?_;by_cases c36:((Int.tmod (Int.fdiv v4 (2^(min (IntKind.u64.wrap v26).toNat IntKind.i64.bits))) 2)==1)=true
          ·replace h:=aa c36 h;refine .cp rfl c36 ?_;refine .sl 6 rfl rfl rfl ?_;obtain⟨v37,e38,h⟩:=bind_some h;obtain⟨v39,e40,h⟩:=bind_some h;obtain⟨k41,h⟩:=av h;refine .region (.mv rfl<|.mv rfl<|.mv rfl<|.lN rfl rfl aF (af e38).1 (af e38).2<|.i4 rfl aP<|.mv rfl<|.lN rfl rfl bn (af e40).1 (af e40).2<|.Cs (l:=iB (v39)) rfl aj rfl<|.Cw (e:=ak.rq) [v39] [(0,_,qd v39,iB (v39))] dK rfl rfl rfl ⟨rfl,rfl,.agg _,rfl,trivial⟩ ⟨rfl,trivial⟩ rfl rfl<|.B3 (ys:=[v39]) rfl .sl rfl (.refl _) rfl dK rfl k41.1 k41.2 rfl<|.aq rfl<|.nil) rfl (fun _ _ hs=>⟨(v27++[v39]),(sj h),hs.sub (.of rfl) (.of rfl) rfl rfl⟩)
          ·replace h:=ab c36 h;refine .ct rfl c36 ?_;refine .skip (fun _ _ hs=>⟨v27,(sj h),hs.kC (fun r=>match r with|49=>2000006|r=>r) (.r rfl rfl<|.r rfl rfl<|.p rfl (.own (r:=2000004))<|.r rfl rfl<|.p rfl (.own (r:=49))<|.r rfl rfl<|trivial) (.p rfl (.cc (s:=4000004))<|.r rfl rfl<|.r rfl rfl<|trivial) rfl rfl rfl⟩)
         ·rintro _ rfl
          try dsimp only
          refine .region (.mv rfl<|.ar rfl rfl rfl<|.aq rfl<|.nil) rfl (fun _ _ hs=>⟨((IntKind.i64.wrap (v26+1)),v42),(sj h),hs.kC (fun r=>match r with|2000006=>49|r=>r) (.r rfl rfl<|.r rfl rfl<|.p rfl (.own (r:=2000004))<|.r rfl rfl<|.p rfl (.own (r:=2000006))<|.r rfl rfl<|trivial) (.p rfl (.cc (s:=4000004))<|.r rfl rfl<|.r rfl rfl<|trivial) rfl rfl rfl⟩)
        ·replace h:=ab c32 h;refine .ct rfl c32 ?_;refine .exit (fun a w hs=>⟨_,(sj h),fun e=>by subst e;have h:=ho7;exact aT (⟨v27,(sj h),hs.sub (.of rfl) (.of rfl) rfl rfl⟩)⟩)
       ·rintro _ rfl
        try dsimp only
        refine .fL 4 rfl rfl rfl ?_;refine .sl 6 rfl rfl rfl ?_;refine .ti 6 (.own 2000006) rfl .sl ?_;obtain⟨k45,h⟩:=av h;refine .region (.mv rfl<|.mv rfl<|.Js rfl cO rfl<|.Jm (s2:=3000053) rfl .sl rfl rfl rfl rfl rfl cO k45.1 k45.2 rfl rfl ⟨by decide,by decide,by decide,by decide,by decide,by decide,by decide⟩<|.aq rfl<|.nil) rfl (fun _ _ hs=>⟨(v14++[v44]),(sj h),hs.kC (fun r=>match r with|2000004=>53|4000004=>3000053|r=>r) (.r rfl rfl<|.r rfl rfl<|.p rfl (.own (r:=2000004))<|.r rfl rfl<|trivial) (.p rfl (.cc (s:=4000004))<|.r rfl rfl<|trivial) rfl rfl rfl⟩)
     ·rintro _ rfl
      try dsimp only
      refine .region (.mv rfl<|.ar rfl rfl rfl<|.aq rfl<|.nil) rfl (fun _ _ hs=>⟨((IntKind.i64.wrap (v13+1)),v46),(sj h),hs.sub (.of rfl) (.of rfl) rfl rfl⟩)
    ·replace h:=ab c19 h;refine .ct rfl c19 ?_;refine .exit (fun a w hs=>⟨_,(sj h),fun e=>by subst e;have h:=ho4;exact aT (⟨v14,(sj h),hs.sub (.of rfl) (.of rfl) rfl rfl⟩)⟩)
   ·rintro _ rfl
    try dsimp only
    refine .fL 4 rfl rfl rfl ?_;refine .ti 4 (.own 2000004) rfl .sl ?_;refine .yV 4 rfl rfl rfl rfl rfl ?_;obtain⟨v49,e50,h⟩:=bind_some h;obtain⟨v51,e52,h⟩:=bind_some h;refine .al (.mv rfl<|.ag (Bh e50) ⟨rfl,trivial⟩ trivial trivial<|.ag (xx e52) ⟨rfl,trivial⟩ trivial trivial<|.cm rfl rfl rfl<|.nil) rfl ?_;by_cases c53:(decide (v51<0))=true
    ·replace h:=aa c53 h;refine .cp rfl c53 ?_;refine .al (.aq rfl<|.nil) rfl ?_;refine .aQ (Hi:=[]) (Ho:=[]) (b:=b) (fn:=Go.Proofs.Tryz.f136) (d:=D.bool false) (fun _ _ hb=>by exact⟨_,(sj h),fun e=>by subst e;have h:=ho2;cases h;have h:=ho1;cases h;exact hb⟩) rfl (.t1 (.tmp rfl)) (.refl _) trivial trivial
    ·replace h:=ab c53 h;refine .ct rfl c53 ?_;refine .skip (Ok.on ?_);refine .region (.mv rfl<|.ar rfl rfl rfl<|.aq rfl<|.nil) rfl (fun _ _ hs=>⟨(IntKind.i64.wrap (v4+1)),(sj h),hs.sub (.of rfl) trivial rfl rfl⟩)
  ·replace h:=ab c10 h;refine .ct rfl c10 ?_;refine .exit (fun a w hs=>⟨_,(sj h),fun e=>by subst e;have h:=ho2;exact aT (⟨(),(sj h),hs.sub trivial trivial rfl rfl⟩)⟩)
 ·rintro⟨⟩ rfl
  try dsimp only
  refine .al (.aq rfl<|.nil) rfl ?_;cases h;refine .aQ (fun _ _ hb=>hb) rfl (.t1 (.tmp rfl)) (.refl _) trivial trivial
end
end Go.Am
namespace Go.Am
open Go.RowKit
def En(m lo:Nat):Value->Value
 |.slice A n c=>.slice (if c=lo then A else A.map (·.add (lo*m))) (n-lo) (c-lo)
 |v=>v
theorem Cc(m:Nat)(v:Value):En m 0 v=v:=by
 cases v with
 |slice A n c=>cases A<;>simp[En,Addr.add]
 |_=>rfl
def D.mv(s k lo m:Nat):D where
 p:=fun ε _ _ v=>v.oneCell'=true/\∃(vs:Array Value) (u:Value),ε s=.agg vs/\vs[k]?=some u/\u.oneCell'=true/\v=En m lo u
 nm:=[s]
 sh:=.one
 mono:=fun h he _=>by rw[he _ (by simp)];exact h
 jR:=fun h=>h.1
theorem tZ.mv{ρ:Nat->Nat}{s k lo m:Nat}:tZ ρ (.mv (ρ s) k lo m) (.mv s k lo m):=⟨fun _ _ _ _ h=>h,fun r' hr'=>by simp[D.mv]at hr'|-;rw[hr']⟩
theorem tZ.KD{ρ:Nat->Nat}{s k m:Nat}:tZ ρ (.mr (ρ s) k) (.mv s k 0 m):=⟨fun _ _ _ _ ⟨h1,vs,h2,h3⟩=>⟨h1,vs,_,h2,h3,h1,(Cc m _).symm⟩,fun r' hr'=>by simp[D.mv]at hr'|-;rw[hr'];simp[D.mr]⟩
section
variable {P:Program} {os:List Oper} {c:Ctx} {T T':List (Nat×D)} {H H':List (Nat×Hp)} {sps:List Spec}
variable {ops:Array Oper} {dst:Option Nat} {ty:TypeId} {pos:String} {aft:Array Edge}
variable {α:Type} {e:ak α} {te tr:TypeId} {r s:Nat} {M X:List (List α)}
theorem an.JS{t:TypeId}{x y:Operand}{k m:Nat}{kd:IntKind}{z:Int}{xs:List α}(hx:ev T x=some (.mr s k))(hy:ev T y=some (.int kd z))(hh:ah H s=some (.store e tr M))(hM:M[k]?=some xs)(ht:sle P t=some m)(h0:0<=z)(h1:z<=xs.length)(hm:Nat.blt 0 e.n=true)
  (hr:an P ops c os (bC T dst (.mv s k z.toNat m)) H sps T' H'):
  an P ops c (⟨dst,.slice t x (some y) none none,ty,pos,aft,none⟩::os) T H (y5 [(x,.mr s k),(y,.int kd z)] s (.store e tr M) (.mv s k z.toNat m)::sps) T' H':=
 .ask rfl (two hx hy) hh (fun r' hr'=>.inl (by simpa [D.mv]using hr')) (fun ε w S a F ha hp=>by
  have h2:=ha (x,.mr s k) (by simp);have h3:a.eval y=.int kd z:=ha (y,.int kd z) (by simp);obtain⟨G,hrow⟩:=oI hM hp h2;obtain⟨A,cap,hb,hA⟩:=xp (by simpa using hm) hrow;obtain⟨_,vs,e1,e2⟩:=h2;dsimp only at hb e2;obtain⟨e',he,hs⟩:=m_ ht;refine⟨En m z.toNat (a.eval x),?_,?_,vs,_,e1,e2,by rw[hb];rfl,rfl⟩
  ·simp only[execOp,Instr.sliceAt,run_underlying he,Sem.run_bind,Result.andThen_ok,Instr.slice,hb,Option.map_some,Option.map_none,Instr.sliceBounds,fZ _ kd z xs.length _ h0 h1 h3,Sem.run_pure,hs];rfl
  ·rw[hb];rfl) hr
theorem an.J9{xt yt:TypeId}{x y:Operand}{k lo m:Nat}{xs:List α}(ht:isSlice P xt=true)(hx:ev T x=some (.mv s k lo m))(hy:ev T y=some .nil)(hh:ah H s=some (.store e tr M))(hM:M[k]?=some xs)(hm:Nat.blt 0 e.n=true)
  (hr:an P ops c os (bC T dst (.I0 (xs=[]))) H sps T' H'):
  an P ops c (⟨dst,.binOp .eql xt x y yt,ty,pos,aft,none⟩::os) T H (y5 [(x,.mv s k lo m),(y,.nil)] s (.store e tr M) (.I0 (xs=[]))::sps) T' H':=
 .ask rfl (two hx hy) hh (fun r' hr'=>by cases hr') (fun ε w S a F ha hp=>by
  obtain⟨h1,vs,u,e1,e2,hu1,e3⟩:=ha (x,.mv s k lo m) (by simp);have h2:a.eval y=.slice none 0 0:=ha (y,.nil) (by simp);obtain⟨G,hrow⟩:=oI hM hp (v:=u) ⟨hu1,vs,e1,e2⟩;obtain⟨A,cap,hb,hA⟩:=xp (by simpa using hm) hrow;unfold isSlice at ht
  split at ht<;>try cases ht
  rename_i e' he;subst hb;refine⟨.bool A.isNone,?_,A.isNone,rfl,fun h=>?_⟩
  ·have hv:∃B n' c',a.eval x=.slice B n' c'/\B.isNone=A.isNone:=by
    dsimp only at e3;rw[e3];refine⟨_,_,_,rfl,?_⟩
    split<;>cases A<;>rfl
   obtain⟨B,n',c',hv,hB⟩:=hv;have hq:(Op.equal xt (.slice B n' c') (.slice none 0 0)).run P w=.ok A.isNone w:=by
    simp only[Op.equal,Op.maxDepth];rw[←hB];exact nu w 9999 B n' c' he
   simp only[execOp,hv,h2,vx,Sem.run_bind,Sem.run_pure,Result.andThen_ok];simp[binOp,hq]
  ·cases A with
   |some ad=>cases h
   |none=>
    have:=hA
    cases xs with
    |nil=>rfl
    |cons y ys=>exact absurd (hA (by simp)) (by simp)) hr
theorem H9{ε:Env}{w:World}{S:cX}{F:cX}{v:Value}{k lo m:Nat}{xs:List α}(hp:(Hp.store e tr M).p ε w S (ε s) F)(hM:M[k]?=some xs)(hmn:m=e.n)(hm0:0<m)(hlo:lo<=xs.length)(hv:(D.mv s k lo m).p ε w S v):
  ∃A cap2 vs,v=.slice A (xs.length-lo) cap2/\(xs.length-lo=0\/∃b o,A=some ⟨b,o,none⟩/\∀(j:Nat) u,vs[j]?=some u->w.cell? ⟨b,o+j,none⟩=some u)/\(∀u∈vs,u.oneCell'=true)/\cr ε w S (flat e (xs.drop lo)) vs:=by
 subst hmn;obtain⟨h1,ws,u,e1,e2,hu1,e3⟩:=hv;obtain⟨G,hrow⟩:=oI hM hp (v:=u) ⟨hu1,ws,e1,e2⟩;rcases hrow with⟨h0,hb,_⟩|⟨g,n,cap,cs,rest,hb,_,hg,hc1,hcap,_,hln,hcs⟩
 ·have h0':xs=[]:=by
   have:=bK e xs;rw[h0]at this;have:xs.length*e.n=0:=this.symm;exact List.eq_nil_of_length_eq_zero ((Nat.mul_eq_zero.1 this).resolve_right (by omega))
  subst h0';subst hb;have:lo=0:=by simpa using hlo
  subst this;refine⟨none,0,[],by rw[e3];simp[En],.inl rfl,fun u hu=>by(cases hu),?_⟩;rw[List.drop_nil];exact trivial
 ·have hn:n=xs.length:=by
   have:=bK e xs;rw[hln]at this;exact Nat.eq_of_mul_eq_mul_right hm0 this
  subst hn;have hcl:cs.length=xs.length*e.n:=by rw[aU hcs,bK]
  refine⟨_,_,cs.drop (lo*e.n),by rw[e3,hb];rfl,?_,fun u hu=>hc1 u (List.mem_of_mem_drop hu),by rw[←mS];exact fv _ hcs⟩;by_cases h0:xs.length-lo=0
  ·exact .inl h0
  ·have hle:xs.length*e.n<=cap*e.n:=by rw[←hcap,List.length_append];omega
   have hle2:xs.length<=cap:=Nat.le_of_mul_le_mul_right hle hm0;refine .inr ⟨g,0+lo*e.n,by rw[if_neg (by omega),Option.map_some,Addr.add_lit],fun j u hj=>?_⟩;rw[List.getElem?_drop]at hj;rw[iS hg,Nat.zero_add,List.getElem?_append_left (List.getElem?_eq_some_iff.1 hj).1];exact hj
theorem an.JJ{t te:TypeId}{x y:Operand}{r1 r m bt k lo:Nat}{xs ys:List α}{z:List D}{dx dy:D}(hx:ev T x=some dx)(hdx:Le dx (.own r1))(hy:ev T y=some dy)(hdy:Le dy (.mv s k lo m))(hh:ah H r1=some (aY e te ys))(hk:ah H s=some (.store e tr M))(hM:M[k]?=some xs)(hlo:lo<=xs.length)(hm:nF P t=some (te,m,bt,z))(hmn:m=e.n)
  (hb:(ys.length+(xs.length-lo))*bt<=140737488355328)(hmax:ys.length+(xs.length-lo)<=9223372036854775807)(hf:ah H r=none)
  (hr:an P ops c os ((r,.own r)::T) ((r1,.dead)::(r,aY e te (ys++xs.drop lo))::H) sps T' H'):
  an P ops c (⟨some r,.call {callee:=.builtin .append,args:=#[x,y],argTypes:=#[t,t]},ty,pos,aft,none⟩::os) T H
   (apps x dx y dy r1 r [(r1,aY e te ys),(s,.store e tr M)] (aY e te (ys++xs.drop lo))::sps) T' H':=by
 refine .cons (sp:=apps x dx y dy r1 r [(r1,aY e te ys),(s,.store e tr M)] (aY e te (ys++xs.drop lo))) ?_ (bg.2 ⟨(ay hx).1,(ay hy).1⟩) ⟨hh,hk,trivial⟩ ⟨hf,trivial⟩ hr;intro hd T0 H0 hi dw hnew a w ⟨ε,φ,hs⟩ Q K hK;rw[if_pos (bp rfl _)];obtain⟨hi1,hi2⟩:=bg.1 hi;obtain⟨_,_,_,_,_,_,_,_,_,_,hm0⟩:=iv hm;have h1:a.eval x=ε r1:=(hdx.1 _ _ _ _ (hs.ev hi1 (ay hx).2).1).1;obtain⟨A,cap2,vs,h2,hvA,hv1,hv⟩:=H9 (hs.h s _ dw.2.1) hM hmn hm0 hlo (hdy.1 _ _ _ _ (hs.ev hi2 (ay hy).2).1);subst hmn;obtain⟨v',w',ε',φ',hrun,hS,ev',ho⟩:=hs.app (ty:=ty) hm (r:=r) (n2:=xs.length-lo) (hl:=dM e (ys++xs.drop lo)) dw.1 hnew.1 (bK e ys) (by rw[bK,List.length_drop]) (dM e (xs.drop lo)) (ob e ys (xs.drop lo)).symm hvA hv1 hv hb hmax (cap2:=cap2);have hrun':(Builtin.append_ #[t,t] ty #[a.eval x,a.eval y]).run P w=.ok v' w':=by rw[h1,h2];exact hrun
 simp only[Oper.wp,lW a w w' hrun',Oper.upon];refine hK _ _ ⟨ε',φ',hS.put (d:=.own r) (du hd) ⟨ev'.symm,ho⟩ (fun r' hr'=>?_)⟩;have:r'=r:=by simpa [D.own]using hr'
 subst this;show bu H0 [(r1,.dead),(r',aY e te (ys++xs.drop lo))] r'≠none;rw[fY];have hne:r'≠r1:=fun e=>by subst e;have:=dw.1;have h0:=hnew.1;rw[h0]at this;cases this
 rw[aK _ _ hne,au];simp
theorem ya{ε:Env}{w:World}{S:cX}{F1:cX}{xs:List α}{vs:Array Value}{G:Nat->cX}{v:Value}{z:Nat}(hz:z<M.length)(h1:vs.size=M.length)(h2:∀k xs v,M[k]?=some xs->vs[k]?=some v->k≠z->(aY e tr xs).p ε w S v (G k))(h3:∀k k',k<M.length->k'<M.length->k≠k'->∀i,G k i->¬G k' i)(hx:(aY e tr xs).p ε w S v F1)(hd:∀k,k<M.length->∀i,G k i->¬F1 i):
  ((vs.set z v (by omega)).size=(M.set z xs).length)/\(∀k ys u,(M.set z xs)[k]?=some ys->(vs.set z v (by omega))[k]?=some u->(aY e tr ys).p ε w S u (dH G z F1 k))/\(∀k k',k<(M.set z xs).length->k'<(M.set z xs).length->k≠k'->∀i,dH G z F1 k i->¬dH G z F1 k' i)/\(∀k,k<(M.set z xs).length->∀i,dH G z F1 k i->(k<M.length/\G k i)\/F1 i):=by
 have gn:dH G z F1 z=F1:=au _ _ _;have gk:∀k,k≠z->dH G z F1 k=G k:=fun k hk=>aK _ _ hk;refine⟨by simp[h1],fun k ys u hy hu=>?_,fun k k' hk hk' hne i hi=>?_,fun k hk i hi=>?_⟩
 ·by_cases hk:k=z
  ·subst hk;rw[gn];rw[List.getElem?_set_self hz]at hy;injection hy with hy;subst hy;have:(vs.set k v (by omega))[k]?=some v:=by simp[h1,hz]
   rw[this]at hu;injection hu with hu;subst hu;exact hx
  ·rw[gk k hk];rw[List.getElem?_set_ne (Ne.symm hk)]at hy;have hu:vs[k]?=some u:=by rw[←hu];simp[Array.getElem?_set,Ne.symm hk]
   exact h2 k ys u hy hu hk
 ·rw[List.length_set]at hk hk';by_cases a1:k=z
  ·subst a1;rw[gn]at hi;rw[gk k' (Ne.symm hne)];exact fun h=>hd k' hk' i h hi
  ·rw[gk k a1]at hi;by_cases a2:k'=z
   ·subst a2;rw[gn];exact hd k hk i hi
   ·rw[gk k' a2];exact h3 k k' hk hk' hne i hi
 ·rw[List.length_set]at hk;by_cases a1:k=z
  ·subst a1;rw[gn]at hi;exact .inr hi
  ·rw[gk k a1]at hi;exact .inl ⟨hk,hi⟩
theorem yx{t:TypeId}{x y:Operand}{r1 s2 m:Nat}{z:Int}{xs:List α}{hp:Hp}{l:List D}(hrow:∀ε w S A,hp.p ε w S (ε r) A->(∃vs:Array Value,ε s=.agg vs/\vs.size=M.length)->lH 1 te l ε w S (ε r) A)(hll:l.length=M.length)(hl:∀d,l.set z.toNat d=(cR s M.length).set z.toNat d)(hz:z.toNat<M.length)(h:ev T x=some (.ref r (z.toNat*m)))(hy:ev T y=some (.own r1))(hh:ah H r=some hp)(hk:ah H s=some (.store e tr M))(h1:ah H r1=some (aY e tr xs))(hf:ah H s2=none)
  (hne:r≠s/\r≠r1/\s≠r1)(hm:m=1)(ht:lay P t=some none)
  (hr:an P ops c os (bC T dst .any) ((r,.cc e te s2 [])::(s2,.store e tr (M.set z.toNat xs))::(s,.dead)::(r1,.dead)::H) sps T' H'):
  an P ops c (⟨dst,.store t x y,ty,pos,aft,none⟩::os) T H (EI x (.ref r (z.toNat*m)) y (.own r1) [(r,hp),(s,.store e tr M),(r1,aY e tr xs)] [(r,.cc e te s2 []),(s2,.store e tr (M.set z.toNat xs)),(s,.dead),(r1,.dead)] [s2]::sps) T' H':=by
 subst hm;refine .cons (sp:=EI x (.ref r (z.toNat*1)) y (.own r1) [(r,hp),(s,.store e tr M),(r1,aY e tr xs)] [(r,.cc e te s2 []),(s2,.store e tr (M.set z.toNat xs)),(s,.dead),(r1,.dead)] [s2]) ?_ (bg.2 ⟨(ay h).1,(ay hy).1⟩) ⟨hh,hk,h1,trivial⟩ ⟨hf,trivial⟩ hr;intro hdst T0 H0 hi dw hnew a w ⟨ε,φ,hs⟩ Q K hK;rw[if_pos (bp rfl _)];obtain⟨hi1,hi2⟩:=bg.1 hi;have hx:a.eval x=.pointer (some ⟨j7 (ε r),z.toNat*1,none⟩):=(hs.ev hi1 (ay h).2).1;obtain⟨hye,hyo⟩:=(hs.ev hi2 (ay hy).2).1;obtain⟨hr0,hs0,hr10,_⟩:=dw;obtain⟨vs,G,e1,e2,_⟩:=hs.h s _ hs0;have hro:=hrow ε w _ _ (hs.h r _ hr0) ⟨vs,e1,e2⟩;obtain⟨w',hst,hS⟩:=hs.Dj (P:=P) (z:=z.toNat) (d:=D.lit (ε r1)) (v:=ε r1) hr0 hro (by rw[hll];exact hz) (hye▸hyo) rfl (fun q hq=>by
  rw[hl]at hq;obtain⟨d,hd,hq'⟩:=b9.1 hq;rcases List.mem_or_eq_of_mem_set hd with hd|rfl
  ·rw[ry (b9.2 ⟨d,hd,hq'⟩),hs0];simp
  ·cases hq')
 have hrun:(execOp a.eval ⟨dst,.store t x y,ty,pos,aft,none⟩).run P w=.ok .skip w':=by
  have hcl:(a.eval y).cells=#[ε r1]:=by
   have:(ε r1).oneCell'=true:=hye▸hyo;rw[hye];exact tE this
  rw[Nat.mul_one]at hx;simp only[execOp,Instr.storeAt,hx,Instr.sureAddr,Sem.run_bind,Sem.run_pure,Result.andThen_ok,storeVar,(jz ht w).2,hcl];simp[hst]
 simp only[Oper.wp,hrun,Oper.upon];rw[hl]at hS;have u1:bu H0 [(r,.eR 1 te ((cR s M.length).set z.toNat (D.lit (ε r1))))] s=some (.store e tr M):=by rw[bJ,aK _ _ (Ne.symm hne.1)];exact hs0
 have u2:bu H0 [(r,.eR 1 te ((cR s M.length).set z.toNat (D.lit (ε r1))))] r1=some (aY e tr xs):=by rw[bJ,aK _ _ (Ne.symm hne.2.1)];exact hr10
 have u3:bu H0 [(r,.eR 1 te ((cR s M.length).set z.toNat (D.lit (ε r1))))] r=some (.eR 1 te ((cR s M.length).set z.toNat (D.lit (ε r1)))):=by rw[bJ,au]
 have u4:bu H0 [(r,.eR 1 te ((cR s M.length).set z.toNat (D.lit (ε r1))))] s2=none:=by
  rw[bJ,aK _ _ (fun e=>by rw[←e,hnew.1]at hr0;cases hr0)];exact hnew.1
 obtain⟨vs',G',f1,f2,f3,f4,f5⟩:=hS.h s _ u1;rw[e1]at f1;injection f1 with f1;subst f1;have hzv:z.toNat<vs.size:=by rw[f2];exact hz
 obtain⟨g1,g2,g3,g4⟩:=ya hz f2 (fun k xs v hx hv _=>f3 k xs v hx hv) f4 (hS.h r1 _ u2) (fun k hk i hi hi'=>hS.dj s r1 (by rw[u1];simp) (by rw[u2];simp) hne.2.2 i ((f5 i).2 ⟨k,hk,hi⟩) hi');have dE:lH 1 te (cG (vs.set z.toNat (ε r1) hzv).toList++([]:List (List α)).map (ai e)) ε w' (Am.al c (bu H0 [(r,.eR 1 te ((cR s M.length).set z.toNat (D.lit (ε r1))))]) φ) (ε r) (φ r):=by
  rw[List.map_nil,List.append_nil,uD];rcases(show lH 1 te _ ε w' _ (ε r) (φ r)from hS.h r _ u3)with⟨h0,_,_⟩|⟨g,n,cap,cs,rest,b1,b2,b3,b4,b5,b6,b7,b8⟩
  ·have:=congrArg List.length h0;rw[List.length_set,bY,List.length_nil]at this;omega
  ·refine .inr ⟨g,n,cap,cs,rest,b1,b2,b3,b4,b5,b6,?_,?_⟩
   ·rw[←b7,List.length_set,List.length_set,bY,m1,Array.length_toList,f2]
   ·rw[List.length_set,bY]at b7;have hcs:cs=vs.toList.set z.toNat (ε r1):=by
     have hl1:=aU b8;rw[List.length_set,bY]at hl1;apply List.ext_getElem
     ·rw[hl1,List.length_set];simpa using f2.symm
     ·intro k k1 k2;have hkl:k<M.length:=by omega
      by_cases hkz:k=z.toNat
      ·subst hkz;rw[List.getElem_set_self];obtain⟨v,hv,hp⟩:=gS b8 (show((cR s M.length).set z.toNat (D.lit (ε r1)))[z.toNat]?=some (D.lit (ε r1))by rw[List.getElem?_set_self (by rw[bY];exact hz)]);rw[List.getElem?_eq_getElem k1]at hv;injection hv with hv;rw[hv];exact hp
      ·rw[List.getElem_set_ne (Ne.symm hkz)];obtain⟨v,hv,_,vs',e1',e2'⟩:=gS b8 (show((cR s M.length).set z.toNat (D.lit (ε r1)))[k]?=some (D.mr s k)by rw[List.getElem?_set_ne (Ne.symm hkz),tC hkl]);rw[e1]at e1';injection e1' with e1';subst e1';rw[List.getElem?_eq_getElem k1]at hv;injection hv with hv;rw[hv];obtain⟨h3,h4⟩:=Array.getElem?_eq_some_iff.1 e2';simp[←h4]
    rw[hcs,←uD vs (ε r1) z.toNat hzv];exact kg.2 (by simp)
 have hG:=hS.wN (r:=r) (te:=te) (X:=[]) (s2:=s2) (e:=e) (tr:=tr) (M:=M.set z.toNat xs) [s,r1] (fun q hq=>by
   simp only[List.mem_cons,List.not_mem_nil,or_false]at hq;rcases hq with rfl|rfl
   ·rw[u1];simp
   ·rw[u2];simp) u4 (by rw[u3];simp) (by simp[hne.1,hne.2.1]) (vs.set z.toNat (ε r1) hzv) _ g1 g2 g3 (fun k hk i hi=>(g4 k hk i hi).elim (fun h=>⟨s,by simp,(f5 i).2 ⟨k,h.1,h.2⟩⟩) (fun h=>⟨r1,by simp,h⟩)) dE
 rw[oJ (by simp[ah])]at hG;obtain⟨ε2,φ2,hG⟩:=hG;exact hK _ _ ⟨ε2,φ2,hG.put (d:=.any) (du hdst) trivial (fun _ h=>by cases h)⟩
theorem an.I6{t:TypeId}{x y:Operand}{r1 s2 m:Nat}{z:Int}{xs:List α}(hz:z.toNat<M.length)(h:ev T x=some (.ref r (z.toNat*m)))(hy:ev T y=some (.own r1))(hh:ah H r=some (.cc e te s []))(hk:ah H s=some (.store e tr M))(h1:ah H r1=some (aY e tr xs))(hf:ah H s2=none)
  (hne:r≠s/\r≠r1/\s≠r1)(hm:m=1)(ht:lay P t=some none)
  (hr:an P ops c os (bC T dst .any) ((r,.cc e te s2 [])::(s2,.store e tr (M.set z.toNat xs))::(s,.dead)::(r1,.dead)::H) sps T' H'):
  an P ops c (⟨dst,.store t x y,ty,pos,aft,none⟩::os) T H (EI x (.ref r (z.toNat*m)) y (.own r1) [(r,.cc e te s []),(s,.store e tr M),(r1,aY e tr xs)] [(r,.cc e te s2 []),(s2,.store e tr (M.set z.toNat xs)),(s,.dead),(r1,.dead)] [s2]::sps) T' H':=
 yx (l:=cR s M.length) (fun ε w S A hA ⟨vs,e1,e2⟩=>by
  obtain⟨vs',e1',h⟩:=hA;rw[e1]at e1';injection e1' with e1';subst e1';rw[List.map_nil,List.append_nil,e2]at h;exact h) (bY _ _) (fun _=>rfl) hz h hy hh hk h1 hf hne hm ht hr
end
end Go.Am
namespace Go.Am
open Go.RowKit
section
variable {P:Program} {os:List Oper} {c:Ctx} {T T':List (Nat×D)} {H H':List (Nat×Hp)} {sps:List Spec}
variable {ops:Array Oper} {dst:Option Nat} {ty:TypeId} {pos:String} {aft:Array Edge}
variable {α:Type} {e:ak α} {te tr:TypeId} {r s:Nat} {M X:List (List α)}
theorem cS.split{T0:Nat->Option D}{H0:Nat->Option Hp}{a:Act}{w:World}{ε:Env}{φ:Nat->cX}(hs:cS c T0 H0 a w ε φ){z:Nat}{xs:List α}(hr:H0 r=some (.cc e te s []))(hk:H0 s=some (.store e tr M))(hM:M[z]?=some xs){s2 r1:Nat}(hs2:H0 s2=none)(hr1:H0 r1=none)(hne:s2≠r1)(hrs:r≠s):
  ∃ε' φ',cS c T0 (bu H0 [(r,.eR 1 te ((cR s2 M.length).set z .any)),(s2,.store e tr (M.set z [])),(s,.dead),(r1,aY e tr xs)]) a w ε' φ'/\(∃vs:Array Value,ε s=.agg vs/\vs[z]?=some (ε' r1)):=by
 have hz:=(List.getElem?_eq_some_iff.1 hM).1;obtain⟨vs,G,e1,e2,e3,e4,e5⟩:=hs.h s _ hk;obtain⟨vs0,e1',hrow⟩:=hs.h r _ hr;rw[e1]at e1';injection e1' with e1';subst e1';rw[List.map_nil,List.append_nil,e2]at hrow;have hzv:z<vs.size:=by omega
 have n1:r≠s2:=fun e=>by rw[e,hs2]at hr;cases hr
 have n2:r≠r1:=fun e=>by rw[e,hr1]at hr;cases hr
 have n3:s≠s2:=fun e=>by rw[e,hs2]at hk;cases hk
 have n4:s≠r1:=fun e=>by rw[e,hr1]at hk;cases hk
 let L:List (Nat×Hp):=[(r,.eR 1 te ((cR s2 M.length).set z .any)),(s2,.store e tr (M.set z [])),(s,.dead),(r1,aY e tr xs)]
 have beq_ne:∀{q p:Nat},q≠p->Nat.beq q p=false:=fun{q p} h=>by
  cases hb:Nat.beq q p with
  |false=>rfl
  |true=>exact absurd (Nat.eq_of_beq_eq_true hb) h
 have gL:∀q,ah L q=if q=r then some (.eR 1 te ((cR s2 M.length).set z .any))else if q=s2 then some (.store e tr (M.set z []))else if q=s then some .dead else if q=r1 then some (aY e tr xs)else none:=by
  intro q;have step:∀(p:Nat) (x:Hp) (K:List (Nat×Hp)),ah ((p,x)::K) q=if q=p then some x else ah K q:=by
   intro p x K;show(match Nat.beq q p with|true=>some x|false=>ah K q)=_;by_cases h:q=p
   ·subst h;simp
   ·rw[beq_ne h,if_neg h]
  show ah [(r,_),(s2,_),(s,_),(r1,_)] q=_;rw[step,step,step,step]
  rfl
 let ε':Env:=dH (dH ε s2 (.agg (vs.set z (.slice none 0 0) hzv))) r1 vs[z]
 have v1:ε' r1=vs[z]:=au _ _ _;have v2:ε' s2=.agg (vs.set z (.slice none 0 0) hzv):=by show dH _ _ _ _=_;rw[aK _ _ hne,au]
 have v3:∀q,H0 q≠none->ε' q=ε q:=fun q hq=>by
  show dH _ _ _ _=_;rw[aK _ _ (show q≠r1 from fun e=>hq (by rw[e];exact hr1)),aK _ _ (show q≠s2 from fun e=>hq (by rw[e];exact hs2))]
 let φ':Nat->cX:=fun q=>if q=s2 then(fun i=>∃j,j<M.length/\j≠z/\G j i)else if q=s then noBlocks else if q=r1 then G z else φ q
 have p1:φ' s2=fun i=>∃j,j<M.length/\j≠z/\G j i:=by simp[φ']
 have p2:φ' s=noBlocks:=by simp[φ',n3]
 have p3:φ' r1=G z:=by simp[φ',Ne.symm hne,Ne.symm n4]
 have p4:∀q,q≠s2->q≠s->q≠r1->φ' q=φ q:=fun q h1 h2 h3=>by simp[φ',h1,h2,h3]
 have p5:φ' r=φ r:=p4 r n1 hrs n2;have cls:∀q,ah L q≠none->q=r\/q=s2\/q=s\/q=r1:=fun q h=>by
  rw[gL]at h;by_cases h1:q=r
  ·exact .inl h1
  ·by_cases h2:q=s2
   ·exact .inr (.inl h2)
   ·by_cases h3:q=s
    ·exact .inr (.inr (.inl h3))
    ·by_cases h4:q=r1
     ·exact .inr (.inr (.inr h4))
     ·simp[h1,h2,h3,h4]at h
 have lr:ah L r≠none:=by rw[gL];simp
 have ls:ah L s≠none:=by rw[gL];simp[Ne.symm hrs,n3]
 have ls2:ah L s2≠none:=by rw[gL];simp[Ne.symm n1]
 have hrG:∀j,j<M.length->∀i,G j i->¬φ r i:=fun j hj i hg hf=>hs.dj s r (by rw[hk];simp) (by rw[hr];simp) (Ne.symm hrs) i ((e5 i).2 ⟨j,hj,hg⟩) hf;have hg:=hs.sG (L:=L) (ε':=ε') (φ':=φ') v3 (fun q hq=>?_) (fun q k hq hk'=>?_) (fun q q' hq hq' hqq k hk1=>?_) (fun q x hq=>?_) (fun q x hq q' hq'=>?_)
 ·refine⟨ε',φ',hg.1,vs,e1,?_⟩;rw[v1];simp[hzv]
 ·rw[gL]at hq;refine p4 q (fun e=>?_) (fun e=>?_) (fun e=>?_)
  ·rw[e]at hq;simp[Ne.symm n1]at hq
  ·rw[e]at hq;simp[Ne.symm hrs,n3]at hq
  ·rw[e]at hq;simp[Ne.symm n2,Ne.symm hne,Ne.symm n4]at hq
 ·rcases cls q hq with rfl|rfl|rfl|rfl
  ·rw[p5]at hk';exact⟨_,by rw[hr];simp,lr,hk'⟩
  ·rw[p1]at hk';obtain⟨j,hj,_,hg⟩:=hk';exact⟨s,by rw[hk];simp,ls,(e5 k).2 ⟨j,hj,hg⟩⟩
  ·rw[p2]at hk';exact hk'.elim
  ·rw[p3]at hk';exact⟨s,by rw[hk];simp,ls,(e5 k).2 ⟨z,hz,hk'⟩⟩
 ·rcases cls q hq with rfl|rfl|rfl|rfl
  ·rw[p5]at hk1;rcases cls q' hq' with rfl|rfl|rfl|rfl
   ·exact absurd rfl hqq
   ·rw[p1];rintro⟨j,hj,_,hg⟩;exact hrG j hj k hg hk1
   ·rw[p2];exact fun h=>h
   ·rw[p3];exact fun h=>hrG z hz k h hk1
  ·rw[p1]at hk1;obtain⟨j,hj,hjz,hg⟩:=hk1;rcases cls q' hq' with rfl|rfl|rfl|rfl
   ·rw[p5];exact hrG j hj k hg
   ·exact absurd rfl hqq
   ·rw[p2];exact fun h=>h
   ·rw[p3];exact e4 j z hj hz hjz k hg
  ·rw[p2]at hk1;exact hk1.elim
  ·rw[p3]at hk1;rcases cls q' hq' with rfl|rfl|rfl|rfl
   ·rw[p5];exact hrG z hz k hk1
   ·rw[p1];rintro⟨j,hj,hjz,hg⟩;exact e4 j z hj hz hjz k hg hk1
   ·rw[p2];exact fun h=>h
   ·exact absurd rfl hqq
 ·have hS:∀k,Am.al c H0 φ k->Am.al c (bu H0 L) φ' k:=fun k hk'=>by
   refine⟨hk'.1,fun q' hq' hf=>?_⟩;by_cases h1:q'=s2
   ·rw[h1,p1]at hf;obtain⟨j,hj,_,hg⟩:=hf;exact hk'.2 s (by rw[hk];simp) ((e5 k).2 ⟨j,hj,hg⟩)
   ·by_cases h2:q'=s
    ·rw[h2,p2]at hf;exact hf
    ·by_cases h3:q'=r1
     ·rw[h3,p3]at hf;exact hk'.2 s (by rw[hk];simp) ((e5 k).2 ⟨z,hz,hf⟩)
     ·rw[p4 q' h1 h2 h3]at hf;by_cases h4:q'=r
      ·rw[h4]at hf;exact hk'.2 r (by rw[hr];simp) hf
      ·refine hk'.2 q' (fun h0=>hq' ?_) hf;simp only[bu];rw[gL,if_neg h4,if_neg h1,if_neg h2,if_neg h3];exact h0
  have hS':∀k,Am.al c H0 φ k->k<w.heap.size->Am.al c (bu H0 L) φ' k/\w.heap[k]?=w.heap[k]?:=fun k hk' _=>⟨hS k hk',rfl⟩;rw[gL]at hq;by_cases h1:q=r
  ·subst h1;rw[if_pos rfl]at hq;injection hq with hq;subst hq;rw[p5,v3 q (by rw[hr];simp)];show lH 1 te ((cR s2 M.length).set z .any) ε' w _ _ _;rcases hrow with⟨h0,_,_⟩|⟨g,n,cap,cs,rest,b1,b2,b3,b4,b5,b6,b7,b8⟩
   ·have:=congrArg List.length h0;rw[bY,List.length_nil]at this;omega
   ·refine .inr ⟨g,n,cap,cs,rest,b1,b2,b3,b4,b5,b6,by rw[←b7,List.length_set,bY,bY],?_⟩;have hcs:=mi e1 (by rw[e2];exact b8);subst hcs;have hm:=qh (w:=w) (S:=Am.al c (bu H0 L) φ') v2 (fun v hv=>by
     rw[Array.toList_set]at hv;rcases List.mem_or_eq_of_mem_set hv with h|rfl
     ·exact b4 v h
     ·rfl)
    rw[Array.size_set,e2,Array.toList_set]at hm;have:=uR (d:=D.any) (v:=vs[z]) (ε:=ε') (w:=w) (S:=Am.al c (bu H0 L) φ') trivial z hm;rw[List.set_set]at this;have e6:vs.toList.set z vs[z]=vs.toList:=by
     have:vs[z]=vs.toList[z]'(by simpa using hzv):=by simp
     rw[this,List.set_getElem_self]
    rw[e6]at this;exact this
  ·rw[if_neg h1]at hq;by_cases h2:q=s2
   ·subst h2;rw[if_pos rfl]at hq;injection hq with hq;subst hq;rw[p1,v2];have gz:dH G z noBlocks z=noBlocks:=au _ _ _;have gn:∀k,k≠z->dH G z noBlocks k=G k:=fun k hk=>aK _ _ hk;obtain⟨g1,g2,g3,g4⟩:=ya (e:=e) (tr:=tr) (M:=M) (ε:=ε') (w:=w) (S:=Am.al c (bu H0 L) φ') (F1:=noBlocks) (xs:=[]) (vs:=vs) (G:=G) (v:=.slice none 0 0) hz e2 (fun k xs v hx hv _=>(aY e tr xs).mono (e3 k xs v hx hv) (fun q' hq'=>by cases hq') hS' (fun _ _=>rfl)) e4 (.inl ⟨rfl,rfl,rfl⟩) (fun _ _ _ _ h=>h);refine⟨_,dH G z noBlocks,rfl,g1,g2,g3,fun i=>⟨fun⟨j,hj,hjz,hg⟩=>⟨j,by rw[List.length_set];exact hj,by rw[gn j hjz];exact hg⟩,fun⟨j,hj,hg⟩=>?_⟩⟩;rw[List.length_set]at hj;by_cases hjz:j=z
    ·subst hjz;rw[gz]at hg;exact hg.elim
    ·rw[gn j hjz]at hg;exact⟨j,hj,hjz,hg⟩
   ·rw[if_neg h2]at hq;by_cases h3:q=s
    ·subst h3;rw[if_pos rfl]at hq;injection hq with hq;subst hq;rw[p2];rfl
    ·rw[if_neg h3]at hq;by_cases h4:q=r1
     ·subst h4;rw[if_pos rfl]at hq;injection hq with hq;subst hq;rw[p3,v1];exact(aY e tr xs).mono (e3 z xs vs[z] hM (by simp[hzv])) (fun q' hq'=>by cases hq') hS' (fun _ _=>rfl)
     ·rw[if_neg h4]at hq;cases hq
 ·rw[gL]at hq;by_cases h1:q=r
  ·rw[if_pos h1]at hq;injection hq with hq;subst hq
   right
   have hq2:q'∈bW ((cR s2 M.length).set z .any):=hq';obtain⟨d,hd,hq3⟩:=b9.1 hq2;rcases List.mem_or_eq_of_mem_set hd with hd|rfl
   ·rw[ry (b9.2 ⟨d,hd,hq3⟩)];exact ls2
   ·cases hq3
  ·rw[if_neg h1]at hq;by_cases h2:q=s2
   ·rw[if_pos h2]at hq;injection hq with hq;subst hq;cases hq'
   ·rw[if_neg h2]at hq;by_cases h3:q=s
    ·rw[if_pos h3]at hq;injection hq with hq;subst hq;cases hq'
    ·rw[if_neg h3]at hq;by_cases h4:q=r1
     ·rw[if_pos h4]at hq;injection hq with hq;subst hq;cases hq'
     ·rw[if_neg h4]at hq;cases hq
theorem an.JO{t tx:TypeId}{x y:Operand}{d s2 r1 m bt k:Nat}{xs:List α}{zl:List D}{n:Int}(a0:α)(hx:ev T x=some (.mr s k))(hy:ev T y=some (.int .i64 n))(hh:ah H r=some (.cc e te s []))(hk:ah H s=some (.store e tr M))(hM:M[k]?=some xs)(hm:nF P t=some (tr,m,bt,zl))(hu:P.underlying tx=some (.int .i64))(hmn:m=e.n)(hz:se zl (e.c a0))
  (h0:0<=n)(hb:(xs.length+n.toNat)*bt<=140737488355328)(hmax:xs.length+n.toNat<=9223372036854775807)(hf:ah H d=none)(hf2:ah H s2=none)(hf1:ah H r1=none)(hne:s2≠r1/\r≠s/\d≠s2/\d≠r1)
  (hr:an P ops c os ((d,.own d)::T) ((r,.eR 1 te ((cR s2 M.length).set k .any))::(s2,.store e tr (M.set k []))::(s,.dead)::(r1,.dead)::(d,aY e tr (xs++List.replicate n.toNat a0))::H) sps T' H'):
  an P ops c (⟨some d,.call {callee:=.builtin .append,args:=#[x,y],argTypes:=#[t,tx]},ty,pos,aft,none⟩::os) T H
   ({ins:=eW x (.mr s k)++eW y (.int .i64 n),dw:=[(r,.cc e te s []),(s,.store e tr M)],out:=.own d,dE:=[(r,.eR 1 te ((cR s2 M.length).set k .any)),(s2,.store e tr (M.set k [])),(s,.dead),(r1,.dead),(d,aY e tr (xs++List.replicate n.toNat a0))],news:=[d,s2,r1]}::sps) T' H':=by
 subst hmn;refine .cons (sp:={ins:=eW x (.mr s k)++eW y (.int .i64 n),dw:=[(r,.cc e te s []),(s,.store e tr M)],out:=.own d,dE:=[(r,.eR 1 te ((cR s2 M.length).set k .any)),(s2,.store e tr (M.set k [])),(s,.dead),(r1,.dead),(d,aY e tr (xs++List.replicate n.toNat a0))],news:=[d,s2,r1]}) ?_ (bg.2 ⟨(ay hx).1,(ay hy).1⟩) ⟨hh,hk,trivial⟩ ⟨hf,hf2,hf1,trivial⟩ hr;intro hd T0 H0 hi dw hnew a w ⟨ε,φ,hs⟩ Q K hK;rw[if_pos (bp rfl _)];obtain⟨hi1,hi2⟩:=bg.1 hi;obtain⟨hnd,hn2,hn1,_⟩:=hnew;obtain⟨_,vs,ev1,ev2⟩:=(hs.ev hi1 (ay hx).2).1;have h2:a.eval y=.int .i64 n:=(hs.ev hi2 (ay hy).2).1;obtain⟨j,rfl⟩:∃j:Nat,n=j:=⟨n.toNat,by omega⟩;rw[Int.toNat_natCast]at hb hmax;simp only[Int.toNat_natCast]at hK;obtain⟨ε1,φ1,hS,vs',f1,f2⟩:=hs.split (te:=te) dw.1 dw.2.1 hM hn2 hn1 hne.1 hne.2.1;rw[ev1]at f1;injection f1 with f1;subst f1;have h1:a.eval x=ε1 r1:=by rw[ev2]at f2;injection f2
 have un:∀{q p:Nat},q≠p->Nat.beq q p=false:=fun{q p} h=>by
  cases hb:Nat.beq q p with
  |false=>rfl
  |true=>exact absurd (Nat.eq_of_beq_eq_true hb) h
 have dr:d≠r:=fun e=>by subst e;have:=dw.1;rw[hnd]at this;cases this
 have ds:d≠s:=fun e=>by subst e;have:=dw.2.1;rw[hnd]at this;cases this
 have r1r:r1≠r:=fun e=>by subst e;have:=dw.1;rw[hn1]at this;cases this
 have r1s:r1≠s:=fun e=>by subst e;have:=dw.2.1;rw[hn1]at this;cases this
 have g1:bu H0 [(r,Hp.eR 1 te ((cR s2 M.length).set k .any)),(s2,.store e tr (M.set k [])),(s,.dead),(r1,aY e tr xs)] r1=some (aY e tr xs):=by
  simp only[bu,ah,un r1r,un (Ne.symm hne.1),un r1s,Nat.beq_refl]
 have gd:bu H0 [(r,Hp.eR 1 te ((cR s2 M.length).set k .any)),(s2,.store e tr (M.set k [])),(s,.dead),(r1,aY e tr xs)] d=none:=by
  simp only[bu,ah,un dr,un hne.2.2.1,un ds,un hne.2.2.2];exact hnd
 obtain⟨v',w',ε',φ',hrun,hS2,ev',ho⟩:=hS.Jl (P:=P) (ty:=ty) (r:=d) (k:=j) a0 g1 hm hu hz hb hmax gd;have hrun':(Builtin.append_ #[t,tx] ty #[a.eval x,a.eval y]).run P w=.ok v' w':=by rw[h1,h2];exact hrun
 simp only[Oper.wp,sw a w w' hrun',Oper.upon];have eH:bu (bu H0 [(r,Hp.eR 1 te ((cR s2 M.length).set k .any)),(s2,.store e tr (M.set k [])),(s,.dead),(r1,aY e tr xs)]) [(r1,.dead),(d,aY e tr (xs++List.replicate j a0))]=bu H0 [(r,Hp.eR 1 te ((cR s2 M.length).set k .any)),(s2,.store e tr (M.set k [])),(s,.dead),(r1,.dead),(d,aY e tr (xs++List.replicate j a0))]:=by
  funext q
  simp only[bu,ah]
  cases h5:Nat.beq q r1 with
  |true=>
   have e5:=Nat.eq_of_beq_eq_true h5;subst e5;simp only[un r1r,un (Ne.symm hne.1),un r1s]
  |false=>
   cases h6:Nat.beq q d with
   |true=>
    have e6:=Nat.eq_of_beq_eq_true h6;subst e6;simp only[un dr,un hne.2.2.1,un ds]
   |false=>cases Nat.beq q r<;>cases Nat.beq q s2<;>cases Nat.beq q s<;>rfl
 rw[eH]at hS2;refine hK _ _ ⟨ε',φ',hS2.put (d:=.own d) (du hd) ⟨ev'.symm,ho⟩ (fun r' hr'=>?_)⟩;have:r'=d:=by simpa [D.own]using hr'
 subst this;simp only[bu,ah,un dr,un hne.2.2.1,un ds,un hne.2.2.2,Nat.beq_refl];simp
theorem an.J6{t:TypeId}{x y:Operand}{r1 s2 m:Nat}{z:Int}{xs:List α}(hz:z.toNat<M.length)(h:ev T x=some (.ref r (z.toNat*m)))(hy:ev T y=some (.own r1))(hh:ah H r=some (.eR 1 te ((cR s M.length).set z.toNat .any)))(hk:ah H s=some (.store e tr (M.set z.toNat [])))(h1:ah H r1=some (aY e tr xs))(hf:ah H s2=none)
  (hne:r≠s/\r≠r1/\s≠r1)(hm:m=1)(ht:lay P t=some none)
  (hr:an P ops c os (bC T dst .any) ((r,.cc e te s2 [])::(s2,.store e tr (M.set z.toNat xs))::(s,.dead)::(r1,.dead)::H) sps T' H'):
  an P ops c (⟨dst,.store t x y,ty,pos,aft,none⟩::os) T H (EI x (.ref r (z.toNat*m)) y (.own r1) [(r,.eR 1 te ((cR s M.length).set z.toNat .any)),(s,.store e tr (M.set z.toNat [])),(r1,aY e tr xs)] [(r,.cc e te s2 []),(s2,.store e tr ((M.set z.toNat []).set z.toNat xs)),(s,.dead),(r1,.dead)] [s2]::sps) T' H':=by
 have hl:(M.set z.toNat []).length=M.length:=List.length_set ..;refine yx (M:=M.set z.toNat []) (l:=(cR s M.length).set z.toNat .any) (fun ε w S A hA _=>hA) (by rw[List.length_set,bY,hl]) (fun d=>by rw[hl,List.set_set]) (by rw[hl];exact hz) h hy hh hk h1 hf hne hm ht ?_;rw[List.set_set];exact hr
theorem Ok.HQ{x:Code}{Q:Exit->Act->World->Prop}{k:Nat}{xs:List α}(t:Nat)(ht:ba T t=some (.mr s k))(hk:ah H s=some (.store e tr M))(hM:M[k]?=some xs)(hm:Nat.blt 0 e.n=true)
  (h:Ok P c ((t,ai e xs)::T) ((s,.dead)::H) x Q):Ok P c T H x Q:=by
 intro a w ⟨ε,φ,hs⟩;have hm0:0<e.n:=by simpa using hm
 obtain⟨hv1,us,f0,fk⟩:=hs.t t _ ht;obtain⟨vs,G,e1,e2,e3,e4,e5⟩:=hs.h s _ hk;rw[e1]at f0;injection f0 with f0;subst f0;have hkl:=(List.getElem?_eq_some_iff.1 hM).1
 let φ':Nat->cX:=dH φ s noBlocks
 have f2:φ' s=noBlocks:=au _ _ _;have f3:∀q,q≠s->φ' q=φ q:=fun q h1=>aK _ _ h1;have hL:∀q,ah [(s,Hp.dead)] q=if q=s then some .dead else none:=by
  intro q;simp only[ah]
  cases h1:Nat.beq q s with
  |true=>rw[if_pos (Nat.eq_of_beq_eq_true h1)]
  |false=>rw[if_neg (fun e=>by subst e;simp at h1)]
 have cls:∀q,ah [(s,Hp.dead)] q≠none->q=s:=by
  intro q h;rw[hL]at h;by_cases h1:q=s
  ·exact h1
  ·simp[h1]at h
 have hR:=hs.sG (L:=[(s,.dead)]) (ε':=ε) (φ':=φ') (fun _ _=>rfl) (fun q hq=>by
   rw[hL]at hq;by_cases h1:q=s
   ·simp[h1]at hq
   ·exact f3 q h1) (fun q k hq hk=>by rw[cls q hq,f2]at hk;exact hk.elim) (fun q q' hq hq' _ k hk=>by rw[cls q hq,f2]at hk;exact hk.elim)
   (fun q y hq=>by
    have h1:q=s:=cls q (by rw[hq];simp);subst h1;rw[hL,if_pos rfl]at hq;injection hq with hq;subst hq;exact f2)
   (fun q y hq q' hq'=>by
    have h1:q=s:=cls q (by rw[hq];simp);subst h1;rw[hL,if_pos rfl]at hq;injection hq with hq;subst hq;cases hq')
 have hSr:∀k,φ s k->Am.al c (bu (ah H) [(s,.dead)]) φ' k:=by
  intro k hk';have hq0:ah H s≠none:=by rw[hk];simp
  have hlo:=hs.lo s hq0 k hk';refine⟨hlo.1.elim (fun h=>.inr (.inl h)) (fun h=>.inr (.inr h)),fun q' hq' hf=>?_⟩;by_cases h1:q'=s
  ·rw[h1,f2]at hf;exact hf
  ·rw[f3 q' h1]at hf;have h0:ah H q'≠none:=by
    intro h0;apply hq';simp only[bu];rw[hL,if_neg h1];exact h0
   exact hs.dj s q' hq0 h0 (Ne.symm h1) k hk' hf
 refine h a w ⟨ε,φ',tI (by
  have:=hR.1;rw[bE]at this;exact this) ?_ rfl⟩
 have hreg:∀k,Am.al c (ah H) φ k->Am.al c (ah ([(s,Hp.dead)]++H)) φ' k:=by rw[←bE];exact hR.2
 rw[bE]at hSr;exact mZ (e3 k xs _ hM fk) hm0 hreg (fun i hi=>hSr i ((e5 i).2 ⟨k,hkl,hi⟩))
end
end Go.Am
namespace Go.Am
open Go.RowKit
set_option maxRecDepth 100000
def oa(M:List (List Rat))(k lo:Nat):Option (List Rat):=M[k]?.bind fun xs=>cl (lo<=xs.length/\xs.length<=1000000000) (some (xs.drop lo))
theorem xQ{M:List (List Rat)}{k lo:Nat}{r:List Rat}(h:oa M k lo=some r):bh PP 204 [(400,Hp.store ak.rat 28 M)] [D.mv 400 k lo 3] [(400,Hp.store ak.rat 28 M),(7,aY ak.rat 28 r)] (D.own 7):=by
 obtain⟨xs,hM,h⟩:=bind_some h;obtain⟨hl,h⟩:=av h;injection h with h;subst h;refine .of Go.Proofs.Tryz.func204 rfl (by kernel_rfl) rfl rfl rfl rfl rfl rfl (fun A w0 L b=>?_);show Ok PP _ [(0,D.mv 400 k lo 3),(1000400,D.pinned 400 (b 400))] [(400,Hp.store ak.rat 28 M)] _ _;refine .al (.aq rfl<|.nil) rfl (.sq ?_);refine .al (.mv rfl<|.J9 bQ rfl rfl rfl hM rfl<|.nil) rfl ?_;refine .cQ rfl (fun h=>?_) (.skip (Ok.on ?_))
 ·subst h;refine .al (.aq rfl<|.nil) rfl ?_;refine .ju ak.rat 2 7 28 rfl rfl ?_;refine .aQ (fun _ _ hb=>hb) rfl (.cons (.tmp rfl) .nil) (.refl _) (.of rfl) ⟨⟨_,rfl,.refl _⟩,⟨_,by rw[List.drop_nil];rfl,.refl _⟩,trivial⟩
 ·refine .al (.JN ak.rat e_ rfl rfl<|.mv rfl<|.JJ (xs:=xs) (lo:=lo) (s:=400) rfl (.refl _) rfl (.refl _) rfl rfl hM hl.1 e_ rfl (by simp only[List.length_nil];omega) (by simp only[List.length_nil];omega) rfl<|.aq rfl<|.nil) rfl ?_;refine .aQ (fun _ _ hb=>hb) rfl (.cons (.tmp rfl) .nil) (.refl _) (.of rfl) (.of rfl)
end Go.Am
namespace Go.Am
open Go.RowKit
set_option maxRecDepth 100000
noncomputable section
def oo(v3:Int)(v14:Int)(v15:List (List Rat))(v24:Int):Option (St Int Int):=(if(decide (v24<v3))=true then(ix v15 v24).bind fun v30=>(ix v30 v14).bind fun v32=>(cZ v32).bind fun v34=>(if(v34==0)=true then some (St.next (IntKind.i64.wrap (v24+1)))else some (St.done v24))else some (St.done v24))
def lL(v3:Int)(v14:Int)(v60:Int)(v77:Rat)(v79:Int)(v80:List (List Rat)):Option (St (Int×(List (List Rat))) (List (List Rat))):=(if(decide (v79<v3))=true then(ix v80 v60).bind fun v86=>(ix v80 v60).bind fun v88=>(ix v88 v79).bind fun v90=>(ix v80 v14).bind fun v92=>(ix v92 v79).bind fun v94=>(fp v77 v94).bind fun v96=>(kv v90 v96).bind fun v98=>(ix v86 v79).bind fun v100=>some (St.next ((IntKind.i64.wrap (v79+1)),(v80.set v60.toNat (v86.set v79.toNat v98))))else some (St.done v80))
def iR(v3:Int)(v14:Int)(v60:Int)(v61:List (List Rat)):Option (St (Int×(List (List Rat))) (List (List Rat))):=(if(decide (v60<v3))=true then((ix v61 v60).bind fun v69=>(ix v69 v14).bind fun v71=>(ix v61 v14).bind fun v73=>(ix v73 v14).bind fun v75=>(fU v71 v75).bind fun v77=>(Loop (fun(s:Int×(List (List Rat)))=>lL v3 v14 v60 v77 s.1 s.2) (v14,v61)).bind fun v102=>some (v102)).bind fun v103=>some (St.next ((IntKind.i64.wrap (v60+1)),v103))else some (St.done v61))
def dU(v3:Int)(v8:List (List Rat))(v14:Int)(v15:List (List Rat))(v16:Rat):Option (St (Int×(List (List Rat))×Rat) (Ex Rat (Rat×Int))):=(if(decide (v14<(v8.length:Int)))=true then((Loop (fun(s:Int)=>oo v3 v14 v15 s) v14).bind fun v37=>(if(v37==v3)=true then some (Ex.ret (0,0))else((if(v37 !=v14)=true then(ix v15 v14).bind fun v42=>(ix v15 v37).bind fun v44=>(ix v15 v37).bind fun v46=>(ix v15 v14).bind fun v48=>(pg v16).bind fun v50=>some ((((v15.set v37.toNat v42).set v14.toNat v46),v50))else some ((v15,v16)))).bind fun(v52,v53)=>(ix v52 v14).bind fun v54=>(ix v54 v14).bind fun v56=>(fp v53 v56).bind fun v58=>(Loop (fun(s:Int×(List (List Rat)))=>iR v3 v14 s.1 s.2) ((IntKind.i64.wrap (v14+1)),v52)).bind fun v104=>some (Ex.cf (v104,v58)))).bind fun o22=>(match o22 with|Ex.cf (v105,v106)=>some (St.next ((IntKind.i64.wrap (v14+1)),v105,v106))|Ex.ret (r107,r108)=>some (St.done (Ex.ret (r107,r108))))else some (St.done (Ex.cf v16)))
def uf(a1:List (List Rat)):Option (Rat×Int):=(gG a1).bind fun(v2,v3,v4)=>(if(!v4)=true then some (0,2)else(if(v2 !=v3)=true then some (0,2)else(gj a1).bind fun v8=>(f_ 1).bind fun v10=>((Loop (fun(s:Int×(List (List Rat))×Rat)=>dU v3 v8 s.1 s.2.1 s.2.2) (0,v8,v10)).bind fun o17=>(match o17 with|Ex.cf v109=>some (Ex.cf v109)|Ex.ret (r110,r111)=>some (Ex.ret (r110,r111)))).bind fun o12=>(match o12 with|Ex.cf v112=>some (v112,0)|Ex.ret (r113,r114)=>some (r113,r114))))
theorem Ji{a1:List (List Rat)}{r115:Rat}{r116:Int}(h:uf a1=some (r115,r116)):bh PP 131 [] [ai (ak.slice ak.rat) a1] [] (D.ig [qD r115,D.int .i64 r116]):=by
 unfold uf at h;refine .of Go.Proofs.Tryz.func131 rfl (by kernel_rfl) rfl rfl rfl rfl rfl rfl (fun A w0 L b=>?_);show Ok PP _ [(0,ai (ak.slice ak.rat) a1)] [] _ _;refine .al (.fN (qC (0)) aI ⟨l3,lZ,l4,trivial⟩ rfl<|.aq rfl<|.nil) rfl ?_;obtain⟨⟨v2,v3,v4⟩,e5,h⟩:=bind_some h;refine .al (.mv rfl<|.ag (lA e5) ⟨rfl,trivial⟩ trivial trivial<|.mv rfl<|.ext rfl rfl<|.ext rfl rfl<|.ext rfl rfl<|.aq rfl<|.aq rfl<|.aq rfl<|.nil) rfl ?_;refine .sq ?_;by_cases c6:(!v4)=true
 ·replace h:=aa c6 h;refine .al (.mv rfl<|.not rfl<|.mv rfl<|.eh rfl rfl rfl c6<|.eh rfl rfl rfl c6<|.eh rfl rfl rfl c6<|.aZ rfl c6 rfl<|.nil) rfl ?_;refine .cp rfl rfl ?_;refine .al (.ox (qC (0)) [] aI da trivial trivial ⟨l3,lZ,l4,trivial⟩<|.cW (qC (0)) rfl rfl rfl ae rfl rfl rfl<|.aq rfl<|.nil) rfl ?_;cases h;refine .aQ (fun _ _ hb=>hb) rfl (.cons (.agg rfl rfl ae rfl) (.t1 (.tmp rfl))) (.refl _) trivial trivial
 ·replace h:=ab c6 h;refine .al (.mv rfl<|.not rfl<|.mv rfl<|.cx rfl rfl rfl c6<|.mv rfl<|.cx rfl rfl rfl c6<|.mv rfl<|.cx rfl rfl rfl c6<|.cm rfl rfl rfl<|.aV rfl c6 rfl<|.nil) rfl ?_;by_cases c7:(v2 !=v3)=true
  ·replace h:=aa c7 h;refine .cp rfl c7 ?_;refine .al (.ox (qC (0)) [] aI da trivial trivial ⟨l3,lZ,l4,trivial⟩<|.cW (qC (0)) rfl rfl rfl ae rfl rfl rfl<|.aq rfl<|.nil) rfl ?_;cases h;refine .aQ (fun _ _ hb=>hb) rfl (.cons (.agg rfl rfl ae rfl) (.t1 (.tmp rfl))) (.refl _) trivial trivial
  ·replace h:=ab c7 h;refine .ct rfl c7 ?_;refine .skip (Ok.on ?_);obtain⟨v8,e9,h⟩:=bind_some h;refine .al (.mv rfl<|.ag (Hi:=[]) (Ho:=[(29,Hp.cc ak.rat 68 3000029 ([])),(3000029,Hp.store ak.rat 28 v8)]) (d:=D.own 29) (ds:=[ai (ak.slice ak.rat) a1]) (.Ab (nq e9) (fun r=>match r with|6=>29|4000006=>3000029|r=>r) (fun r=>match r with|29=>6|3000029=>4000006|r=>r) rfl trivial rfl ⟨.refl rfl,trivial⟩ (.p rfl (.cc (s:=3000029))<|.r rfl rfl<|trivial) rfl (.own (r:=29)) rfl rfl rfl rfl rfl) ⟨rfl,trivial⟩ trivial ⟨rfl,rfl,trivial⟩<|.aq rfl<|.nil) rfl ?_;obtain⟨v10,e11,h⟩:=bind_some h;refine .al (.ag (kK e11) ⟨rfl,trivial⟩ trivial trivial<|.fN (qC (0)) aI ⟨l3,lZ,l4,trivial⟩ rfl<|.cW (qC (v10)) rfl rfl rfl ae rfl rfl rfl<|.nil) rfl ?_;obtain⟨o12,hp13,h⟩:=bind_some h;refine .cd (fun i=>o12=Ex.cf i) (fun(i:Rat)=>[(2,D.ref 2 0),(8,D.ref 8 0)]) (fun(i:Rat)=>[(2,Hp.box 28 (qC (0))),(8,Hp.box 28 (qC (i)))]) ?_ ?_
   ·have ho1:=h;have h:=hp13;refine .fL 7 rfl rfl rfl ?_;refine .al (.mv rfl<|.uW rfl bA<|.mv rfl<|.nil) rfl ?_;obtain⟨o17,hl18,h⟩:=bind_some h;have ho2:=h;refine .block (.bV (fun(s:Int×(List (List Rat))×Rat)=>[(2,D.ref 2 0),(5,D.int .i64 v3),(7,D.own 29),(8,D.ref 8 0),(32,D.int .i64 (v8.length:Int)),(33,D.int .i64 s.1)]) (fun(s:Int×(List (List Rat))×Rat)=>[(2,Hp.box 28 (qC (0))),(29,Hp.cc ak.rat 68 3000029 ([])),(3000029,Hp.store ak.rat 28 s.2.1),(8,Hp.box 28 (qC (s.2.2)))]) hl18 (.k rfl<|.k rfl<|.p rfl .sl<|.k rfl<|.k rfl<|.k rfl<|trivial) (.of rfl) rfl rfl ?_);rintro⟨v14,v15,v16⟩ st19 hb20;have h:dU v3 v8 v14 v15 v16=some st19:=hb20;unfold dU at h
    try dsimp only
    refine .al (.cm rfl rfl rfl<|.nil) rfl ?_;refine .sq ?_;by_cases c21:(decide (v14<(v8.length:Int)))=true
    ·replace h:=aa c21 h;refine .cp rfl c21 ?_;refine .skip (Ok.on ?_);obtain⟨o22,hp23,h⟩:=bind_some h;refine .cd (fun i=>o22=Ex.cf i) (fun(i:(List (List Rat))×Rat)=>[(2,D.ref 2 0),(5,D.int .i64 v3),(7,D.own 29),(8,D.ref 8 0),(32,D.int .i64 (v8.length:Int)),(33,D.int .i64 v14)]) (fun(i:(List (List Rat))×Rat)=>[(2,Hp.box 28 (qC (0))),(29,Hp.cc ak.rat 68 4000029 ([])),(4000029,Hp.store ak.rat 28 i.1),(8,Hp.box 28 (qC (i.2)))]) ?_ ?_
     ·have ho3:=h;have h:=hp23;refine .block ?_;refine .al (.mv rfl<|.aq rfl<|.nil) rfl ?_;refine .al (.mv rfl<|.aq rfl<|.nil) rfl ?_;obtain⟨v37,hl26,h⟩:=bind_some h;refine .cd (fun i=>v37=i) (fun(i:Int)=>[(2,D.ref 2 0),(5,D.int .i64 v3),(7,D.own 29),(8,D.ref 8 0),(9,D.int .i64 v14),(10,D.int .i64 i),(32,D.int .i64 (v8.length:Int)),(33,D.int .i64 v14)]) (fun(i:Int)=>[(2,Hp.box 28 (qC (0))),(29,Hp.cc ak.rat 68 3000029 ([])),(3000029,Hp.store ak.rat 28 v15),(8,Hp.box 28 (qC (v16)))]) ?_ ?_
      ·have ho4:=h;refine .block (.bV (fun(s:Int)=>[(2,D.ref 2 0),(5,D.int .i64 v3),(7,D.own 29),(8,D.ref 8 0),(9,D.int .i64 v14),(10,D.int .i64 s),(32,D.int .i64 (v8.length:Int)),(33,D.int .i64 v14)]) (fun(s:Int)=>[(2,Hp.box 28 (qC (0))),(29,Hp.cc ak.rat 68 3000029 ([])),(3000029,Hp.store ak.rat 28 v15),(8,Hp.box 28 (qC (v16)))]) hl26 (.of rfl) (.of rfl) rfl rfl ?_);rintro v24 st27 hb28;have h:oo v3 v14 v15 v24=some st27:=hb28;unfold oo at h
       try dsimp only
       refine .sq ?_;refine .fL 7 rfl rfl rfl ?_;by_cases c29:(decide (v24<v3))=true
       ·replace h:=aa c29 h;obtain⟨v30,e31,h⟩:=bind_some h;obtain⟨v32,e33,h⟩:=bind_some h;obtain⟨v34,e35,h⟩:=bind_some h;refine .al (.mv rfl<|.mv rfl<|.cm rfl rfl rfl<|.mv rfl<|.aO rfl rfl rfl c29<|.mv rfl<|.aO rfl rfl rfl c29<|.mv rfl<|.aO rfl rfl rfl c29<|.ib rfl rfl aA (af e31).1 (by have:=dG e31;simpa using this)<|.aO rfl rfl rfl c29<|.jm (bq e31) rfl rfl rfl rfl aC<|.aO rfl rfl rfl c29<|.mv rfl<|.aO rfl rfl rfl c29<|.lO rfl rfl rfl (af e31).2 aX (af e33).1 (dG e33) rfl<|.aO rfl rfl rfl c29<|.gK rfl rfl (af e31).2 (af e33).2 ae rfl rfl<|.aO rfl rfl rfl c29<|.ag (iA e35) ⟨rfl,trivial⟩ trivial trivial<|.aO rfl rfl rfl c29<|.cm rfl rfl rfl<|.aZ rfl c29 rfl<|.nil) rfl ?_;by_cases c36:(v34==0)=true
        ·replace h:=aa c36 h;refine .cp rfl c36 ?_;refine .skip (Ok.on ?_);refine .block ?_;refine .region (.mv rfl<|.ar rfl rfl rfl<|.aq rfl<|.nil) rfl (fun _ _ hs=>⟨(IntKind.i64.wrap (v24+1)),(sj h),hs.sub (.k rfl<|.k rfl<|.p rfl .sl<|.k rfl<|.k rfl<|.k rfl<|.k rfl<|.k rfl<|trivial) (.of rfl) rfl rfl⟩)
        ·replace h:=ab c36 h;refine .ct rfl c36 ?_;refine .exit (fun _ _ hs=>⟨_,(sj h),fun e=>⟨v24,e.symm,hs.sub (.k rfl<|.k rfl<|.p rfl .sl<|.k rfl<|.k rfl<|.k rfl<|.k rfl<|.k rfl<|trivial) (.of rfl) rfl rfl⟩⟩)
       ·replace h:=ab c29 h;refine .al (.mv rfl<|.mv rfl<|.cm rfl rfl rfl<|.mv rfl<|.aM rfl rfl rfl c29<|.aM rfl rfl rfl c29<|.aM rfl rfl rfl c29<|.aM rfl rfl rfl c29<|.aM rfl rfl rfl c29<|.aM rfl rfl rfl c29<|.aM rfl rfl rfl c29<|.aM rfl rfl rfl c29<|.aM rfl rfl rfl c29<|.aV rfl c29 rfl<|.nil) rfl ?_;refine .ct rfl (by decide) ?_;refine .exit (fun _ _ hs=>⟨_,(sj h),fun e=>⟨v24,e.symm,hs.sub (.k rfl<|.k rfl<|.p rfl .sl<|.k rfl<|.k rfl<|.k rfl<|.k rfl<|.k rfl<|trivial) (.of rfl) rfl rfl⟩⟩)
      ·rintro _ rfl
       try dsimp only
       refine .sq ?_;refine .al (.mv rfl<|.mv rfl<|.cm rfl rfl rfl<|.nil) rfl ?_;by_cases c38:(v37==v3)=true
       ·replace h:=aa c38 h;refine .cp rfl c38 ?_;refine .al (.ox (qC (0)) [] aI da trivial trivial ⟨l3,lZ,l4,trivial⟩<|.cW (qC (0)) rfl rfl rfl ae rfl rfl rfl<|.aq rfl<|.nil) rfl ?_;cases h;have h:=ho3;refine .aQ (Hi:=[]) (Ho:=[]) (b:=b) (fn:=Go.Proofs.Tryz.f131) (d:=D.ig [qD 0,D.int .i64 0]) (fun _ _ hb=>by exact⟨_,(sj h),fun e=>by subst e;have h:=ho2;cases h;have h:=ho1;cases h;exact hb⟩) rfl (.cons (.agg rfl rfl ae rfl) (.t1 (.tmp rfl))) (.refl _) trivial trivial
       ·replace h:=ab c38 h;refine .ct rfl c38 ?_;refine .skip (Ok.on ?_);obtain⟨o39,hp40,h⟩:=bind_some h;refine .cd (fun i=>o39=i) (fun(i:(List (List Rat))×Rat)=>[(2,D.ref 2 0),(5,D.int .i64 v3),(7,D.own 29),(8,D.ref 8 0),(9,D.int .i64 v14),(32,D.int .i64 (v8.length:Int)),(33,D.int .i64 v14)]) (fun(i:(List (List Rat))×Rat)=>[(2,Hp.box 28 (qC (0))),(29,Hp.cc ak.rat 68 4000029 ([])),(4000029,Hp.store ak.rat 28 i.1),(8,Hp.box 28 (qC (i.2)))]) ?_ ?_
        ·have ho4:=h;have h:=hp40;refine .al (.mv rfl<|.mv rfl<|.cm rfl rfl rfl<|.nil) rfl ?_;by_cases c41:(v37 !=v14)=true
         ·replace h:=aa c41 h;refine .cp rfl c41 ?_;refine .fL 7 rfl rfl rfl ?_;obtain⟨v42,e43,h⟩:=bind_some h;obtain⟨v44,e45,h⟩:=bind_some h;obtain⟨v46,e47,h⟩:=bind_some h;obtain⟨v48,e49,h⟩:=bind_some h;refine .c_ cj (.mv rfl<|.mv rfl<|.mv rfl<|.mv rfl<|.mv rfl<|.mv rfl<|.ib rfl rfl aA (af e43).1 (by have:=dG e43;simpa using this)<|.jm (bq e43) rfl rfl rfl rfl aC<|.mv rfl<|.mv rfl<|.ib rfl rfl aA (af e45).1 (by have:=dG e45;simpa using this)<|.jm (bq e45) rfl rfl rfl rfl aC<|.ib rfl rfl aA (af e47).1 (by have:=dG e47;simpa using this)<|.Jr (bq e47) rfl rfl rfl rfl rfl aC<|.ib rfl rfl aA (af e49).1 (by have:=dG e49;simpa using this)<|.Ju (by have:=bq e49;simpa using this) rfl rfl rfl rfl rfl aC<|.nil) rfl (by kernel_rfl) ?_;refine .AT (r:=29) (s:=3000029) (i:=v37) (k:=v14) 4000029 rfl rfl rfl rfl (af e47).2 (af e43).2 ?_;obtain⟨v50,e51,h⟩:=bind_some h;refine .region (.ck (qC (v16)) rfl rfl ae rfl rfl<|.ag (C3 e51) ⟨rfl,trivial⟩ trivial trivial<|.cW (qC (v50)) rfl rfl rfl ae rfl rfl rfl<|.nil) rfl (fun _ _ hs=>⟨(((v15.set v37.toNat v42).set v14.toNat v46),v50),(sj h),hs.sub (.k rfl<|.k rfl<|.p rfl .sl<|.k rfl<|.k rfl<|.k rfl<|.k rfl<|trivial) (.of rfl) rfl rfl⟩)
         ·replace h:=ab c41 h;refine .ct rfl c41 ?_;refine .skip (fun _ _ hs=>⟨(v15,v16),(sj h),hs.kC (fun r=>match r with|4000029=>3000029|r=>r) (.p rfl (.ref (r:=2))<|.r rfl rfl<|.p rfl (.own (r:=29))<|.p rfl (.ref (r:=8))<|.r rfl rfl<|.r rfl rfl<|.r rfl rfl<|trivial) (.r rfl rfl<|.p rfl (.cc (s:=4000029))<|.r rfl rfl<|.r rfl rfl<|trivial) rfl rfl rfl⟩)
        ·rintro⟨v52,v53⟩ rfl
         try dsimp only
         refine .fL 7 rfl rfl rfl ?_;obtain⟨v54,e55,h⟩:=bind_some h;obtain⟨v56,e57,h⟩:=bind_some h;obtain⟨v58,e59,h⟩:=bind_some h;refine .c_ cj (.ck (qC (v53)) rfl rfl ae rfl rfl<|.mv rfl<|.mv rfl<|.ib rfl rfl aA (af e55).1 (by have:=dG e55;simpa using this)<|.jm (bq e55) rfl rfl rfl rfl aC<|.mv rfl<|.lO rfl rfl rfl (af e55).2 aX (af e57).1 (dG e57) rfl<|.gK rfl rfl (af e55).2 (af e57).2 ae rfl rfl<|.ag (lT e59) ⟨rfl,rfl,trivial⟩ trivial trivial<|.cW (qC (v58)) rfl rfl rfl ae rfl rfl rfl<|.nil) rfl (by kernel_rfl) ?_;refine .al (.mv rfl<|.ar rfl rfl rfl<|.aq rfl<|.nil) rfl ?_;obtain⟨o62,hl63,h⟩:=bind_some h;have ho4:=h;refine .block (.bV (fun(s:Int×(List (List Rat)))=>[(2,D.ref 2 0),(5,D.int .i64 v3),(7,D.own 29),(8,D.ref 8 0),(9,D.int .i64 v14),(11,D.int .i64 s.1),(32,D.int .i64 (v8.length:Int)),(33,D.int .i64 v14)]) (fun(s:Int×(List (List Rat)))=>[(2,Hp.box 28 (qC (0))),(29,Hp.cc ak.rat 68 4000029 ([])),(4000029,Hp.store ak.rat 28 s.2),(8,Hp.box 28 (qC (v58)))]) hl63 (.k rfl<|.k rfl<|.p rfl .sl<|.k rfl<|.k rfl<|.k rfl<|.k rfl<|.k rfl<|trivial) (.of rfl) rfl rfl ?_);rintro⟨v60,v61⟩ st64 hb65;have h:iR v3 v14 v60 v61=some st64:=hb65;unfold iR at h
         try dsimp only
         refine .sq ?_;refine .al (.mv rfl<|.mv rfl<|.cm rfl rfl rfl<|.nil) rfl ?_;by_cases c66:(decide (v60<v3))=true
         ·replace h:=aa c66 h;refine .cp rfl c66 ?_;refine .skip (Ok.on ?_);obtain⟨v103,hp68,h⟩:=bind_some h;refine .cd (fun i=>v103=i) (fun(i:(List (List Rat)))=>[(2,D.ref 2 0),(5,D.int .i64 v3),(7,D.own 29),(8,D.ref 8 0),(9,D.int .i64 v14),(11,D.int .i64 v60),(32,D.int .i64 (v8.length:Int)),(33,D.int .i64 v14)]) (fun(i:(List (List Rat)))=>[(2,Hp.box 28 (qC (0))),(29,Hp.cc ak.rat 68 4000029 ([])),(4000029,Hp.store ak.rat 28 i),(8,Hp.box 28 (qC (v58)))]) ?_ ?_
          ·have ho5:=h;have h:=hp68;refine .block ?_;refine .fL 7 rfl rfl rfl ?_;obtain⟨v69,e70,h⟩:=bind_some h;obtain⟨v71,e72,h⟩:=bind_some h;obtain⟨v73,e74,h⟩:=bind_some h;obtain⟨v75,e76,h⟩:=bind_some h;obtain⟨v77,e78,h⟩:=bind_some h;refine .c_ cj (.mv rfl<|.mv rfl<|.ib rfl rfl aA (af e70).1 (by have:=dG e70;simpa using this)<|.jm (bq e70) rfl rfl rfl rfl aC<|.mv rfl<|.lO rfl rfl rfl (af e70).2 aX (af e72).1 (dG e72) rfl<|.gK rfl rfl (af e70).2 (af e72).2 ae rfl rfl<|.mv rfl<|.mv rfl<|.ib rfl rfl aA (af e74).1 (by have:=dG e74;simpa using this)<|.jm (bq e74) rfl rfl rfl rfl aC<|.mv rfl<|.lO rfl rfl rfl (af e74).2 aX (af e76).1 (dG e76) rfl<|.gK rfl rfl (af e74).2 (af e76).2 ae rfl rfl<|.ag (lM e78) ⟨rfl,rfl,trivial⟩ trivial trivial<|.fN (qC (0)) aI ⟨l3,lZ,l4,trivial⟩ rfl<|.cW (qC (v77)) rfl rfl rfl ae rfl rfl rfl<|.nil) rfl (by kernel_rfl) ?_;refine .al (.mv rfl<|.aq rfl<|.nil) rfl ?_;obtain⟨o81,hl82,h⟩:=bind_some h;have ho6:=h;refine .block (.bV (fun(s:Int×(List (List Rat)))=>[(2,D.ref 2 0),(5,D.int .i64 v3),(7,D.own 29),(8,D.ref 8 0),(9,D.int .i64 v14),(11,D.int .i64 v60),(12,D.ref 12 0),(13,D.int .i64 s.1),(32,D.int .i64 (v8.length:Int)),(33,D.int .i64 v14)]) (fun(s:Int×(List (List Rat)))=>[(2,Hp.box 28 (qC (0))),(29,Hp.cc ak.rat 68 4000029 ([])),(4000029,Hp.store ak.rat 28 s.2),(8,Hp.box 28 (qC (v58))),(12,Hp.box 28 (qC (v77)))]) hl82 (.k rfl<|.k rfl<|.p rfl .sl<|.k rfl<|.k rfl<|.k rfl<|.k rfl<|.k rfl<|.k rfl<|.k rfl<|trivial) (.of rfl) rfl rfl ?_);rintro⟨v79,v80⟩ st83 hb84;have h:lL v3 v14 v60 v77 v79 v80=some st83:=hb84;unfold lL at h
           try dsimp only
           refine .sq ?_;refine .al (.mv rfl<|.mv rfl<|.cm rfl rfl rfl<|.nil) rfl ?_;by_cases c85:(decide (v79<v3))=true
           ·replace h:=aa c85 h;refine .cp rfl c85 ?_;refine .skip (Ok.on ?_);refine .sq ?_;refine .block ?_;refine .fL 7 rfl rfl rfl ?_;obtain⟨v86,e87,h⟩:=bind_some h;obtain⟨v88,e89,h⟩:=bind_some h;obtain⟨v90,e91,h⟩:=bind_some h;obtain⟨v92,e93,h⟩:=bind_some h;obtain⟨v94,e95,h⟩:=bind_some h;obtain⟨v96,e97,h⟩:=bind_some h;obtain⟨v98,e99,h⟩:=bind_some h;obtain⟨v100,e101,h⟩:=bind_some h;refine .db cj (.mv rfl<|.mv rfl<|.ib rfl rfl aA (af e87).1 (by have:=dG e87;simpa using this)<|.jm (bq e87) rfl rfl rfl rfl aC<|.mv rfl<|.mv rfl<|.mv rfl<|.ib rfl rfl aA (af e89).1 (by have:=dG e89;simpa using this)<|.jm (bq e89) rfl rfl rfl rfl aC<|.mv rfl<|.lO rfl rfl rfl (af e89).2 aX (af e91).1 (dG e91) rfl<|.gK rfl rfl (af e89).2 (af e91).2 ae rfl rfl<|.ck (qC (v77)) rfl rfl ae rfl rfl<|.mv rfl<|.mv rfl<|.ib rfl rfl aA (af e93).1 (by have:=dG e93;simpa using this)<|.jm (bq e93) rfl rfl rfl rfl aC<|.mv rfl<|.lO rfl rfl rfl (af e93).2 aX (af e95).1 (dG e95) rfl<|.gK rfl rfl (af e93).2 (af e95).2 ae rfl rfl<|.ag (lT e97) ⟨rfl,rfl,trivial⟩ trivial trivial<|.ag (sv e99) ⟨rfl,rfl,trivial⟩ trivial trivial<|.lO rfl rfl rfl (af e87).2 aX (af e101).1 (dG e101) rfl<|.wG v98 rfl rfl rfl (af e87).2 (bq e101) ae rfl rfl rfl<|.nil) rfl (by kernel_rfl) (Ok.on ?_);refine .region (.mv rfl<|.ar rfl rfl rfl<|.aq rfl<|.nil) rfl (fun _ _ hs=>⟨((IntKind.i64.wrap (v79+1)),(v80.set v60.toNat (v86.set v79.toNat v98))),(sj h),hs.sub (.k rfl<|.k rfl<|.p rfl .sl<|.k rfl<|.k rfl<|.k rfl<|.k rfl<|.k rfl<|.k rfl<|.k rfl<|trivial) (.of rfl) rfl rfl⟩)
           ·replace h:=ab c85 h;refine .ct rfl c85 ?_;refine .exit (fun a w hs=>⟨_,(sj h),fun e=>by subst e;have h:=ho6;exact aT (⟨v80,(sj h),hs.sub (.of rfl) (.of rfl) rfl rfl⟩)⟩)
          ·rintro _ rfl
           try dsimp only
           refine .region (.mv rfl<|.ar rfl rfl rfl<|.aq rfl<|.nil) rfl (fun _ _ hs=>⟨((IntKind.i64.wrap (v60+1)),v103),(sj h),hs.sub (.of rfl) (.of rfl) rfl rfl⟩)
         ·replace h:=ab c66 h;refine .ct rfl c66 ?_;refine .exit (fun a w hs=>⟨_,(sj h),fun e=>by subst e;have h:=ho4;exact aT (⟨(v61,v58),(sj h),hs.sub (.of rfl) (.of rfl) rfl rfl⟩)⟩)
     ·rintro⟨v105,v106⟩ rfl
      try dsimp only
      refine .region (.ar rfl rfl rfl<|.mv rfl<|.nil) rfl (fun _ _ hs=>⟨((IntKind.i64.wrap (v14+1)),v105,v106),(sj h),hs.kC (fun r=>match r with|3000029=>4000029|r=>r) (.p rfl (.ref (r:=2))<|.r rfl rfl<|.p rfl (.own (r:=29))<|.p rfl (.ref (r:=8))<|.r rfl rfl<|.r rfl rfl<|trivial) (.r rfl rfl<|.p rfl (.cc (s:=3000029))<|.r rfl rfl<|.r rfl rfl<|trivial) rfl rfl rfl⟩)
    ·replace h:=ab c21 h;refine .ct rfl c21 ?_;refine .exit (fun a w hs=>⟨_,(sj h),fun e=>by subst e;have h:=ho2;exact aT (⟨v16,(sj h),hs.sub (.of rfl) (.of rfl) rfl rfl⟩)⟩)
   ·rintro v112 rfl
    try dsimp only
    refine .al (.ck (qC (v112)) rfl rfl ae rfl rfl<|.cW (qC (v112)) rfl rfl rfl ae rfl rfl rfl<|.aq rfl<|.nil) rfl ?_;cases h;refine .aQ (fun _ _ hb=>hb) rfl (.cons (.agg rfl rfl ae rfl) (.t1 (.tmp rfl))) (.refl _) trivial trivial
def gl(v6:List Rat)(a8:Rat)(v9:List Rat)(v13:Int)(v14:List Rat):Option (St (Int×(List Rat)) (List Rat)):=(if(decide (v13<(v9.length:Int)))=true then(ix v14 v13).bind fun v20=>(ix v6 v13).bind fun v22=>(fp a8 v22).bind fun v24=>(jl v20 v24).bind fun v26=>some (St.next ((IntKind.i64.wrap (v13+1)),(v14.set v13.toNat v26)))else some (St.done v14))
def kY(a2:Int)(a5:Int)(a8:Rat)(a1:List (List Rat)):Option (List Rat):=(ix a1 a2).bind fun v3=>(ix a1 a5).bind fun v6=>(oa a1 a2.toNat 0).bind fun v9=>((Loop (fun(s:Int×(List Rat))=>gl v6 a8 v9 s.1 s.2) (0,v9)).bind fun v28=>some (v28)).bind fun v29=>some v29
theorem wi{a2:Int}{a5:Int}{a8:Rat}{a1:List (List Rat)}{r30:List Rat}(h:kY a2 a5 a8 a1=some r30):bh PP 208 [(400,Hp.store ak.rat 28 a1)] [D.mr 400 a2.toNat,D.mr 400 a5.toNat,qD a8] [(400,Hp.store ak.rat 28 a1),(10,aY ak.rat 28 r30)] (D.own 10):=by
 unfold kY at h;refine .of Go.Proofs.Tryz.func208 rfl (by kernel_rfl) rfl rfl rfl rfl rfl rfl (fun A w0 L b=>?_);show Ok PP _ [(0,D.mr 400 a2.toNat),(1,D.mr 400 a5.toNat),(2,qD a8),(1000400,D.pinned 400 (b 400))] [(400,Hp.store ak.rat 28 a1)] _ _;obtain⟨v3,e4,h⟩:=bind_some h;obtain⟨v6,e7,h⟩:=bind_some h;refine .al (.i3 rfl rfl<|.aq rfl<|.nil) rfl ?_;obtain⟨v9,e10,h⟩:=bind_some h;refine .al (.mv rfl<|.ag (Hi:=[(400,Hp.store ak.rat 28 a1)]) (Ho:=[(400,Hp.store ak.rat 28 a1),(10,aY ak.rat 28 v9)]) (d:=D.own 10) (ds:=[D.mr 400 a2.toNat]) (.Ab (xQ e10) (fun r=>match r with|400=>400|7=>10|r=>r) (fun r=>match r with|400=>400|10=>7|r=>r) rfl (.r rfl rfl trivial) rfl ⟨.KD (s:=400),trivial⟩ (.r rfl rfl<|.r rfl rfl<|trivial) rfl (.own (r:=10)) rfl rfl rfl rfl rfl) ⟨rfl,trivial⟩ ⟨rfl,trivial⟩ ⟨rfl,trivial⟩<|.aq rfl<|.nil) rfl ?_;obtain⟨v29,hp12,h⟩:=bind_some h;refine .cd (fun i=>v29=i) (fun(i:(List Rat))=>[(7,D.own 10),(1000400,D.pinned 400 (b 400))]) (fun(i:(List Rat))=>[(10,aY ak.rat 28 i),(400,Hp.store ak.rat 28 a1)]) ?_ ?_
 ·have ho1:=h;have h:=hp12;refine .sl 7 rfl rfl rfl ?_;refine .al (.mv rfl<|.uW rfl bQ<|.mv rfl<|.nil) rfl ?_;obtain⟨o15,hl16,h⟩:=bind_some h;have ho2:=h;refine .block (.bV (fun(s:Int×(List Rat))=>[(1,D.mr 400 a5.toNat),(5,D.ref 5 0),(7,D.own 10),(12,D.int .i64 (v9.length:Int)),(13,D.int .i64 s.1),(1000400,D.pinned 400 (b 400))]) (fun(s:Int×(List Rat))=>[(5,Hp.box 28 (qC (a8))),(10,aY ak.rat 28 s.2),(400,Hp.store ak.rat 28 a1)]) hl16 (.k rfl<|.k rfl<|.p rfl .sl<|.k rfl<|.k rfl<|.k rfl<|trivial) (.of rfl) rfl rfl ?_);rintro⟨v13,v14⟩ st17 hb18;have h:gl v6 a8 v9 v13 v14=some st17:=hb18;unfold gl at h
  try dsimp only
  refine .al (.cm rfl rfl rfl<|.nil) rfl ?_;refine .sq ?_;by_cases c19:(decide (v13<(v9.length:Int)))=true
  ·replace h:=aa c19 h;refine .cp rfl c19 ?_;refine .skip (Ok.on ?_);refine .sq ?_;refine .block ?_;refine .al (.mv rfl<|.aq rfl<|.nil) rfl ?_;refine .sl 7 rfl rfl rfl ?_;obtain⟨v20,e21,h⟩:=bind_some h;obtain⟨v22,e23,h⟩:=bind_some h;obtain⟨v24,e25,h⟩:=bind_some h;obtain⟨v26,e27,h⟩:=bind_some h;refine .db cj (.mv rfl<|.mv rfl<|.mv rfl<|.mv rfl<|.ib rfl rfl aX (af e21).1 (by have:=dG e21;simpa using this)<|.J3 rfl rfl ae rfl (af e21).2 rfl<|.ck (qC (a8)) rfl rfl ae rfl rfl<|.mv rfl<|.mv rfl<|.lO rfl rfl rfl (af e7).2 aX (af e23).1 (dG e23) rfl<|.gK rfl rfl (af e7).2 (af e23).2 ae rfl rfl<|.ag (lT e25) ⟨rfl,rfl,trivial⟩ trivial trivial<|.ag (mI e27) ⟨rfl,rfl,trivial⟩ trivial trivial<|.ib rfl rfl aX (af e21).1 (by have:=dG e21;simpa using this)<|.IY v26 rfl rfl rfl ae rfl rfl rfl (bq e21)<|.nil) rfl (by kernel_rfl) (Ok.on ?_);refine .region (.ar rfl rfl rfl<|.mv rfl<|.nil) rfl (fun _ _ hs=>⟨((IntKind.i64.wrap (v13+1)),(v14.set v13.toNat v26)),(sj h),hs.sub (.k rfl<|.k rfl<|.p rfl .sl<|.k rfl<|.k rfl<|.k rfl<|trivial) (.of rfl) rfl rfl⟩)
  ·replace h:=ab c19 h;refine .ct rfl c19 ?_;refine .exit (fun a w hs=>⟨_,(sj h),fun e=>by subst e;have h:=ho2;exact aT (⟨v14,(sj h),hs.sub (.of rfl) (.of rfl) rfl rfl⟩)⟩)
 ·rintro _ rfl
  try dsimp only
  refine .sl 7 rfl rfl rfl ?_;refine .al (.mv rfl<|.aq rfl<|.nil) rfl ?_;refine .ti 6 (.own 10) rfl .sl ?_;cases h;refine .aQ (fun _ _ hb=>hb) rfl (.t1 (.tmp rfl)) (.refl _) (.of rfl) (.of rfl)
def gu(v3:Int)(v8:List (List Rat))(v12:Int)(v13:List (List Rat)):Option (St (Int×(List (List Rat))) (List (List Rat))):=(if(decide (v12<(v8.length:Int)))=true then(ix v13 v12).bind fun v19=>cl ((0:Int)<=v3/\(v19.length+v3.toNat)*56<=140737488355328/\v19.length+v3.toNat<=9223372036854775807) ((ix (v13.set v12.toNat (v19++List.replicate v3.toNat (0:Rat))) v12).bind fun v22=>(f_ 1).bind fun v24=>(ix v22 (IntKind.i64.wrap (v3+v12))).bind fun v26=>some (St.next ((IntKind.i64.wrap (v12+1)),((v13.set v12.toNat (v19++List.replicate v3.toNat (0:Rat))).set v12.toNat (v22.set (IntKind.i64.wrap (v3+v12)).toNat v24)))))else some (St.done v13))
def fy(v3:Int)(v39:List (List Rat))(v42:Int)(v43:List (List Rat)):Option (St (Int×(List (List Rat))) (List (List Rat))):=(if(decide (v42<(v39.length:Int)))=true then(ix v43 v42).bind fun v49=>cl ((0:Int)<=v3/\(v3:Int)<=(v49.length:Int)) ((oa v43 v42.toNat v3.toNat).bind fun v52=>(ix v43 v42).bind fun v54=>some (St.next ((IntKind.i64.wrap (v42+1)),(v43.set v42.toNat v52))))else some (St.done v43))
def iD(a1:List (List Rat)):Option ((List (List Rat))×Int):=(gG a1).bind fun(v2,v3,v4)=>(if(!v4)=true then some ([],(2:Int))else(if(v2 !=v3)=true then some ([],(2:Int))else(gj a1).bind fun v8=>((Loop (fun(s:Int×(List (List Rat)))=>gu v3 v8 s.1 s.2) (0,v8)).bind fun v28=>some (v28)).bind fun v29=>((jG v29).bind fun(v32,v33)=>(if(decide (v3>0))=true then(ix v33 (IntKind.i64.wrap (v3-1))).bind fun v36=>(if(v36 !=(IntKind.i64.wrap (v3-1)))=true then some (Ex.ret ([],(8:Int)))else some (Ex.cf v32))else some (Ex.cf v32))).bind fun o30=>(match o30 with|Ex.cf v39=>((Loop (fun(s:Int×(List (List Rat)))=>fy v3 v39 s.1 s.2) (0,v39)).bind fun v56=>some (v56)).bind fun v57=>some (v57,(0:Int))|Ex.ret (r58,r59)=>some (r58,r59))))
theorem Ck{a1:List (List Rat)}{r60:List (List Rat)}{r61:Int}(h:iD a1=some (r60,r61)):bh PP 132 [] [ai (ak.slice ak.rat) a1] [] (D.ig [ai (ak.slice ak.rat) r60,D.int .i64 r61]):=by
 unfold iD at h;refine .of Go.Proofs.Tryz.func132 rfl (by kernel_rfl) rfl rfl rfl rfl rfl rfl (fun A w0 L b=>?_);show Ok PP _ [(0,ai (ak.slice ak.rat) a1)] [] _ _;refine .al (.aq rfl<|.aq rfl<|.nil) rfl ?_;obtain⟨⟨v2,v3,v4⟩,e5,h⟩:=bind_some h;refine .al (.mv rfl<|.ag (lA e5) ⟨rfl,trivial⟩ trivial trivial<|.mv rfl<|.ext rfl rfl<|.ext rfl rfl<|.ext rfl rfl<|.aq rfl<|.aq rfl<|.aq rfl<|.nil) rfl ?_;refine .sq ?_;by_cases c6:(!v4)=true
 ·replace h:=aa c6 h;refine .al (.mv rfl<|.not rfl<|.mv rfl<|.eh rfl rfl rfl c6<|.eh rfl rfl rfl c6<|.eh rfl rfl rfl c6<|.aZ rfl c6 rfl<|.nil) rfl ?_;refine .cp rfl rfl ?_;refine .al (.aq rfl<|.aq rfl<|.nil) rfl ?_;cases h;refine .aQ (fun _ _ hb=>hb) rfl (.cons (.tmp rfl) (.t1 (.tmp rfl))) (.ig ⟨.ju _,.refl _,trivial⟩) trivial trivial
 ·replace h:=ab c6 h;refine .al (.mv rfl<|.not rfl<|.mv rfl<|.cx rfl rfl rfl c6<|.mv rfl<|.cx rfl rfl rfl c6<|.mv rfl<|.cx rfl rfl rfl c6<|.cm rfl rfl rfl<|.aV rfl c6 rfl<|.nil) rfl ?_;by_cases c7:(v2 !=v3)=true
  ·replace h:=aa c7 h;refine .cp rfl c7 ?_;refine .al (.aq rfl<|.aq rfl<|.nil) rfl ?_;cases h;refine .aQ (fun _ _ hb=>hb) rfl (.cons (.tmp rfl) (.t1 (.tmp rfl))) (.ig ⟨.ju _,.refl _,trivial⟩) trivial trivial
  ·replace h:=ab c7 h;refine .ct rfl c7 ?_;refine .skip (Ok.on ?_);obtain⟨v8,e9,h⟩:=bind_some h;refine .al (.mv rfl<|.ag (Hi:=[]) (Ho:=[(25,Hp.cc ak.rat 68 3000025 ([])),(3000025,Hp.store ak.rat 28 v8)]) (d:=D.own 25) (ds:=[ai (ak.slice ak.rat) a1]) (.Ab (nq e9) (fun r=>match r with|6=>25|4000006=>3000025|r=>r) (fun r=>match r with|25=>6|3000025=>4000006|r=>r) rfl trivial rfl ⟨.refl rfl,trivial⟩ (.p rfl (.cc (s:=3000025))<|.r rfl rfl<|trivial) rfl (.own (r:=25)) rfl rfl rfl rfl rfl) ⟨rfl,trivial⟩ trivial ⟨rfl,rfl,trivial⟩<|.aq rfl<|.nil) rfl ?_;obtain⟨v29,hp11,h⟩:=bind_some h;refine .cd (fun i=>v29=i) (fun(i:(List (List Rat)))=>[(5,D.int .i64 v3),(7,D.own 25)]) (fun(i:(List (List Rat)))=>[(25,Hp.cc ak.rat 68 3000025 ([])),(3000025,Hp.store ak.rat 28 i)]) ?_ ?_
   ·have ho1:=h;have h:=hp11;refine .fL 7 rfl rfl rfl ?_;refine .al (.mv rfl<|.uW rfl bA<|.mv rfl<|.nil) rfl ?_;obtain⟨o14,hl15,h⟩:=bind_some h;have ho2:=h;refine .block (.bV (fun(s:Int×(List (List Rat)))=>[(5,D.int .i64 v3),(7,D.own 25),(27,D.int .i64 (v8.length:Int)),(28,D.int .i64 s.1)]) (fun(s:Int×(List (List Rat)))=>[(25,Hp.cc ak.rat 68 3000025 ([])),(3000025,Hp.store ak.rat 28 s.2)]) hl15 (.k rfl<|.p rfl .sl<|.k rfl<|.k rfl<|trivial) (.of rfl) rfl rfl ?_);rintro⟨v12,v13⟩ st16 hb17;have h:gu v3 v8 v12 v13=some st16:=hb17;unfold gu at h
    try dsimp only
    refine .al (.cm rfl rfl rfl<|.nil) rfl ?_;refine .sq ?_;by_cases c18:(decide (v12<(v8.length:Int)))=true
    ·replace h:=aa c18 h;refine .cp rfl c18 ?_;refine .skip (Ok.on ?_);refine .sq ?_;refine .block ?_;refine .al (.mv rfl<|.aq rfl<|.nil) rfl ?_;refine .fL 7 rfl rfl rfl ?_;obtain⟨v19,e20,h⟩:=bind_some h;obtain⟨k21,h⟩:=av h;refine .al (.mv rfl<|.mv rfl<|.mv rfl<|.mv rfl<|.ib rfl rfl aA (af e20).1 (by have:=dG e20;simpa using this)<|.jm (bq e20) rfl rfl rfl rfl aC<|.mv rfl<|.JO (s2:=3000038) (r1:=6000038) (r:=25) 0 rfl rfl rfl rfl (af e20).2 e_ (by kernel_rfl) rfl ⟨l3,lZ,l4,trivial⟩ k21.1 k21.2.1 k21.2.2 rfl rfl rfl ⟨by decide,by decide,by decide,by decide⟩<|.ib rfl rfl aA (af e20).1 (by have:=dG e20;simpa using this)<|.J6 (M:=v13) (s2:=4000025) (bq e20) rfl rfl rfl rfl rfl rfl ⟨by decide,by decide,by decide⟩ rfl aC<|.nil) rfl ?_;obtain⟨v22,e23,h⟩:=bind_some h;obtain⟨v24,e25,h⟩:=bind_some h;obtain⟨v26,e27,h⟩:=bind_some h;refine .db cj (.mv rfl<|.mv rfl<|.ib rfl rfl aA (af e23).1 (by have:=dG e23;simpa using this)<|.jm (bq e23) rfl rfl rfl rfl aC<|.mv rfl<|.mv rfl<|.ar rfl rfl rfl<|.ag (kK e25) ⟨rfl,trivial⟩ trivial trivial<|.lO rfl rfl rfl (af e23).2 aX (af e27).1 (dG e27) rfl<|.wG v24 rfl rfl rfl (af e23).2 (bq e27) ae rfl rfl rfl<|.nil) rfl (by kernel_rfl) (Ok.on ?_);refine .region (.ar rfl rfl rfl<|.mv rfl<|.nil) rfl (fun _ _ hs=>⟨((IntKind.i64.wrap (v12+1)),((v13.set v12.toNat (v19++List.replicate v3.toNat (0:Rat))).set v12.toNat (v22.set (IntKind.i64.wrap (v3+v12)).toNat v24))),(sj h),hs.kC (fun r=>match r with|3000025=>4000025|r=>r) (.r rfl rfl<|.p rfl (.Fx (r:=25))<|.r rfl rfl<|.r rfl rfl<|trivial) (.p rfl (.cc (s:=3000025))<|.r rfl rfl<|trivial) rfl rfl rfl⟩)
    ·replace h:=ab c18 h;refine .ct rfl c18 ?_;refine .exit (fun a w hs=>⟨_,(sj h),fun e=>by subst e;have h:=ho2;exact aT (⟨v13,(sj h),hs.sub (.of rfl) (.of rfl) rfl rfl⟩)⟩)
   ·rintro _ rfl
    try dsimp only
    obtain⟨o30,hp31,h⟩:=bind_some h;refine .cd (fun i=>o30=Ex.cf i) (fun(i:(List (List Rat)))=>[(5,D.int .i64 v3),(7,D.own 25)]) (fun(i:(List (List Rat)))=>[(25,Hp.cc ak.rat 68 3000051 ([])),(3000051,Hp.store ak.rat 28 i)]) ?_ ?_
    ·have ho1:=h;have h:=hp31;refine .fL 7 rfl rfl rfl ?_;obtain⟨⟨v32,v33⟩,e34,h⟩:=bind_some h;refine .al (.mv rfl<|.ag (Hi:=[(25,Hp.cc ak.rat 68 3000025 ([])),(3000025,Hp.store ak.rat 28 v29)]) (Ho:=[(25,Hp.cc ak.rat 68 3000051 ([])),(3000051,Hp.store ak.rat 28 v32),(3000025,Hp.dead)]) (d:=ai (ak.int .i64) v33) (ds:=[D.sl 25 v29.length]) (.Ab (wT e34) (fun r=>match r with|0=>25|400=>3000025|700=>3000051|r=>r) (fun r=>match r with|25=>0|3000025=>400|3000051=>700|r=>r) rfl (.p rfl (.cc (s:=400))<|.r rfl rfl<|trivial) rfl ⟨.Fx (r:=0),trivial⟩ (.p rfl (.cc (s:=3000051))<|.r rfl rfl<|.r rfl rfl<|trivial) rfl (.refl rfl) rfl rfl rfl rfl rfl) ⟨rfl,trivial⟩ ⟨rfl,rfl,trivial⟩ ⟨rfl,trivial⟩<|.aq rfl<|.nil) rfl ?_;by_cases c35:(decide (v3>0))=true
     ·replace h:=aa c35 h;obtain⟨v36,e37,h⟩:=bind_some h;refine .al (.mv rfl<|.cm rfl rfl rfl<|.mv rfl<|.aO rfl rfl rfl c35<|.mv rfl<|.aO rfl rfl rfl c35<|.mv rfl<|.aO rfl rfl rfl c35<|.ar rfl rfl rfl<|.aO rfl rfl rfl c35<|.lN rfl rfl dZ (af e37).1 (af e37).2<|.aO rfl rfl rfl c35<|.i4 rfl dS<|.aO rfl rfl rfl c35<|.mv rfl<|.aO rfl rfl rfl c35<|.ar rfl rfl rfl<|.aO rfl rfl rfl c35<|.cm rfl rfl rfl<|.aZ rfl c35 rfl<|.nil) rfl ?_;by_cases c38:(v36 !=(IntKind.i64.wrap (v3-1)))=true
      ·replace h:=aa c38 h;refine .cp rfl c38 ?_;refine .al (.aq rfl<|.aq rfl<|.nil) rfl ?_;cases h;have h:=ho1;cases h;refine .aQ (fun _ _ hb=>hb) rfl (.cons (.tmp rfl) (.t1 (.tmp rfl))) (.ig ⟨.ju _,.refl _,trivial⟩) trivial trivial
      ·replace h:=ab c38 h;refine .ct rfl c38 ?_;refine .skip (fun _ _ hs=>⟨v32,(sj h),hs.sub (.k rfl<|.p rfl .sl<|trivial) (.of rfl) rfl rfl⟩)
     ·replace h:=ab c35 h;refine .al (.mv rfl<|.cm rfl rfl rfl<|.mv rfl<|.aM rfl rfl rfl c35<|.aM rfl rfl rfl c35<|.aM rfl rfl rfl c35<|.aM rfl rfl rfl c35<|.aM rfl rfl rfl c35<|.aM rfl rfl rfl c35<|.aM rfl rfl rfl c35<|.aM rfl rfl rfl c35<|.aV rfl c35 rfl<|.nil) rfl ?_;refine .ct rfl (by decide) ?_;refine .skip (fun _ _ hs=>⟨v32,(sj h),hs.sub (.k rfl<|.p rfl .sl<|trivial) (.of rfl) rfl rfl⟩)
    ·rintro v39 rfl
     try dsimp only
     obtain⟨v57,hp41,h⟩:=bind_some h;refine .cd (fun i=>v57=i) (fun(i:(List (List Rat)))=>[(7,D.own 25)]) (fun(i:(List (List Rat)))=>[(25,Hp.cc ak.rat 68 3000051 ([])),(3000051,Hp.store ak.rat 28 i)]) ?_ ?_
     ·have ho1:=h;have h:=hp41;refine .fL 7 rfl rfl rfl ?_;refine .al (.mv rfl<|.uW rfl bA<|.mv rfl<|.nil) rfl ?_;obtain⟨o44,hl45,h⟩:=bind_some h;have ho2:=h;refine .block (.bV (fun(s:Int×(List (List Rat)))=>[(5,D.int .i64 v3),(7,D.own 25),(65,D.int .i64 (v39.length:Int)),(66,D.int .i64 s.1)]) (fun(s:Int×(List (List Rat)))=>[(25,Hp.cc ak.rat 68 3000051 ([])),(3000051,Hp.store ak.rat 28 s.2)]) hl45 (.k rfl<|.p rfl .sl<|.k rfl<|.k rfl<|trivial) (.of rfl) rfl rfl ?_);rintro⟨v42,v43⟩ st46 hb47;have h:fy v3 v39 v42 v43=some st46:=hb47;unfold fy at h
      try dsimp only
      refine .al (.cm rfl rfl rfl<|.nil) rfl ?_;refine .sq ?_;by_cases c48:(decide (v42<(v39.length:Int)))=true
      ·replace h:=aa c48 h;refine .cp rfl c48 ?_;refine .skip (Ok.on ?_);refine .sq ?_;refine .block ?_;refine .al (.mv rfl<|.aq rfl<|.nil) rfl ?_;refine .fL 7 rfl rfl rfl ?_;obtain⟨v49,e50,h⟩:=bind_some h;obtain⟨k51,h⟩:=av h;obtain⟨v52,e53,h⟩:=bind_some h;obtain⟨v54,e55,h⟩:=bind_some h;refine .region (.mv rfl<|.mv rfl<|.mv rfl<|.mv rfl<|.ib rfl rfl aA (af e50).1 (by have:=dG e50;simpa using this)<|.jm (bq e50) rfl rfl rfl rfl aC<|.mv rfl<|.JS rfl rfl rfl (af e50).2 aX k51.1 k51.2 rfl<|.ag (Hi:=[(3000051,Hp.store ak.rat 28 v43)]) (Ho:=[(3000051,Hp.store ak.rat 28 v43),(77,aY ak.rat 28 v52)]) (d:=D.own 77) (ds:=[D.mv 3000051 v42.toNat v3.toNat 3]) (.Ab (xQ e53) (fun r=>match r with|400=>3000051|7=>77|r=>r) (fun r=>match r with|3000051=>400|77=>7|r=>r) rfl (.r rfl rfl trivial) rfl ⟨.mv (s:=400),trivial⟩ (.r rfl rfl<|.r rfl rfl<|trivial) rfl (.own (r:=77)) rfl rfl rfl rfl rfl) ⟨rfl,trivial⟩ ⟨rfl,trivial⟩ ⟨rfl,trivial⟩<|.ib rfl rfl aA (af e55).1 (by have:=dG e55;simpa using this)<|.I6 (M:=v43) (s2:=3000025) (bq e55) rfl rfl rfl rfl rfl rfl ⟨by decide,by decide,by decide⟩ rfl aC<|.nil) rfl (Ok.on ?_);refine .region (.ar rfl rfl rfl<|.mv rfl<|.nil) rfl (fun _ _ hs=>⟨((IntKind.i64.wrap (v42+1)),(v43.set v42.toNat v52)),(sj h),hs.kC (fun r=>match r with|3000051=>3000025|r=>r) (.r rfl rfl<|.p rfl (.Fx (r:=25))<|.r rfl rfl<|.r rfl rfl<|trivial) (.p rfl (.cc (s:=3000051))<|.r rfl rfl<|trivial) rfl rfl rfl⟩)
      ·replace h:=ab c48 h;refine .ct rfl c48 ?_;refine .exit (fun a w hs=>⟨_,(sj h),fun e=>by subst e;have h:=ho2;exact aT (⟨v43,(sj h),hs.sub (.of rfl) (.of rfl) rfl rfl⟩)⟩)
     ·rintro _ rfl
      try dsimp only
      refine .fL 7 rfl rfl rfl ?_;refine .al (.mv rfl<|.aq rfl<|.aq rfl<|.nil) rfl ?_;refine .ti 2 (.own 25) rfl .sl ?_;refine .yV 2 rfl rfl rfl rfl rfl ?_;cases h;refine .aQ (fun _ _ hb=>hb) rfl (.cons (.tmp rfl) (.t1 (.tmp rfl))) (.refl _) trivial trivial
def bR(a1:List (List Rat))(v10:Int)(v18:Int):Option (St Int (Ex Unit (Bool×(List Rat)×Int))):=(if(decide (v18<v10))=true then(ix a1 v10).bind fun v24=>(ix v24 v18).bind fun v26=>(ix a1 v18).bind fun v28=>(ix v28 v10).bind fun v30=>(lB v26 v30).bind fun v32=>(if(v32 !=0)=true then some (St.done (Ex.ret (false,[],(2:Int))))else some (St.next (IntKind.i64.wrap (v18+1))))else some (St.done (Ex.cf ())))
def bP(a1:List (List Rat))(v10:Int):Option (St Int (Ex Unit (Bool×(List Rat)×Int))):=(if(decide (v10<(a1.length:Int)))=true then((Loop (fun(s:Int)=>bR a1 v10 s) 0).bind fun o19=>(match o19 with|Ex.cf ()=>some (Ex.cf ())|Ex.ret (r35,r36,r37)=>some (Ex.ret (r35,r36,r37)))).bind fun o16=>(match o16 with|Ex.cf ()=>some (St.next (IntKind.i64.wrap (v10+1)))|Ex.ret (r38,r39,r40)=>some (St.done (Ex.ret (r38,r39,r40))))else some (St.done (Ex.cf ())))
def dQ(v3:Int)(v49:Int)(v50:List (List Rat))(v51:List (List Rat)):Option (St (Int×(List (List Rat))×(List (List Rat))) ((List (List Rat))×(List (List Rat)))):=(if(decide (v49<((([]:List (List Rat)).length+(List.replicate v3.toNat ([]:List Rat)).length):Int)))=true then cl ((0:Int)<=v3/\(56:Int)*v3<=281474976710656/\(v3:Int)<=9223372036854775807) (cl ((v49:Int)=(v51.length:Int)) ((ix v50 0).bind fun v59=>(ix (v51++[(List.replicate v3.toNat (0:Rat))]) v49).bind fun v61=>(f_ 1).bind fun v63=>(ix v61 v49).bind fun v65=>some (St.next ((IntKind.i64.wrap (v49+1)),v50.tail,((v51++[(List.replicate v3.toNat (0:Rat))]).set v49.toNat (v61.set v49.toNat v63))))))else some (St.done (v50,v51)))
def bB(v3:Int)(v74:Int)(v75:List (List Rat))(v95:Int)(v96:List (List Rat)):Option (St (Int×(List (List Rat))) (Ex (List (List Rat)) (Bool×(List Rat)×Int))):=(if(decide (v95<v3))=true then((ix v75 v95).bind fun v104=>(ix v104 v74).bind fun v106=>(cZ v106).bind fun v108=>(if(v108==0)=true then some (Ex.cf v96)else(ix v75 v74).bind fun v111=>(ix v111 v74).bind fun v113=>(cZ v113).bind fun v115=>(if(v115==0)=true then(ix v75 v95).bind fun v118=>(ix v118 v95).bind fun v120=>(f_ 1).bind fun v122=>(jl v120 v122).bind fun v124=>(ix v75 v95).bind fun v126=>(ix v126 v74).bind fun v128=>(ix v75 v95).bind fun v130=>(ix v130 v74).bind fun v132=>(jl v128 v132).bind fun v134=>(fU v124 v134).bind fun v136=>(pg v136).bind fun v138=>(ix v96 v95).bind fun v140=>(ix v96 v74).bind fun v142=>(kY v95 v74 v138 v96).bind fun v144=>some (Ex.ret (false,v144,(0:Int)))else(ix v75 v95).bind fun v146=>(ix v146 v74).bind fun v148=>(ix v75 v74).bind fun v150=>(ix v150 v74).bind fun v152=>(fU v148 v152).bind fun v154=>(pg v154).bind fun v156=>(ix v96 v95).bind fun v158=>(ix v96 v74).bind fun v160=>(kY v95 v74 v156 v96).bind fun v162=>(ix v96 v95).bind fun v164=>some (Ex.cf (v96.set v95.toNat v162))))).bind fun o102=>(match o102 with|Ex.cf v166=>some (St.next ((IntKind.i64.wrap (v95+1)),v166))|Ex.ret (r167,r168,r169)=>some (St.done (Ex.ret (r167,r168,r169))))else some (St.done (Ex.cf v96)))
def hZ(v3:Int)(v74:Int)(v175:Int)(v199:Rat)(v201:Int)(v202:List (List Rat)):Option (St (Int×(List (List Rat))) (List (List Rat))):=(if(decide (v201<v3))=true then(ix v202 v175).bind fun v208=>(ix v202 v175).bind fun v210=>(ix v210 v201).bind fun v212=>(ix v202 v74).bind fun v214=>(ix v214 v201).bind fun v216=>(fp v199 v216).bind fun v218=>(kv v212 v218).bind fun v220=>(ix v208 v201).bind fun v222=>some (St.next ((IntKind.i64.wrap (v201+1)),(v202.set v175.toNat (v208.set v201.toNat v220))))else some (St.done v202))
def cD(v3:Int)(v74:Int)(v175:Int)(v176:List (List Rat)):Option (St (Int×(List (List Rat))) (List (List Rat))):=(if(decide (v175<v3))=true then(ix v176 v74).bind fun v182=>(ix v182 v74).bind fun v184=>(cZ v184).bind fun v186=>(if(v186 !=0)=true then((ix v176 v175).bind fun v191=>(ix v191 v74).bind fun v193=>(ix v176 v74).bind fun v195=>(ix v195 v74).bind fun v197=>(fU v193 v197).bind fun v199=>(Loop (fun(s:Int×(List (List Rat)))=>hZ v3 v74 v175 v199 s.1 s.2) ((IntKind.i64.wrap (v74+1)),v176)).bind fun v224=>some (v224)).bind fun v225=>some (St.next ((IntKind.i64.wrap (v175+1)),v225))else some (St.done v176))else some (St.done v176))
def bk(v3:Int)(v74:Int)(v75:List (List Rat))(v76:List (List Rat)):Option (St (Int×(List (List Rat))×(List (List Rat))) (Ex Unit (Bool×(List Rat)×Int))):=(if(decide (v74<v3))=true then((ix v75 v74).bind fun v84=>(ix v84 v74).bind fun v86=>(cZ v86).bind fun v88=>(if(decide (v88<0))=true then(ix v76 v74).bind fun v91=>some (Ex.ret (false,v91,(0:Int)))else((Loop (fun(s:Int×(List (List Rat)))=>bB v3 v74 v75 s.1 s.2) ((IntKind.i64.wrap (v74+1)),v76)).bind fun o97=>(match o97 with|Ex.cf v170=>some (Ex.cf v170)|Ex.ret (r171,r172,r173)=>some (Ex.ret (r171,r172,r173)))).bind fun o93=>(match o93 with|Ex.cf v174=>(Loop (fun(s:Int×(List (List Rat)))=>cD v3 v74 s.1 s.2) ((IntKind.i64.wrap (v74+1)),v75)).bind fun v226=>some (Ex.cf (v226,v174))|Ex.ret (r227,r228,r229)=>some (Ex.ret (r227,r228,r229))))).bind fun o82=>(match o82 with|Ex.cf (v230,v231)=>some (St.next ((IntKind.i64.wrap (v74+1)),v230,v231))|Ex.ret (r232,r233,r234)=>some (St.done (Ex.ret (r232,r233,r234))))else some (St.done (Ex.cf ())))
def dn(a1:List (List Rat)):Option (Bool×(List Rat)×Int):=(gG a1).bind fun(v2,v3,v4)=>(if(!v4)=true then some (false,[],(2:Int))else(if(v2 !=v3)=true then some (false,[],(2:Int))else((Loop (fun(s:Int)=>bP a1 s) 0).bind fun o11=>(match o11 with|Ex.cf ()=>some (Ex.cf ())|Ex.ret (r41,r42,r43)=>some (Ex.ret (r41,r42,r43)))).bind fun o8=>(match o8 with|Ex.cf ()=>(gj a1).bind fun v44=>cl ((0:Int)<=v3/\(24:Int)*v3<=281474976710656/\(v3:Int)<=9223372036854775807) (((Loop (fun(s:Int×(List (List Rat))×(List (List Rat)))=>dQ v3 s.1 s.2.1 s.2.2) (0,(List.replicate v3.toNat ([]:List Rat)),([]:List (List Rat)))).bind fun(v67,v68)=>some ((v67,v68))).bind fun(v69,v70)=>cl (v69=[]) (((Loop (fun(s:Int×(List (List Rat))×(List (List Rat)))=>bk v3 s.1 s.2.1 s.2.2) (0,v44,v70)).bind fun o77=>(match o77 with|Ex.cf ()=>some (Ex.cf ())|Ex.ret (r235,r236,r237)=>some (Ex.ret (r235,r236,r237)))).bind fun o72=>(match o72 with|Ex.cf ()=>some (true,[],(0:Int))|Ex.ret (r238,r239,r240)=>some (r238,r239,r240))))|Ex.ret (r241,r242,r243)=>some (r241,r242,r243))))
theorem tj{a1:List (List Rat)}{r244:Bool}{r245:List Rat}{r246:Int}(h:dn a1=some (r244,r245,r246)):bh PP 129 [] [ai (ak.slice ak.rat) a1] [] (D.ig [D.bool r244,ai ak.rat r245,D.int .i64 r246]):=by
 unfold dn at h;refine .of Go.Proofs.Tryz.func129 rfl (by kernel_rfl) rfl rfl rfl rfl rfl rfl (fun A w0 L b=>?_);show Ok PP _ [(0,ai (ak.slice ak.rat) a1)] [] _ _;refine .al (.aq rfl<|.aq rfl<|.aq rfl<|.nil) rfl ?_;obtain⟨⟨v2,v3,v4⟩,e5,h⟩:=bind_some h;refine .al (.mv rfl<|.ag (lA e5) ⟨rfl,trivial⟩ trivial trivial<|.mv rfl<|.ext rfl rfl<|.ext rfl rfl<|.ext rfl rfl<|.aq rfl<|.aq rfl<|.aq rfl<|.nil) rfl ?_;refine .sq ?_;by_cases c6:(!v4)=true
 ·replace h:=aa c6 h;refine .al (.mv rfl<|.not rfl<|.mv rfl<|.eh rfl rfl rfl c6<|.eh rfl rfl rfl c6<|.eh rfl rfl rfl c6<|.aZ rfl c6 rfl<|.nil) rfl ?_;refine .cp rfl rfl ?_;refine .al (.aq rfl<|.aq rfl<|.aq rfl<|.nil) rfl ?_;cases h;refine .aQ (fun _ _ hb=>hb) rfl (.cons (.tmp rfl) (.cons (.tmp rfl) (.t1 (.tmp rfl)))) (.ig ⟨.refl _,.ju _,.refl _,trivial⟩) trivial trivial
 ·replace h:=ab c6 h;refine .al (.mv rfl<|.not rfl<|.mv rfl<|.cx rfl rfl rfl c6<|.mv rfl<|.cx rfl rfl rfl c6<|.mv rfl<|.cx rfl rfl rfl c6<|.cm rfl rfl rfl<|.aV rfl c6 rfl<|.nil) rfl ?_;by_cases c7:(v2 !=v3)=true
  ·replace h:=aa c7 h;refine .cp rfl c7 ?_;refine .al (.aq rfl<|.aq rfl<|.aq rfl<|.nil) rfl ?_;cases h;refine .aQ (fun _ _ hb=>hb) rfl (.cons (.tmp rfl) (.cons (.tmp rfl) (.t1 (.tmp rfl)))) (.ig ⟨.refl _,.ju _,.refl _,trivial⟩) trivial trivial
  ·replace h:=ab c7 h;refine .ct rfl c7 ?_;refine .skip (Ok.on ?_);obtain⟨o8,hp9,h⟩:=bind_some h;refine .cd (fun i=>o8=Ex.cf i) (fun(i:Unit)=>[(0,ai (ak.slice ak.rat) a1),(6,D.int .i64 v3)]) (fun(i:Unit)=>[]) ?_ ?_
   ·have ho1:=h;have h:=hp9;refine .al (.mv rfl<|.ec rfl bA<|.mv rfl<|.nil) rfl ?_;obtain⟨o11,hl12,h⟩:=bind_some h;have ho2:=h;refine .block (.bV (fun(s:Int)=>[(0,ai (ak.slice ak.rat) a1),(6,D.int .i64 v3),(34,D.int .i64 (a1.length:Int)),(35,D.int .i64 s)]) (fun(s:Int)=>[]) hl12 (.of rfl) trivial rfl rfl ?_);rintro v10 st13 hb14;have h:bP a1 v10=some st13:=hb14;unfold bP at h
    try dsimp only
    refine .al (.cm rfl rfl rfl<|.nil) rfl ?_;refine .sq ?_;by_cases c15:(decide (v10<(a1.length:Int)))=true
    ·replace h:=aa c15 h;refine .cp rfl c15 ?_;refine .skip (Ok.on ?_);obtain⟨o16,hp17,h⟩:=bind_some h;refine .cd (fun i=>o16=Ex.cf i) (fun(i:Unit)=>[(0,ai (ak.slice ak.rat) a1),(6,D.int .i64 v3),(34,D.int .i64 (a1.length:Int)),(35,D.int .i64 v10)]) (fun(i:Unit)=>[]) ?_ ?_
     ·have ho3:=h;have h:=hp17;refine .block ?_;refine .al (.mv rfl<|.aq rfl<|.nil) rfl ?_;refine .al (.mv rfl<|.mv rfl<|.nil) rfl ?_;obtain⟨o19,hl20,h⟩:=bind_some h;have ho4:=h;refine .block (.bV (fun(s:Int)=>[(0,ai (ak.slice ak.rat) a1),(6,D.int .i64 v3),(8,D.int .i64 v10),(34,D.int .i64 (a1.length:Int)),(35,D.int .i64 v10),(38,D.int .i64 v10),(39,D.int .i64 s)]) (fun(s:Int)=>[]) hl20 (.of rfl) trivial rfl rfl ?_);rintro v18 st21 hb22;have h:bR a1 v10 v18=some st21:=hb22;unfold bR at h
      try dsimp only
      refine .al (.cm rfl rfl rfl<|.nil) rfl ?_;refine .sq ?_;by_cases c23:(decide (v18<v10))=true
      ·replace h:=aa c23 h;refine .cp rfl c23 ?_;refine .skip (Ok.on ?_);refine .sq ?_;refine .block ?_;refine .al (.mv rfl<|.aq rfl<|.nil) rfl ?_;obtain⟨v24,e25,h⟩:=bind_some h;obtain⟨v26,e27,h⟩:=bind_some h;obtain⟨v28,e29,h⟩:=bind_some h;obtain⟨v30,e31,h⟩:=bind_some h;obtain⟨v32,e33,h⟩:=bind_some h;refine .c_ cj (.mv rfl<|.mv rfl<|.lN rfl rfl aA (af e25).1 (af e25).2<|.i4 rfl aC<|.mv rfl<|.lN rfl rfl aX (af e27).1 (af e27).2<|.Cs (l:=qC (v26)) rfl ae rfl<|.mv rfl<|.mv rfl<|.lN rfl rfl aA (af e29).1 (af e29).2<|.i4 rfl aC<|.mv rfl<|.lN rfl rfl aX (af e31).1 (af e31).2<|.Cs (l:=qC (v30)) rfl ae rfl<|.ag (vU e33) ⟨rfl,rfl,trivial⟩ trivial trivial<|.cm rfl rfl rfl<|.nil) rfl (by kernel_rfl) ?_;by_cases c34:(v32 !=0)=true
       ·replace h:=aa c34 h;refine .cp rfl c34 ?_;refine .al (.aq rfl<|.aq rfl<|.aq rfl<|.nil) rfl ?_;refine .aQ (Hi:=[]) (Ho:=[]) (b:=b) (fn:=Go.Proofs.Tryz.f129) (d:=D.ig [D.bool false,ai ak.rat ([]),D.int .i64 2]) (fun _ _ hb=>by exact⟨_,(sj h),fun e=>by subst e;have h:=ho4;cases h;have h:=ho3;exact⟨_,(sj h),fun e=>by subst e;have h:=ho2;cases h;have h:=ho1;cases h;exact hb⟩⟩) rfl (.cons (.tmp rfl) (.cons (.tmp rfl) (.t1 (.tmp rfl)))) (.ig ⟨.refl _,.ju _,.refl _,trivial⟩) trivial trivial
       ·replace h:=ab c34 h;refine .ct rfl c34 ?_;refine .skip (Ok.on ?_);refine .region (.ar rfl rfl rfl<|.mv rfl<|.nil) rfl (fun _ _ hs=>⟨(IntKind.i64.wrap (v18+1)),(sj h),hs.sub (.of rfl) trivial rfl rfl⟩)
      ·replace h:=ab c23 h;refine .ct rfl c23 ?_;refine .exit (fun a w hs=>⟨_,(sj h),fun e=>by subst e;have h:=ho4;exact aT (⟨(),(sj h),hs.sub (.of rfl) trivial rfl rfl⟩)⟩)
     ·rintro⟨⟩ rfl
      try dsimp only
      refine .region (.ar rfl rfl rfl<|.mv rfl<|.nil) rfl (fun _ _ hs=>⟨(IntKind.i64.wrap (v10+1)),(sj h),hs.sub (.of rfl) trivial rfl rfl⟩)
    ·replace h:=ab c15 h;refine .ct rfl c15 ?_;refine .exit (fun a w hs=>⟨_,(sj h),fun e=>by subst e;have h:=ho2;exact aT (⟨(),(sj h),hs.sub (.of rfl) trivial rfl rfl⟩)⟩)
   ·rintro⟨⟩ rfl
    try dsimp only
    obtain⟨v44,e45,h⟩:=bind_some h;refine .al (.mv rfl<|.ag (Hi:=[]) (Ho:=[(61,Hp.cc ak.rat 68 3000061 ([])),(3000061,Hp.store ak.rat 28 v44)]) (d:=D.own 61) (ds:=[ai (ak.slice ak.rat) a1]) (.Ab (nq e45) (fun r=>match r with|6=>61|4000006=>3000061|r=>r) (fun r=>match r with|61=>6|3000061=>4000006|r=>r) rfl trivial rfl ⟨.refl rfl,trivial⟩ (.p rfl (.cc (s:=3000061))<|.r rfl rfl<|trivial) rfl (.own (r:=61)) rfl rfl rfl rfl rfl) ⟨rfl,trivial⟩ trivial ⟨rfl,rfl,trivial⟩<|.aq rfl<|.nil) rfl ?_;obtain⟨k46,h⟩:=av h;refine .al (.mv rfl<|.Jo (e:=(ak.slice ak.rat)) ([]) rfl rfl jO rfl ⟨.ju _,trivial⟩ k46.1 k46.2.1 k46.2.2 rfl<|.aq rfl<|.nil) rfl ?_;obtain⟨o47,hp48,h⟩:=bind_some h;refine .cd (fun i=>o47=i) (fun(i:(List (List Rat))×(List (List Rat)))=>[(6,D.int .i64 v3),(10,D.own 61),(11,D.own 63)]) (fun(i:(List (List Rat))×(List (List Rat)))=>[(61,Hp.cc ak.rat 68 3000061 ([])),(3000061,Hp.store ak.rat 28 v44),(63,Hp.cc ak.rat 68 4000063 i.1),(4000063,Hp.store ak.rat 28 i.2)]) ?_ ?_
    ·have ho1:=h;have h:=hp48;refine .Kg 63 4000063 28 rfl rfl ?_;refine .GQ 11 rfl rfl rfl ?_;refine .al (.mv rfl<|.uW rfl bA<|.mv rfl<|.nil) rfl ?_;obtain⟨o52,hl53,h⟩:=bind_some h;have ho2:=h;refine .block (.bV (fun(s:Int×(List (List Rat))×(List (List Rat)))=>[(6,D.int .i64 v3),(10,D.own 61),(11,D.own 63),(65,D.int .i64 ((([]:List (List Rat)).length+(List.replicate v3.toNat ([]:List Rat)).length):Int)),(66,D.int .i64 s.1)]) (fun(s:Int×(List (List Rat))×(List (List Rat)))=>[(61,Hp.cc ak.rat 68 3000061 ([])),(3000061,Hp.store ak.rat 28 v44),(63,Hp.cc ak.rat 68 4000063 s.2.1),(4000063,Hp.store ak.rat 28 s.2.2)]) hl53 (.k rfl<|.k rfl<|.p rfl .sl<|.k rfl<|.k rfl<|trivial) (.of rfl) rfl rfl ?_);rintro⟨v49,v50,v51⟩ st54 hb55;have h:dQ v3 v49 v50 v51=some st54:=hb55;unfold dQ at h
     try dsimp only
     refine .al (.cm rfl rfl rfl<|.nil) rfl ?_;refine .sq ?_;by_cases c56:(decide (v49<((([]:List (List Rat)).length+(List.replicate v3.toNat ([]:List Rat)).length):Int)))=true
     ·replace h:=aa c56 h;refine .cp rfl c56 ?_;refine .skip (Ok.on ?_);refine .sq ?_;refine .block ?_;refine .al (.mv rfl<|.aq rfl<|.nil) rfl ?_;refine .GQ 11 rfl rfl rfl ?_;obtain⟨k57,h⟩:=av h;obtain⟨k58,h⟩:=av h;obtain⟨v59,e60,h⟩:=bind_some h;refine .al (.mv rfl<|.mv rfl<|.mv rfl<|.Jo (e:=ak.rat) 0 rfl rfl e_ rfl ⟨l3,lZ,l4,trivial⟩ k57.1 k57.2.1 k57.2.2 rfl<|.ib rfl rfl aA (by omega) (by have:=bq e60;omega)<|.I1 (s2:=3000063) k58 (af e60).2 rfl rfl rfl rfl rfl rfl ⟨by decide,by decide,by decide⟩ rfl aC<|.nil) rfl ?_;obtain⟨v61,e62,h⟩:=bind_some h;obtain⟨v63,e64,h⟩:=bind_some h;obtain⟨v65,e66,h⟩:=bind_some h;refine .db cj (.mv rfl<|.mv rfl<|.ib rfl rfl aA (af e62).1 (by have:=bq e60;omega)<|.jm (bq e62) rfl rfl rfl rfl aC<|.mv rfl<|.ag (kK e64) ⟨rfl,trivial⟩ trivial trivial<|.lO rfl rfl rfl (af e62).2 aX (af e66).1 (dG e66) rfl<|.wG v63 rfl rfl rfl (af e62).2 (bq e66) ae rfl rfl rfl<|.nil) rfl (by kernel_rfl) (Ok.on ?_);refine .region (.ar rfl rfl rfl<|.mv rfl<|.nil) rfl (fun _ _ hs=>⟨((IntKind.i64.wrap (v49+1)),v50.tail,((v51++[(List.replicate v3.toNat (0:Rat))]).set v49.toNat (v61.set v49.toNat v63))),(sj h),hs.kC (fun r=>match r with|4000063=>3000063|r=>r) (.r rfl rfl<|.p rfl (.own (r:=61))<|.p rfl (.Fx (r:=63))<|.r rfl rfl<|.r rfl rfl<|trivial) (.p rfl (.cc (s:=3000061))<|.r rfl rfl<|.p rfl (.cc (s:=4000063))<|.r rfl rfl<|trivial) rfl rfl rfl⟩)
     ·replace h:=ab c56 h;refine .ct rfl c56 ?_;refine .exit (fun a w hs=>⟨_,(sj h),fun e=>by subst e;have h:=ho2;exact aT (⟨(v50,v51),(sj h),hs.sub (.of rfl) (.of rfl) rfl rfl⟩)⟩)
    ·rintro⟨v69,v70⟩ rfl
     try dsimp only
     obtain⟨k71,h⟩:=av h;subst k71;obtain⟨o72,hp73,h⟩:=bind_some h;refine .cd (fun i=>o72=Ex.cf i) (fun(i:Unit)=>[]) (fun(i:Unit)=>[]) ?_ ?_
     ·have ho1:=h;have h:=hp73;refine .al (.mv rfl<|.mv rfl<|.nil) rfl ?_;obtain⟨o77,hl78,h⟩:=bind_some h;have ho2:=h;refine .block (.bV (fun(s:Int×(List (List Rat))×(List (List Rat)))=>[(6,D.int .i64 v3),(10,D.own 61),(11,D.own 63),(82,D.int .i64 v3),(83,D.int .i64 s.1)]) (fun(s:Int×(List (List Rat))×(List (List Rat)))=>[(61,Hp.cc ak.rat 68 3000061 ([])),(3000061,Hp.store ak.rat 28 s.2.1),(63,Hp.cc ak.rat 68 4000063 ([])),(4000063,Hp.store ak.rat 28 s.2.2)]) hl78 (.of rfl) (.of rfl) rfl rfl ?_);rintro⟨v74,v75,v76⟩ st79 hb80;have h:bk v3 v74 v75 v76=some st79:=hb80;unfold bk at h
      try dsimp only
      refine .al (.cm rfl rfl rfl<|.nil) rfl ?_;refine .sq ?_;by_cases c81:(decide (v74<v3))=true
      ·replace h:=aa c81 h;refine .cp rfl c81 ?_;refine .skip (Ok.on ?_);obtain⟨o82,hp83,h⟩:=bind_some h;refine .cd (fun i=>o82=Ex.cf i) (fun(i:(List (List Rat))×(List (List Rat)))=>[(6,D.int .i64 v3),(10,D.own 61),(11,D.own 63),(82,D.int .i64 v3),(83,D.int .i64 v74)]) (fun(i:(List (List Rat))×(List (List Rat)))=>[(61,Hp.cc ak.rat 68 3000061 ([])),(3000061,Hp.store ak.rat 28 i.1),(63,Hp.cc ak.rat 68 4000063 ([])),(4000063,Hp.store ak.rat 28 i.2)]) ?_ ?_
       ·have ho3:=h;have h:=hp83;refine .block ?_;refine .al (.mv rfl<|.aq rfl<|.nil) rfl ?_;refine .sq ?_;refine .fL 10 rfl rfl rfl ?_;obtain⟨v84,e85,h⟩:=bind_some h;obtain⟨v86,e87,h⟩:=bind_some h;obtain⟨v88,e89,h⟩:=bind_some h;refine .al (.mv rfl<|.mv rfl<|.ib rfl rfl aA (af e85).1 (by have:=dG e85;simpa using this)<|.jm (bq e85) rfl rfl rfl rfl aC<|.mv rfl<|.lO rfl rfl rfl (af e85).2 aX (af e87).1 (dG e87) rfl<|.gK rfl rfl (af e85).2 (af e87).2 ae rfl rfl<|.ag (iA e89) ⟨rfl,trivial⟩ trivial trivial<|.cm rfl rfl rfl<|.nil) rfl ?_;by_cases c90:(decide (v88<0))=true
        ·replace h:=aa c90 h;refine .cp rfl c90 ?_;refine .fL 11 rfl rfl rfl ?_;obtain⟨v91,e92,h⟩:=bind_some h;refine .c_ cj (.mv rfl<|.mv rfl<|.ib rfl rfl aA (af e92).1 (by have:=dG e92;simpa using this)<|.jm (bq e92) rfl rfl rfl rfl aC<|.aq rfl<|.aq rfl<|.aq rfl<|.nil) rfl (by kernel_rfl) ?_;refine .HQ 3 rfl rfl (af e92).2 rfl ?_;cases h;have h:=ho3;refine .aQ (Hi:=[]) (Ho:=[]) (b:=b) (fn:=Go.Proofs.Tryz.f129) (d:=D.ig [D.bool false,ai ak.rat v91,D.int .i64 0]) (fun _ _ hb=>by exact⟨_,(sj h),fun e=>by subst e;have h:=ho2;cases h;have h:=ho1;cases h;exact hb⟩) rfl (.cons (.tmp rfl) (.cons (.tmp rfl) (.t1 (.tmp rfl)))) (.refl _) trivial trivial
        ·replace h:=ab c90 h;refine .ct rfl c90 ?_;refine .skip (Ok.on ?_);obtain⟨o93,hp94,h⟩:=bind_some h;refine .cd (fun i=>o93=Ex.cf i) (fun(i:(List (List Rat)))=>[(6,D.int .i64 v3),(10,D.own 61),(11,D.own 63),(13,D.int .i64 v74),(82,D.int .i64 v3),(83,D.int .i64 v74)]) (fun(i:(List (List Rat)))=>[(61,Hp.cc ak.rat 68 3000061 ([])),(3000061,Hp.store ak.rat 28 v75),(63,Hp.cc ak.rat 68 4000063 ([])),(4000063,Hp.store ak.rat 28 i)]) ?_ ?_
         ·have ho4:=h;have h:=hp94;refine .al (.mv rfl<|.ar rfl rfl rfl<|.aq rfl<|.nil) rfl ?_;obtain⟨o97,hl98,h⟩:=bind_some h;have ho5:=h;refine .block (.bV (fun(s:Int×(List (List Rat)))=>[(6,D.int .i64 v3),(10,D.own 61),(11,D.own 63),(13,D.int .i64 v74),(14,D.int .i64 s.1),(82,D.int .i64 v3),(83,D.int .i64 v74)]) (fun(s:Int×(List (List Rat)))=>[(61,Hp.cc ak.rat 68 3000061 ([])),(3000061,Hp.store ak.rat 28 v75),(63,Hp.cc ak.rat 68 4000063 ([])),(4000063,Hp.store ak.rat 28 s.2)]) hl98 (.k rfl<|.p rfl .sl<|.k rfl<|.k rfl<|.k rfl<|.k rfl<|.k rfl<|trivial) (.of rfl) rfl rfl ?_);rintro⟨v95,v96⟩ st99 hb100;have h:bB v3 v74 v75 v95 v96=some st99:=hb100;unfold bB at h
          try dsimp only
          refine .sq ?_;refine .al (.mv rfl<|.mv rfl<|.cm rfl rfl rfl<|.nil) rfl ?_;by_cases c101:(decide (v95<v3))=true
          ·replace h:=aa c101 h;refine .cp rfl c101 ?_;refine .skip (Ok.on ?_);obtain⟨o102,hp103,h⟩:=bind_some h;refine .cd (fun i=>o102=Ex.cf i) (fun(i:(List (List Rat)))=>[(6,D.int .i64 v3),(10,D.own 61),(11,D.own 63),(13,D.int .i64 v74),(14,D.int .i64 v95),(82,D.int .i64 v3),(83,D.int .i64 v74)]) (fun(i:(List (List Rat)))=>[(61,Hp.cc ak.rat 68 3000061 ([])),(3000061,Hp.store ak.rat 28 v75),(63,Hp.cc ak.rat 68 4000063 ([])),(4000063,Hp.store ak.rat 28 i)]) ?_ ?_
           ·have ho6:=h;have h:=hp103;refine .block ?_;refine .sq ?_;refine .fL 10 rfl rfl rfl ?_;obtain⟨v104,e105,h⟩:=bind_some h;obtain⟨v106,e107,h⟩:=bind_some h;obtain⟨v108,e109,h⟩:=bind_some h;refine .al (.mv rfl<|.mv rfl<|.ib rfl rfl aA (af e105).1 (by have:=dG e105;simpa using this)<|.jm (bq e105) rfl rfl rfl rfl aC<|.mv rfl<|.lO rfl rfl rfl (af e105).2 aX (af e107).1 (dG e107) rfl<|.gK rfl rfl (af e105).2 (af e107).2 ae rfl rfl<|.ag (iA e109) ⟨rfl,trivial⟩ trivial trivial<|.cm rfl rfl rfl<|.nil) rfl ?_;by_cases c110:(v108==0)=true
            ·replace h:=aa c110 h;refine .cp rfl c110 ?_;refine .exit (fun _ _ hs=>⟨v96,(sj h),hs.sub (.k rfl<|.p rfl .sl<|.k rfl<|.k rfl<|.k rfl<|.k rfl<|.k rfl<|trivial) (.of rfl) rfl rfl⟩)
            ·replace h:=ab c110 h;refine .ct rfl c110 ?_;refine .skip (Ok.on ?_);refine .sq ?_;obtain⟨v111,e112,h⟩:=bind_some h;obtain⟨v113,e114,h⟩:=bind_some h;obtain⟨v115,e116,h⟩:=bind_some h;refine .al (.mv rfl<|.mv rfl<|.ib rfl rfl aA (af e112).1 (by have:=dG e112;simpa using this)<|.jm (bq e112) rfl rfl rfl rfl aC<|.mv rfl<|.lO rfl rfl rfl (af e112).2 aX (af e114).1 (dG e114) rfl<|.gK rfl rfl (af e112).2 (af e114).2 ae rfl rfl<|.ag (iA e116) ⟨rfl,trivial⟩ trivial trivial<|.cm rfl rfl rfl<|.nil) rfl ?_;by_cases c117:(v115==0)=true
             ·replace h:=aa c117 h;refine .cp rfl c117 ?_;obtain⟨v118,e119,h⟩:=bind_some h;obtain⟨v120,e121,h⟩:=bind_some h;obtain⟨v122,e123,h⟩:=bind_some h;obtain⟨v124,e125,h⟩:=bind_some h;obtain⟨v126,e127,h⟩:=bind_some h;obtain⟨v128,e129,h⟩:=bind_some h;obtain⟨v130,e131,h⟩:=bind_some h;obtain⟨v132,e133,h⟩:=bind_some h;obtain⟨v134,e135,h⟩:=bind_some h;obtain⟨v136,e137,h⟩:=bind_some h;obtain⟨v138,e139,h⟩:=bind_some h;refine .c_ cj (.mv rfl<|.mv rfl<|.ib rfl rfl aA (af e119).1 (by have:=dG e119;simpa using this)<|.jm (bq e119) rfl rfl rfl rfl aC<|.mv rfl<|.lO rfl rfl rfl (af e119).2 aX (af e121).1 (dG e121) rfl<|.gK rfl rfl (af e119).2 (af e121).2 ae rfl rfl<|.ag (kK e123) ⟨rfl,trivial⟩ trivial trivial<|.ag (mI e125) ⟨rfl,rfl,trivial⟩ trivial trivial<|.mv rfl<|.mv rfl<|.ib rfl rfl aA (af e127).1 (by have:=dG e127;simpa using this)<|.jm (bq e127) rfl rfl rfl rfl aC<|.mv rfl<|.lO rfl rfl rfl (af e127).2 aX (af e129).1 (dG e129) rfl<|.gK rfl rfl (af e127).2 (af e129).2 ae rfl rfl<|.mv rfl<|.mv rfl<|.ib rfl rfl aA (af e131).1 (by have:=dG e131;simpa using this)<|.jm (bq e131) rfl rfl rfl rfl aC<|.mv rfl<|.lO rfl rfl rfl (af e131).2 aX (af e133).1 (dG e133) rfl<|.gK rfl rfl (af e131).2 (af e133).2 ae rfl rfl<|.ag (mI e135) ⟨rfl,rfl,trivial⟩ trivial trivial<|.ag (lM e137) ⟨rfl,rfl,trivial⟩ trivial trivial<|.ag (C3 e139) ⟨rfl,trivial⟩ trivial trivial<|.fN (qC (0)) aI ⟨l3,lZ,l4,trivial⟩ rfl<|.cW (qC (v138)) rfl rfl rfl ae rfl rfl rfl<|.nil) rfl (by kernel_rfl) ?_;refine .fL 11 rfl rfl rfl ?_;obtain⟨v140,e141,h⟩:=bind_some h;obtain⟨v142,e143,h⟩:=bind_some h;obtain⟨v144,e145,h⟩:=bind_some h;refine .c_ cj (.mv rfl<|.mv rfl<|.ib rfl rfl aA (af e141).1 (by have:=dG e141;simpa using this)<|.jm (bq e141) rfl rfl rfl rfl aC<|.mv rfl<|.mv rfl<|.ib rfl rfl aA (af e143).1 (by have:=dG e143;simpa using this)<|.jm (bq e143) rfl rfl rfl rfl aC<|.ck (qC (v138)) rfl rfl ae rfl rfl<|.ag (Hi:=[(4000063,Hp.store ak.rat 28 v96)]) (Ho:=[(4000063,Hp.store ak.rat 28 v96),(159,aY ak.rat 28 v144)]) (d:=D.own 159) (ds:=[D.mr 4000063 v95.toNat,D.mr 4000063 v74.toNat,qD v138]) (.Ab (wi e145) (fun r=>match r with|400=>4000063|10=>159|r=>r) (fun r=>match r with|4000063=>400|159=>10|r=>r) rfl (.r rfl rfl trivial) rfl ⟨.mr (s:=400),.mr (s:=400),.refl rfl,trivial⟩ (.r rfl rfl<|.r rfl rfl<|trivial) rfl (.own (r:=159)) rfl rfl rfl rfl rfl) ⟨rfl,rfl,rfl,trivial⟩ ⟨rfl,trivial⟩ ⟨rfl,trivial⟩<|.aq rfl<|.aq rfl<|.aq rfl<|.nil) rfl (by kernel_rfl) ?_;refine .mN 3 rfl rfl rfl ?_;cases h;have h:=ho6;refine .aQ (Hi:=[]) (Ho:=[]) (b:=b) (fn:=Go.Proofs.Tryz.f129) (d:=D.ig [D.bool false,ai ak.rat v144,D.int .i64 0]) (fun _ _ hb=>by exact⟨_,(sj h),fun e=>by subst e;have h:=ho5;cases h;have h:=ho4;cases h;have h:=ho3;exact⟨_,(sj h),fun e=>by subst e;have h:=ho2;cases h;have h:=ho1;cases h;exact hb⟩⟩) rfl (.cons (.tmp rfl) (.cons (.tmp rfl) (.t1 (.tmp rfl)))) (.refl _) trivial trivial
             ·replace h:=ab c117 h;refine .ct rfl c117 ?_;refine .skip (Ok.on ?_);obtain⟨v146,e147,h⟩:=bind_some h;obtain⟨v148,e149,h⟩:=bind_some h;obtain⟨v150,e151,h⟩:=bind_some h;obtain⟨v152,e153,h⟩:=bind_some h;obtain⟨v154,e155,h⟩:=bind_some h;obtain⟨v156,e157,h⟩:=bind_some h;refine .c_ cj (.mv rfl<|.mv rfl<|.ib rfl rfl aA (af e147).1 (by have:=dG e147;simpa using this)<|.jm (bq e147) rfl rfl rfl rfl aC<|.mv rfl<|.lO rfl rfl rfl (af e147).2 aX (af e149).1 (dG e149) rfl<|.gK rfl rfl (af e147).2 (af e149).2 ae rfl rfl<|.mv rfl<|.mv rfl<|.ib rfl rfl aA (af e151).1 (by have:=dG e151;simpa using this)<|.jm (bq e151) rfl rfl rfl rfl aC<|.mv rfl<|.lO rfl rfl rfl (af e151).2 aX (af e153).1 (dG e153) rfl<|.gK rfl rfl (af e151).2 (af e153).2 ae rfl rfl<|.ag (lM e155) ⟨rfl,rfl,trivial⟩ trivial trivial<|.ag (C3 e157) ⟨rfl,trivial⟩ trivial trivial<|.fN (qC (0)) aI ⟨l3,lZ,l4,trivial⟩ rfl<|.cW (qC (v156)) rfl rfl rfl ae rfl rfl rfl<|.nil) rfl (by kernel_rfl) ?_;refine .fL 11 rfl rfl rfl ?_;obtain⟨v158,e159,h⟩:=bind_some h;obtain⟨v160,e161,h⟩:=bind_some h;obtain⟨v162,e163,h⟩:=bind_some h;obtain⟨v164,e165,h⟩:=bind_some h;refine .db cj (.mv rfl<|.mv rfl<|.mv rfl<|.mv rfl<|.ib rfl rfl aA (af e159).1 (by have:=dG e159;simpa using this)<|.jm (bq e159) rfl rfl rfl rfl aC<|.mv rfl<|.mv rfl<|.ib rfl rfl aA (af e161).1 (by have:=dG e161;simpa using this)<|.jm (bq e161) rfl rfl rfl rfl aC<|.ck (qC (v156)) rfl rfl ae rfl rfl<|.ag (Hi:=[(4000063,Hp.store ak.rat 28 v96)]) (Ho:=[(4000063,Hp.store ak.rat 28 v96),(187,aY ak.rat 28 v162)]) (d:=D.own 187) (ds:=[D.mr 4000063 v95.toNat,D.mr 4000063 v74.toNat,qD v156]) (.Ab (wi e163) (fun r=>match r with|400=>4000063|10=>187|r=>r) (fun r=>match r with|4000063=>400|187=>10|r=>r) rfl (.r rfl rfl trivial) rfl ⟨.mr (s:=400),.mr (s:=400),.refl rfl,trivial⟩ (.r rfl rfl<|.r rfl rfl<|trivial) rfl (.own (r:=187)) rfl rfl rfl rfl rfl) ⟨rfl,rfl,rfl,trivial⟩ ⟨rfl,trivial⟩ ⟨rfl,trivial⟩<|.ib rfl rfl aA (af e165).1 (by have:=dG e165;simpa using this)<|.I6 (M:=v96) (s2:=3000063) (bq e165) rfl rfl rfl rfl rfl rfl ⟨by decide,by decide,by decide⟩ rfl aC<|.nil) rfl (by kernel_rfl) (fun _ _ hs=>⟨(v96.set v95.toNat v162),(sj h),hs.kC (fun r=>match r with|4000063=>3000063|r=>r) (.r rfl rfl<|.p rfl (.Fx (r:=61))<|.p rfl (.Fx (r:=63))<|.r rfl rfl<|.r rfl rfl<|.r rfl rfl<|.r rfl rfl<|trivial) (.p rfl (.cc (s:=3000061))<|.r rfl rfl<|.p rfl (.cc (s:=4000063))<|.r rfl rfl<|trivial) rfl rfl rfl⟩)
           ·rintro v166 rfl
            try dsimp only
            refine .region (.mv rfl<|.ar rfl rfl rfl<|.aq rfl<|.nil) rfl (fun _ _ hs=>⟨((IntKind.i64.wrap (v95+1)),v166),(sj h),hs.sub (.of rfl) (.of rfl) rfl rfl⟩)
          ·replace h:=ab c101 h;refine .ct rfl c101 ?_;refine .exit (fun a w hs=>⟨_,(sj h),fun e=>by subst e;have h:=ho5;exact aT (⟨v96,(sj h),hs.sub (.of rfl) (.of rfl) rfl rfl⟩)⟩)
         ·rintro v174 rfl
          try dsimp only
          refine .al (.mv rfl<|.ar rfl rfl rfl<|.aq rfl<|.nil) rfl ?_;obtain⟨o177,hl178,h⟩:=bind_some h;have ho4:=h;refine .block (.bV (fun(s:Int×(List (List Rat)))=>[(6,D.int .i64 v3),(10,D.own 61),(11,D.own 63),(13,D.int .i64 v74),(17,D.int .i64 s.1),(82,D.int .i64 v3),(83,D.int .i64 v74)]) (fun(s:Int×(List (List Rat)))=>[(61,Hp.cc ak.rat 68 3000061 ([])),(3000061,Hp.store ak.rat 28 s.2),(63,Hp.cc ak.rat 68 4000063 ([])),(4000063,Hp.store ak.rat 28 v174)]) hl178 (.of rfl) (.of rfl) rfl rfl ?_);rintro⟨v175,v176⟩ st179 hb180;have h:cD v3 v74 v175 v176=some st179:=hb180;unfold cD at h
          try dsimp only
          refine .sq ?_;refine .fL 10 rfl rfl rfl ?_;by_cases c181:(decide (v175<v3))=true
          ·replace h:=aa c181 h;obtain⟨v182,e183,h⟩:=bind_some h;obtain⟨v184,e185,h⟩:=bind_some h;obtain⟨v186,e187,h⟩:=bind_some h;refine .al (.mv rfl<|.mv rfl<|.cm rfl rfl rfl<|.mv rfl<|.aO rfl rfl rfl c181<|.mv rfl<|.aO rfl rfl rfl c181<|.mv rfl<|.aO rfl rfl rfl c181<|.ib rfl rfl aA (af e183).1 (by have:=dG e183;simpa using this)<|.aO rfl rfl rfl c181<|.jm (bq e183) rfl rfl rfl rfl aC<|.aO rfl rfl rfl c181<|.mv rfl<|.aO rfl rfl rfl c181<|.lO rfl rfl rfl (af e183).2 aX (af e185).1 (dG e185) rfl<|.aO rfl rfl rfl c181<|.gK rfl rfl (af e183).2 (af e185).2 ae rfl rfl<|.aO rfl rfl rfl c181<|.ag (iA e187) ⟨rfl,trivial⟩ trivial trivial<|.aO rfl rfl rfl c181<|.cm rfl rfl rfl<|.aZ rfl c181 rfl<|.nil) rfl ?_;by_cases c188:(v186 !=0)=true
           ·replace h:=aa c188 h;refine .cp rfl c188 ?_;refine .skip (Ok.on ?_);obtain⟨v225,hp190,h⟩:=bind_some h;refine .cd (fun i=>v225=i) (fun(i:(List (List Rat)))=>[(6,D.int .i64 v3),(10,D.own 61),(11,D.own 63),(13,D.int .i64 v74),(17,D.int .i64 v175),(82,D.int .i64 v3),(83,D.int .i64 v74)]) (fun(i:(List (List Rat)))=>[(61,Hp.cc ak.rat 68 3000061 ([])),(3000061,Hp.store ak.rat 28 i),(63,Hp.cc ak.rat 68 4000063 ([])),(4000063,Hp.store ak.rat 28 v174)]) ?_ ?_
            ·have ho5:=h;have h:=hp190;refine .block ?_;obtain⟨v191,e192,h⟩:=bind_some h;obtain⟨v193,e194,h⟩:=bind_some h;obtain⟨v195,e196,h⟩:=bind_some h;obtain⟨v197,e198,h⟩:=bind_some h;obtain⟨v199,e200,h⟩:=bind_some h;refine .c_ cj (.mv rfl<|.mv rfl<|.ib rfl rfl aA (af e192).1 (by have:=dG e192;simpa using this)<|.jm (bq e192) rfl rfl rfl rfl aC<|.mv rfl<|.lO rfl rfl rfl (af e192).2 aX (af e194).1 (dG e194) rfl<|.gK rfl rfl (af e192).2 (af e194).2 ae rfl rfl<|.mv rfl<|.mv rfl<|.ib rfl rfl aA (af e196).1 (by have:=dG e196;simpa using this)<|.jm (bq e196) rfl rfl rfl rfl aC<|.mv rfl<|.lO rfl rfl rfl (af e196).2 aX (af e198).1 (dG e198) rfl<|.gK rfl rfl (af e196).2 (af e198).2 ae rfl rfl<|.ag (lM e200) ⟨rfl,rfl,trivial⟩ trivial trivial<|.fN (qC (0)) aI ⟨l3,lZ,l4,trivial⟩ rfl<|.cW (qC (v199)) rfl rfl rfl ae rfl rfl rfl<|.nil) rfl (by kernel_rfl) ?_;refine .al (.mv rfl<|.ar rfl rfl rfl<|.aq rfl<|.nil) rfl ?_;obtain⟨o203,hl204,h⟩:=bind_some h;have ho6:=h;refine .block (.bV (fun(s:Int×(List (List Rat)))=>[(6,D.int .i64 v3),(10,D.own 61),(11,D.own 63),(13,D.int .i64 v74),(17,D.int .i64 v175),(18,D.ref 18 0),(19,D.int .i64 s.1),(82,D.int .i64 v3),(83,D.int .i64 v74)]) (fun(s:Int×(List (List Rat)))=>[(61,Hp.cc ak.rat 68 3000061 ([])),(3000061,Hp.store ak.rat 28 s.2),(63,Hp.cc ak.rat 68 4000063 ([])),(4000063,Hp.store ak.rat 28 v174),(18,Hp.box 28 (qC (v199)))]) hl204 (.k rfl<|.p rfl .sl<|.k rfl<|.k rfl<|.k rfl<|.k rfl<|.k rfl<|.k rfl<|.k rfl<|trivial) (.of rfl) rfl rfl ?_);rintro⟨v201,v202⟩ st205 hb206;have h:hZ v3 v74 v175 v199 v201 v202=some st205:=hb206;unfold hZ at h
             try dsimp only
             refine .sq ?_;refine .al (.mv rfl<|.mv rfl<|.cm rfl rfl rfl<|.nil) rfl ?_;by_cases c207:(decide (v201<v3))=true
             ·replace h:=aa c207 h;refine .cp rfl c207 ?_;refine .skip (Ok.on ?_);refine .sq ?_;refine .block ?_;refine .fL 10 rfl rfl rfl ?_;obtain⟨v208,e209,h⟩:=bind_some h;obtain⟨v210,e211,h⟩:=bind_some h;obtain⟨v212,e213,h⟩:=bind_some h;obtain⟨v214,e215,h⟩:=bind_some h;obtain⟨v216,e217,h⟩:=bind_some h;obtain⟨v218,e219,h⟩:=bind_some h;obtain⟨v220,e221,h⟩:=bind_some h;obtain⟨v222,e223,h⟩:=bind_some h;refine .db cj (.mv rfl<|.mv rfl<|.ib rfl rfl aA (af e209).1 (by have:=dG e209;simpa using this)<|.jm (bq e209) rfl rfl rfl rfl aC<|.mv rfl<|.mv rfl<|.mv rfl<|.ib rfl rfl aA (af e211).1 (by have:=dG e211;simpa using this)<|.jm (bq e211) rfl rfl rfl rfl aC<|.mv rfl<|.lO rfl rfl rfl (af e211).2 aX (af e213).1 (dG e213) rfl<|.gK rfl rfl (af e211).2 (af e213).2 ae rfl rfl<|.ck (qC (v199)) rfl rfl ae rfl rfl<|.mv rfl<|.mv rfl<|.ib rfl rfl aA (af e215).1 (by have:=dG e215;simpa using this)<|.jm (bq e215) rfl rfl rfl rfl aC<|.mv rfl<|.lO rfl rfl rfl (af e215).2 aX (af e217).1 (dG e217) rfl<|.gK rfl rfl (af e215).2 (af e217).2 ae rfl rfl<|.ag (lT e219) ⟨rfl,rfl,trivial⟩ trivial trivial<|.ag (sv e221) ⟨rfl,rfl,trivial⟩ trivial trivial<|.lO rfl rfl rfl (af e209).2 aX (af e223).1 (dG e223) rfl<|.wG v220 rfl rfl rfl (af e209).2 (bq e223) ae rfl rfl rfl<|.nil) rfl (by kernel_rfl) (Ok.on ?_);refine .region (.mv rfl<|.ar rfl rfl rfl<|.aq rfl<|.nil) rfl (fun _ _ hs=>⟨((IntKind.i64.wrap (v201+1)),(v202.set v175.toNat (v208.set v201.toNat v220))),(sj h),hs.sub (.k rfl<|.p rfl .sl<|.k rfl<|.k rfl<|.k rfl<|.k rfl<|.k rfl<|.k rfl<|.k rfl<|trivial) (.of rfl) rfl rfl⟩)
             ·replace h:=ab c207 h;refine .ct rfl c207 ?_;refine .exit (fun a w hs=>⟨_,(sj h),fun e=>by subst e;have h:=ho6;exact aT (⟨v202,(sj h),hs.sub (.of rfl) (.of rfl) rfl rfl⟩)⟩)
            ·rintro _ rfl
             try dsimp only
             refine .region (.mv rfl<|.ar rfl rfl rfl<|.aq rfl<|.nil) rfl (fun _ _ hs=>⟨((IntKind.i64.wrap (v175+1)),v225),(sj h),hs.sub (.of rfl) (.of rfl) rfl rfl⟩)
           ·replace h:=ab c188 h;refine .ct rfl c188 ?_;refine .exit (fun a w hs=>⟨_,(sj h),fun e=>by subst e;have h:=ho4;exact aT (⟨(v176,v174),(sj h),hs.sub (.k rfl<|.p rfl .sl<|.k rfl<|.k rfl<|.k rfl<|trivial) (.of rfl) rfl rfl⟩)⟩)
          ·replace h:=ab c181 h;refine .al (.mv rfl<|.mv rfl<|.cm rfl rfl rfl<|.mv rfl<|.aM rfl rfl rfl c181<|.aM rfl rfl rfl c181<|.aM rfl rfl rfl c181<|.aM rfl rfl rfl c181<|.aM rfl rfl rfl c181<|.aM rfl rfl rfl c181<|.aM rfl rfl rfl c181<|.aM rfl rfl rfl c181<|.aM rfl rfl rfl c181<|.aV rfl c181 rfl<|.nil) rfl ?_;refine .ct rfl (by decide) ?_;refine .exit (fun a w hs=>⟨_,(sj h),fun e=>by subst e;have h:=ho4;exact aT (⟨(v176,v174),(sj h),hs.sub (.k rfl<|.p rfl .sl<|.k rfl<|.k rfl<|.k rfl<|trivial) (.of rfl) rfl rfl⟩)⟩)
       ·rintro⟨v230,v231⟩ rfl
        try dsimp only
        refine .region (.ar rfl rfl rfl<|.mv rfl<|.nil) rfl (fun _ _ hs=>⟨((IntKind.i64.wrap (v74+1)),v230,v231),(sj h),hs.sub (.of rfl) (.of rfl) rfl rfl⟩)
      ·replace h:=ab c81 h;refine .ct rfl c81 ?_;refine .exit (fun a w hs=>⟨_,(sj h),fun e=>by subst e;have h:=ho2;exact aT (⟨(),(sj h),hs.sub trivial trivial rfl rfl⟩)⟩)
     ·rintro⟨⟩ rfl
      try dsimp only
      refine .al (.aq rfl<|.aq rfl<|.aq rfl<|.nil) rfl ?_;cases h;refine .aQ (fun _ _ hb=>hb) rfl (.cons (.tmp rfl) (.cons (.tmp rfl) (.t1 (.tmp rfl)))) (.ig ⟨.refl _,.ju _,.refl _,trivial⟩) trivial trivial
end
end Go.Am
namespace Go.Am
theorem ou{σ ρ:Type}{b1 b2:σ->Option (St σ ρ)}(I:σ->Prop)(h:∀s,I s->b1 s=b2 s)(hp:∀s s',I s->b2 s=some (.next s')->I s'):∀k s,I s->kJ b1 k s=kJ b2 k s
 |0,_,_=>rfl
 |k+1,s,hs=>by
  unfold kJ;rw[h s hs]
  cases hb:b2 s with
  |none=>rfl
  |some x=>
   cases x with
   |done r=>rfl
   |next s'=>exact ou I h hp k s' (hp s s' hs hb)
theorem Aj{σ ρ:Type}{b1 b2:σ->Option (St σ ρ)}(I:σ->Prop)(h:∀s,I s->b1 s=b2 s)(hp:∀s s',I s->b2 s=some (.next s')->I s'){s:σ}(hs:I s):Loop b1 s=Loop b2 s:=by
 apply Option.ext;intro r;rw[ld,ld];exact⟨fun⟨k,hk⟩=>⟨k,by rw[←ou I h hp k s hs];exact hk⟩,fun⟨k,hk⟩=>⟨k,by rw[ou I h hp k s hs];exact hk⟩⟩
variable {n:Nat} {f:Nat->Nat->Rat} {B:Nat}
def fG(k:Nat)(f:Nat->Nat->Rat)(i j:Nat):Rat:=f (k+i) (k+j)
theorem si{k:Nat}:∀d i,n-k-i=d->dc f k n (k+i)=k+dc (fG k f) 0 (n-k) i
 |d,i,h=>by
  by_cases hlt:k+i<n
  ·rw[gW hlt,gW (show i<n-k by omega)];have e0:fG k f i 0=f (k+i) k:=rfl;rw[e0];by_cases h0:f (k+i) k=0
   ·rw[if_pos h0,if_pos h0]
    cases d with
    |zero=>omega
    |succ d=>exact si d (i+1) (by omega)
   ·rw[if_neg h0,if_neg h0]
  ·rw[j2 hlt,j2 (by omega)]
theorem DU(n k i:Int)(c:Rat):lL n k i c=cP k n i c:=rfl
def iy(f:Nat->Nat->Rat)(k i i' j:Nat):Rat:=if k<i'/\i'<i/\k<=j then f i' j-f i' k/f k k*f k j else f i' j
theorem uA{k i:Nat}(hf:kI f B):kI (iy f k i) (4*B+4):=fun i' j=>by
 have h1:=hf i' j;unfold iy
 split
 ·have h2:=hf i' k;have h3:=hf k k;have h4:=hf k j;have h5:=i5 (f i' k) (f k k);have h6:=gX (f i' k/f k k) (f k j);have h7:=pO (f i' j) (f i' k/f k k*f k j);omega
 ·omega
theorem vR{k i j:Nat}:iy f k i k j=f k j:=by unfold iy;rw[if_neg (by omega)]
theorem uS{k i j:Nat}:iy f k i i j=f i j:=by unfold iy;rw[if_neg (by omega)]
theorem Fe{body:Int×List (List Rat)->Option (St (Int×List (List Rat)) (List (List Rat)))}{k:Nat}(hbody:∀(i:Nat) g,body ((i:Int),az n n g)=iR (n:Int) (k:Int) (i:Int) (az n n g))(hk:k<n)(hn:n<=6)(hf:kI f B)(hB:4*B+4<=1000000000)(h0:f k k≠0):
  Loop body (((k+1:Nat):Int),az n n f)=some (az n n (iy f k n)):=by
 have hL:=n9 (body:=body) (k+1) n (fun i=>az n n (iy f k i)) (az n n (iy f k n)) hk (fun i hki hi=>by
  rw[hbody];unfold iR;have h1:=hf i k;have h2:=hf k k;have h3:=i5 (f i k) (f k k);rw[if_pos (decide_eq_true (by omega)),br hi,Option.bind_some,cA hk,Option.bind_some,br hk,Option.bind_some,cA hk,Option.bind_some,uS,vR,
   kZ h0 (show dm (f i k)by unfold dm;omega) (show dm (f k k)by unfold dm;omega),Option.bind_some]
  rw[DU,tP hk hi (by omega) (by omega) (by omega) (uA hf) (by omega) hB,Option.bind_some,Option.bind_some,cK hi (by omega)];rw[cH (g:=iy f k (i+1)) (fun i' j _ _=>by
   rw[uS,vR];unfold iy;by_cases e:i'=i/\k<=j
   ·rw[if_pos e,if_pos (by omega),e.1]
   ·rw[if_neg e];by_cases e2:k<i'/\i'<i/\k<=j
    ·rw[if_pos e2,if_pos (by omega)]
    ·rw[if_neg e2,if_neg (by omega)])]) (by
  rw[hbody];unfold iR;rw[if_neg (by simp)])
 have e0:az n n f=az n n (iy f k (k+1)):=cH fun i j _ _=>by unfold iy;rw[if_neg (by omega)]
 rw[e0];exact hL
theorem x5{k i:Nat}{g:Nat->Nat->Rat}:je (k:Int) (i:Int) (az n n g)=iR (n:Int) (k:Int) (i:Int) (az n n g):=by
 unfold je iR;rw[aR];have e:∀c:Rat,Loop (fun(s:Int×(List (List Rat)))=>ll (k:Int) (i:Int) c s.1 s.2) ((k:Int),az n n g)=Loop (fun(s:Int×(List (List Rat)))=>lL (n:Int) (k:Int) (i:Int) c s.1 s.2) ((k:Int),az n n g):=fun c=>
  Aj (fun s=>s.2.length=n) (fun s hs=>by unfold ll lL;rw[hs]) (fun s s' hs h=>by
   unfold lL at h
   split at h
   ·simp only[Option.bind_eq_some_iff]at h;obtain⟨_,_,_,_,_,_,_,_,_,_,_,_,_,_,_,_,h⟩:=h;injection h with h;injection h with h;subst h;simpa using hs
   ·injection h with h;cases h) (by rw[aR])
 simp only[e]
theorem ud{k:Nat}{g:Nat->Nat->Rat}:(fun s=>oo (n:Int) (k:Int) (az n n g) s)=(fun s=>dI (k:Int) (az n n g) s):=by
 funext s
 unfold oo dI;rw[aR]
theorem rF(k:Int)(M:List (List Rat)):ng k M=dI k M:=rfl
theorem zK{a b:Nat}:bS f a b=bS f b a:=by
 funext i j
 unfold bS;by_cases e1:i=b
 ·by_cases e2:i=a
  ·rw[if_pos e1,if_pos e2,←e1,←e2]
  ·rw[if_pos e1,if_neg e2,if_pos e1]
 ·by_cases e2:i=a
  ·rw[if_neg e1,if_pos e2,if_pos e2]
  ·rw[if_neg e1,if_neg e2,if_neg e2,if_neg e1]
theorem yH{k:Nat}{f1:Nat->Nat->Rat}{i j:Nat}(hi:k+1+i<n):fG (k+1) (iy f1 k n) i j=ur (fG k f1) i j:=by
 unfold fG ur iy;rw[if_pos (by omega),show k+1+i=k+(i+1)by omega,show k+1+j=k+(j+1)by omega]
 rfl
theorem xZ{k p:Nat}:fG k (bS f k (k+p))=bS (fG k f) 0 p:=by
 funext i j
 unfold fG bS;by_cases e:i=p
 ·rw[if_pos (by omega),if_pos e];rfl
 ·rw[if_neg (by omega),if_neg e];by_cases e2:i=0
  ·rw[if_pos (by omega),if_pos e2]
  ·rw[if_neg (by omega),if_neg e2]
theorem rk(hn:n<=6):∀d k (f:Nat->Nat->Rat) (D:Rat) (M0:List (List Rat)),M0.length=n->n-k=d->k<=n->kI f (300*8^k)->sz D<=300*8^k->
  ∃r,r=D*iE (n-k) (fG k f)/\sz r<=300*8^n/\
   (Loop (fun(s:Int×(List (List Rat))×Rat)=>dU (n:Int) M0 s.1 s.2.1 s.2.2) ((k:Int),az n n f,D)=some (Ex.cf r)\/(r=0/\Loop (fun(s:Int×(List (List Rat))×Rat)=>dU (n:Int) M0 s.1 s.2.1 s.2.2) ((k:Int),az n n f,D)=some (Ex.ret (0,0))))/\
   (Loop (fun(s:Int×(List (List Rat))×Rat)=>cV s.1 s.2.1 s.2.2) ((k:Int),az n n f,D)=some (Ex.cf r)\/(r=0/\Loop (fun(s:Int×(List (List Rat))×Rat)=>cV s.1 s.2.1 s.2.2) ((k:Int),az n n f,D)=some (Ex.ret 0)))
 |d,k,f,D,M0,hM0,hd,hk,hf,hD=>by
  by_cases hlt:k<n
  ·have hfind:=Al (f:=f) (m:=n) (n:=n) hlt (by omega) (n-k) k rfl hk;have hge:=qJ (f:=f) (k:=k) (n:=n) (n-k) k rfl;have hle:=tW (f:=f) (k:=k) (n:=n) (n-k) k rfl hk;have hsh:=si (f:=f) (n:=n) (k:=k) (n-k) 0 (by omega);rw[Nat.add_zero]at hsh;have hB:300*8^k<=9830400:=by
    have:300*8^k<=300*8^5:=zG (by omega);have e:(300:Nat)*8^5=9830400:=by decide
    omega
   have hnext:4*(300*8^k)+4<=300*8^(k+1)/\2*(300*8^k)<=300*8^(k+1):=by
    rw[Nat.pow_succ];have:0<8^k:=Nat.pow_pos (by decide);omega
   obtain⟨d,rfl⟩:∃d',d=d'+1:=⟨d-1,by omega⟩;have hnk:n-k=(n-(k+1))+1:=by omega
   by_cases hat:dc f k n k<n
   ·have hne:=mD (f:=f) (k:=k) (n:=n) (n-k) k rfl hat;by_cases hkk:f k k=0
    ·-- an exchange
     have hak:dc f k n k≠k:=fun e=>by rw[e]at hne;exact hne hkk
     obtain⟨p,hp⟩:∃p,dc f k n k=k+p:=⟨dc f k n k-k,by omega⟩;rw[hp]at hfind hat hne hak hsh;have hs:=lQ (a:=k) (b:=k+p) hf;have hpv:bS f k (k+p) k k=f (k+p) k:=by unfold bS;rw[if_neg (by omega),if_pos rfl]
     have hD2:sz (-D*f (k+p) k)<=300*8^(k+1):=by
      have:=gX (-D) (f (k+p) k);have h2:=hf (k+p) k;rw[l7]at this;omega
     have hq:fp (-D) (f (k+p) k)=some (-D*f (k+p) k):=kx (by unfold dm;rw[l7];omega) (by have:=hf (k+p) k;unfold dm;omega);have hd1:=Fe (n:=n) (body:=fun(s:Int×(List (List Rat)))=>iR (n:Int) (k:Int) s.1 s.2) (fun _ _=>rfl) hlt hn hs (by omega) (by rw[hpv];exact hne);have hd2:=Fe (n:=n) (body:=fun(s:Int×(List (List Rat)))=>je (k:Int) s.1 s.2) (fun _ _=>x5) hlt hn hs (by omega) (by rw[hpv];exact hne);obtain⟨r,hr,hrs,h1,h2⟩:=rk hn d (k+1) (iy (bS f k (k+p)) k n) (-D*f (k+p) k) M0 hM0 (by omega) hlt (fun i j=>Nat.le_trans (uA hs i j) hnext.1) hD2;refine⟨r,?_,hrs,?_,?_⟩
     ·rw[hr,hnk];have hpe:dc (fG k f) 0 (n-(k+1)+1) 0=p:=by
       have:n-k=n-(k+1)+1:=hnk;rw[←this];omega
      rw[pD (f:=fG (k+1) (iy (bS f k (k+p)) k n)) (g:=ur (fG k (bS f k (k+p)))) (fun i j hi _=>yH (by omega)),xZ]
      conv=>rhs;unfold iE
      rw[if_neg (by simpa [fG]using hkk),hpe,if_pos (by omega),show fG k f p 0=f (k+p) k from rfl]
      grind
     ·have hb:dU (n:Int) M0 (k:Int) (az n n f) D=some (.next (((k+1:Nat):Int),az n n (iy (bS f k (k+p)) k n),-D*f (k+p) k)):=by
       unfold dU;rw[hM0,if_pos (decide_eq_true (by omega)),ud,hfind,Option.bind_some,if_neg (by rw[beq_iff_eq];omega),if_pos (by rw[bne_iff_ne];omega),br hlt,Option.bind_some,br hat,Option.bind_some,Option.bind_some,Option.bind_some,show pg D=some (-D)from rfl,Option.bind_some,Option.bind_some];simp only;rw[oU (a:=k+p) (b:=k),zK,br hlt,Option.bind_some,cA hlt,Option.bind_some,hpv,hq,Option.bind_some,cK hlt (by omega),hd1,Option.bind_some,Option.bind_some]
      rw[dt (body:=fun(s:Int×(List (List Rat))×Rat)=>dU (n:Int) M0 s.1 s.2.1 s.2.2) hb];exact h1
     ·have hb:cV (k:Int) (az n n f) D=some (.next (((k+1:Nat):Int),az n n (iy (bS f k (k+p)) k n),-D*f (k+p) k)):=by
       unfold cV;rw[aR,if_pos (decide_eq_true (by omega)),rF,hfind,Option.bind_some,if_neg (by rw[beq_iff_eq];omega),if_pos (by rw[bne_iff_ne];omega),br hat,Option.bind_some,br hlt,Option.bind_some,Option.bind_some,Option.bind_some,show pg D=some (-D)from rfl,Option.bind_some,Option.bind_some];simp only;rw[oU (a:=k) (b:=k+p),br hlt,Option.bind_some,cA hlt,Option.bind_some,hpv,hq,Option.bind_some,cK hlt (by omega),hd2,Option.bind_some,Option.bind_some]
      rw[dt (body:=fun(s:Int×(List (List Rat))×Rat)=>cV s.1 s.2.1 s.2.2) hb];exact h2
    ·have hak:dc f k n k=k:=by rw[gW hlt,if_neg hkk]
     rw[hak]at hfind;have hD2:sz (D*f k k)<=300*8^(k+1):=by
      have:=gX D (f k k);have h2:=hf k k;omega
     have hq:fp D (f k k)=some (D*f k k):=kx (by unfold dm;omega) (by have:=hf k k;unfold dm;omega);have hd1:=Fe (n:=n) (body:=fun(s:Int×(List (List Rat)))=>iR (n:Int) (k:Int) s.1 s.2) (fun _ _=>rfl) hlt hn hf (by omega) hkk;have hd2:=Fe (n:=n) (body:=fun(s:Int×(List (List Rat)))=>je (k:Int) s.1 s.2) (fun _ _=>x5) hlt hn hf (by omega) hkk;obtain⟨r,hr,hrs,h1,h2⟩:=rk hn d (k+1) (iy f k n) (D*f k k) M0 hM0 (by omega) hlt (fun i j=>Nat.le_trans (uA hf i j) hnext.1) hD2;refine⟨r,?_,hrs,?_,?_⟩
     ·rw[hr,hnk]
      conv=>rhs;unfold iE
      rw[if_pos (show fG k f 0 0≠0 from hkk),pD (f:=fG (k+1) (iy f k n)) (g:=ur (fG k f)) (fun i j hi _=>yH (by omega)),show fG k f 0 0=f k k from rfl]
      grind
     ·have hb:dU (n:Int) M0 (k:Int) (az n n f) D=some (.next (((k+1:Nat):Int),az n n (iy f k n),D*f k k)):=by
       unfold dU;rw[hM0,if_pos (decide_eq_true (by omega)),ud,hfind,Option.bind_some,if_neg (by rw[beq_iff_eq];omega),if_neg (by simp),Option.bind_some];simp only;rw[br hlt,Option.bind_some,cA hlt,Option.bind_some,hq,Option.bind_some,cK hlt (by omega),hd1,Option.bind_some,Option.bind_some]
      rw[dt (body:=fun(s:Int×(List (List Rat))×Rat)=>dU (n:Int) M0 s.1 s.2.1 s.2.2) hb];exact h1
     ·have hb:cV (k:Int) (az n n f) D=some (.next (((k+1:Nat):Int),az n n (iy f k n),D*f k k)):=by
       unfold cV;rw[aR,if_pos (decide_eq_true (by omega)),rF,hfind,Option.bind_some,if_neg (by rw[beq_iff_eq];omega),if_neg (by simp),Option.bind_some];simp only;rw[br hlt,Option.bind_some,cA hlt,Option.bind_some,hq,Option.bind_some,cK hlt (by omega),hd2,Option.bind_some,Option.bind_some]
      rw[dt (body:=fun(s:Int×(List (List Rat))×Rat)=>cV s.1 s.2.1 s.2.2) hb];exact h2
   ·have hnn:dc f k n k=n:=by omega
    rw[hnn]at hfind;have hall:=oX (f:=f) (k:=k) (n:=n) (n-k) k rfl hat;have hkk:f k k=0:=hall k (Nat.le_refl _) hlt;refine⟨0,?_,by show sz (0:Rat)<=_;have:0<8^n:=Nat.pow_pos (by decide);have e:sz (0:Rat)=1:=rfl;omega,.inr ⟨rfl,?_⟩,.inr ⟨rfl,?_⟩⟩
    ·rw[hnk];unfold iE;rw[if_neg (by simpa [fG]using hkk),if_neg (by rw[←hnk];omega)];grind
    ·refine bX (body:=fun(s:Int×(List (List Rat))×Rat)=>dU (n:Int) M0 s.1 s.2.1 s.2.2) ?_;show dU (n:Int) M0 (k:Int) (az n n f) D=_;unfold dU;rw[hM0,if_pos (decide_eq_true (by omega)),ud,hfind,Option.bind_some,if_pos (by simp),Option.bind_some]
     try rfl
    ·refine bX (body:=fun(s:Int×(List (List Rat))×Rat)=>cV s.1 s.2.1 s.2.2) ?_;show cV (k:Int) (az n n f) D=_;unfold cV;rw[aR,if_pos (decide_eq_true (by omega)),rF,hfind,Option.bind_some,if_pos (by simp),Option.bind_some]
     try rfl
  ·have hkn:k=n:=by omega
   subst hkn;refine⟨D,by rw[Nat.sub_self];unfold iE;grind,hD,.inl ?_,.inl ?_⟩
   ·refine bX (body:=fun(s:Int×(List (List Rat))×Rat)=>dU (k:Int) M0 s.1 s.2.1 s.2.2) ?_;show dU (k:Int) M0 (k:Int) (az k k f) D=_;unfold dU;rw[hM0,if_neg (by simp)]
   ·refine bX (body:=fun(s:Int×(List (List Rat))×Rat)=>cV s.1 s.2.1 s.2.2) ?_;show cV (k:Int) (az k k f) D=_;unfold cV;rw[aR,if_neg (by simp)]
theorem Dv(f:Nat->Nat->Rat)(hn:n<=6)(hf:kI f 300):uf (az n n f)=some (iE n f,0)/\oN (az n n f)=some (iE n f)/\sz (iE n f)<=300*8^n:=by
 have hc:gq (az n n f)=n:=by
  by_cases h:n=0
  ·subst h;rfl
  ·exact oC (by omega)
 have hrl:∀r∈az n n f,r.length<=30:=fun r hr=>by rw[mG hr];omega
 obtain⟨r,hr,hs,h1,h2⟩:=rk (n:=n) hn n 0 f 1 (az n n f) aR rfl (Nat.zero_le _) (by simpa using hf) (by decide+kernel);have hr:r=iE n f:=by
  rw[hr,Nat.sub_zero];have:fG 0 f=f:=by funext i j;unfold fG;rw[Nat.zero_add,Nat.zero_add]
  rw[this];grind
 subst hr;refine⟨?_,?_,hs⟩
 ·unfold uf;rw[kR _ (by rw[aR];omega),lP,hc,aR,Option.bind_some];simp only[Bool.not_true,Bool.false_eq_true,if_false];rw[if_neg (by simp),rn _ (by rw[aR];omega) hrl,Option.bind_some,nW,Option.bind_some];rcases h1 with h1|⟨h0,h1⟩
  ·have:Loop (fun(s:Int×(List (List Rat))×Rat)=>dU (n:Int) (az n n f) s.1 s.2.1 s.2.2) (0,az n n f,1)=_:=h1;rw[this];rfl
  ·have:Loop (fun(s:Int×(List (List Rat))×Rat)=>dU (n:Int) (az n n f) s.1 s.2.1 s.2.2) (0,az n n f,1)=_:=h1;rw[this,h0];rfl
 ·unfold oN;rw[vy _ (by rw[aR];omega) hrl,Option.bind_some,nW,Option.bind_some];rcases h2 with h2|⟨h0,h2⟩
  ·have:Loop (fun(s:Int×(List (List Rat))×Rat)=>cV s.1 s.2.1 s.2.2) (0,az n n f,1)=_:=h2;rw[this];rfl
  ·have:Loop (fun(s:Int×(List (List Rat))×Rat)=>cV s.1 s.2.1 s.2.2) (0,az n n f,1)=_:=h2;rw[this,h0];rfl
end Go.Am
namespace Go.Am
variable {n:Nat} {f b S A:Nat->Nat->Rat} {B:Nat}
def Qf(n:Nat)(A:Nat->Nat->Rat)(u v:Nat->Rat):Rat:=cq (List.range n) fun p=>cq (List.range n) fun q=>u p*A p q*v q
theorem Ba{u v w:Nat->Rat}{c:Rat}:Qf n A (fun p=>u p+c*v p) w=Qf n A u w+c*Qf n A v w:=by
 unfold Qf;rw[←fl,←gR];refine bF fun p _=>?_;rw[←fl,←gR];exact bF fun q _=>by grind
theorem qz{u v w:Nat->Rat}{c:Rat}:Qf n A w (fun p=>u p+c*v p)=Qf n A w u+c*Qf n A w v:=by
 unfold Qf;rw[←fl,←gR];refine bF fun p _=>?_;rw[←fl,←gR];exact bF fun q _=>by grind
theorem GX{x:Nat->Rat}:Qf n A x x=qf (List.range n) A x:=bF fun p _=>bF fun q _=>by grind
def iZ(i j:Nat):Rat:=if i=j then 1 else 0
theorem Fa{i j:Nat}(hi:i<n)(hj:j<n):Qf n A (iZ i) (iZ j)=A i j:=by
 have u0:∀{i p:Nat},p≠i->iZ i p=0:=fun h=>by unfold iZ;rw[if_neg (Ne.symm h)]
 have u1:∀{i:Nat},iZ i i=1:=by intro i;unfold iZ;rw[if_pos rfl]
 unfold Qf;rw[kV List.nodup_range (List.mem_range.2 hi) (fun p _ hp=>iF fun q _=>by rw[u0 hp];grind),kV List.nodup_range (List.mem_range.2 hj) (fun q _ hq=>by rw[u0 hq];grind),u1,u1]
 grind
def nb(b f:Nat->Nat->Rat)(k i j:Nat):Rat:=if k<i then b i j+-(f i k/f k k)*b k j else b i j
theorem JG{k:Nat}(hs:symm S)(h0:S k k≠0)(hf:∀i,k<=i->i<n->f i k=S i k)(hk:k<n)(hQ:∀i j,k<=i->i<n->k<=j->j<n->Qf n A (b i) (b j)=S i j){i j:Nat}(hi:k<i)(dw:i<n)(hj:k<j)(hjn:j<n):Qf n A (nb b f k i) (nb b f k j)=mj S k i j:=by
 have e:∀i,k<i->nb b f k i=fun p=>b i p+-(f i k/f k k)*b k p:=fun i hi=>by funext p;unfold nb;rw[if_pos hi]
 rw[e i hi,e j hj,Ba,qz,qz,hQ _ _ (by omega) dw (by omega) hjn,hQ _ _ (by omega) dw (by omega) hk,hQ _ _ (by omega) hk (by omega) hjn,hQ _ _ (by omega) hk (by omega) hk,hf i (by omega) dw,hf j (by omega) hjn,hf k (by omega) hk];unfold mj;rw[hs k j];have h1:S j k/S k k*S k k=S j k:=Rat.div_mul_cancel h0;have h2:S i k/S k k*S k k=S i k:=Rat.div_mul_cancel h0;generalize S i k/S k k=x at*;generalize S j k/S k k=y at*;rw[←h1,←h2]
 grind
def CA(n:Nat)(f:Nat->Nat->Rat):Prop:=∀i j,j<i->i<n->f i j=f j i
theorem AH{a b:Rat}:(iM a b !=0)=true↔a≠b:=by
 rw[bne_iff_ne];unfold iM
 constructor
 ·intro h e;subst e;grind
 ·intro h e;by_cases h1:a<b
  ·rw[if_pos h1]at e;omega
  ·rw[if_neg h1]at e;by_cases h2:b<a
   ·rw[if_pos h2]at e;omega
   ·grind
theorem Ax{i:Nat}(hi:i<n)(hn:n<=6)(hf:kI f 300):∀d k,i-k=d->k<=i->
  (Loop (fun(s:Int)=>bR (az n n f) (i:Int) s) (k:Int)=some (Ex.cf ())/\Loop (fun(s:Int)=>b_ (az n n f) (i:Int) s) (k:Int)=some (Ex.cf ())/\∀j,k<=j->j<i->f i j=f j i)\/
  (Loop (fun(s:Int)=>bR (az n n f) (i:Int) s) (k:Int)=some (Ex.ret (false,[],2))/\Loop (fun(s:Int)=>b_ (az n n f) (i:Int) s) (k:Int)=some (Ex.ret false)/\∃j,j<i/\f i j≠f j i)
 |0,k,hd,hk=>by
  have:k=i:=by omega
  subst this;refine .inl ⟨bX (body:=fun(s:Int)=>bR (az n n f) (k:Int) s) ?_,bX (body:=fun(s:Int)=>b_ (az n n f) (k:Int) s) ?_,fun j h1 h2=>by omega⟩
  ·unfold bR;rw[if_neg (by simp)]
  ·unfold b_;rw[if_neg (by simp)]
 |d+1,k,hd,hk=>by
  have hlt:k<i:=by omega
  have q1:dm (f i k):=Nat.le_trans (hf i k) (by decide);have q2:dm (f k i):=Nat.le_trans (hf k i) (by decide);by_cases he:f i k=f k i
  ·have b1:bR (az n n f) (i:Int) (k:Int)=some (.next ((k+1:Nat):Int)):=by
    unfold bR;rw[if_pos (decide_eq_true (by omega)),br hi,Option.bind_some,cA (by omega),Option.bind_some,br (by omega),Option.bind_some,cA hi,Option.bind_some,qG q1 q2,Option.bind_some,if_neg (by rw[AH];exact fun h=>h he),cK hlt (by omega)]
   have b2:b_ (az n n f) (i:Int) (k:Int)=some (.next ((k+1:Nat):Int)):=by
    unfold b_;rw[if_pos (decide_eq_true (by omega)),br hi,Option.bind_some,cA (by omega),Option.bind_some,br (by omega),Option.bind_some,cA hi,Option.bind_some,qG q1 q2,Option.bind_some,if_neg (by rw[AH];exact fun h=>h he),cK hlt (by omega)]
   rw[dt (body:=fun(s:Int)=>bR (az n n f) (i:Int) s) b1,dt (body:=fun(s:Int)=>b_ (az n n f) (i:Int) s) b2];rcases Ax hi hn hf d (k+1) (by omega) (by omega)with⟨h1,h2,h3⟩|h
   ·refine .inl ⟨h1,h2,fun j hj hji=>?_⟩;by_cases e:j=k
    ·subst e;exact he
    ·exact h3 j (by omega) hji
   ·exact .inr h
  ·refine .inr ⟨bX (body:=fun(s:Int)=>bR (az n n f) (i:Int) s) ?_,bX (body:=fun(s:Int)=>b_ (az n n f) (i:Int) s) ?_,k,hlt,he⟩
   ·unfold bR;rw[if_pos (decide_eq_true (by omega)),br hi,Option.bind_some,cA (by omega),Option.bind_some,br (by omega),Option.bind_some,cA hi,Option.bind_some,qG q1 q2,Option.bind_some,if_pos (AH.2 he)]
   ·unfold b_;rw[if_pos (decide_eq_true (by omega)),br hi,Option.bind_some,cA (by omega),Option.bind_some,br (by omega),Option.bind_some,cA hi,Option.bind_some,qG q1 q2,Option.bind_some,if_pos (AH.2 he)]
theorem Au(hn:n<=6)(hf:kI f 300):∀d i,n-i=d->i<=n->
  (Loop (fun(s:Int)=>bP (az n n f) s) (i:Int)=some (Ex.cf ())/\Loop (fun(s:Int)=>ca (az n n f) s) (i:Int)=some (Ex.cf ())/\∀i',i<=i'->i'<n->∀j,j<i'->f i' j=f j i')\/
  (Loop (fun(s:Int)=>bP (az n n f) s) (i:Int)=some (Ex.ret (false,[],2))/\Loop (fun(s:Int)=>ca (az n n f) s) (i:Int)=some (Ex.ret false)/\¬CA n f)
 |0,i,hd,hi=>by
  have:i=n:=by omega
  subst this;refine .inl ⟨bX (body:=fun(s:Int)=>bP (az i i f) s) ?_,bX (body:=fun(s:Int)=>ca (az i i f) s) ?_,fun j h1 h2=>by omega⟩
  ·unfold bP;rw[aR,if_neg (by simp)]
  ·unfold ca;rw[aR,if_neg (by simp)]
 |d+1,i,hd,hi=>by
  have hlt:i<n:=by omega
  rcases Ax hlt hn hf i 0 (by omega) (Nat.zero_le _)with⟨h1,h2,h3⟩|⟨h1,h2,j,hj,he⟩
  ·have b1:bP (az n n f) (i:Int)=some (.next ((i+1:Nat):Int)):=by
    unfold bP;have h1':Loop (fun(s:Int)=>bR (az n n f) (i:Int) s) 0=some (Ex.cf ()):=h1;rw[aR,if_pos (decide_eq_true (by omega)),h1',Option.bind_some,Option.bind_some,cK hlt (by omega)]
   have b2:ca (az n n f) (i:Int)=some (.next ((i+1:Nat):Int)):=by
    unfold ca;have h2':Loop (fun(s:Int)=>b_ (az n n f) (i:Int) s) 0=some (Ex.cf ()):=h2;rw[aR,if_pos (decide_eq_true (by omega)),h2',Option.bind_some,Option.bind_some,cK hlt (by omega)]
   rw[dt (body:=fun(s:Int)=>bP (az n n f) s) b1,dt (body:=fun(s:Int)=>ca (az n n f) s) b2];rcases Au hn hf d (i+1) (by omega) hlt with⟨g1,g2,g3⟩|g
   ·refine .inl ⟨g1,g2,fun i' hi' dw j hj=>?_⟩;by_cases e:i'=i
    ·subst e;exact h3 j (Nat.zero_le _) hj
    ·exact g3 i' (by omega) dw j hj
   ·exact .inr g
  ·refine .inr ⟨bX (body:=fun(s:Int)=>bP (az n n f) s) ?_,bX (body:=fun(s:Int)=>ca (az n n f) s) ?_,fun h=>he (h i j hj hlt)⟩
   ·unfold bP;have h1':Loop (fun(s:Int)=>bR (az n n f) (i:Int) s) 0=some (Ex.ret (false,[],2)):=h1;rw[aR,if_pos (decide_eq_true (by omega)),h1',Option.bind_some,Option.bind_some]
   ·unfold ca;have h2':Loop (fun(s:Int)=>b_ (az n n f) (i:Int) s) 0=some (Ex.ret false):=h2;rw[aR,if_pos (decide_eq_true (by omega)),h2',Option.bind_some,Option.bind_some]
theorem zU(hn:n<=6):Loop (fun(s:Int×(List (List Rat))×(List (List Rat)))=>dQ (n:Int) s.1 s.2.1 s.2.2) (0,List.replicate n ([]:List Rat),([]:List (List Rat)))=some ([],az n n iZ):=by
 have hL:=fB (body:=fun(s:Int×(List (List Rat))×(List (List Rat)))=>dQ (n:Int) s.1 s.2.1 s.2.2) n (fun k=>(List.replicate (n-k) [],az k n iZ)) ([],az n n iZ) (fun k hk=>by
  unfold dQ;obtain⟨d,hd⟩:∃d,n-k=d+1:=⟨n-k-1,by omega⟩;have e1:az k n iZ++[List.replicate n (0:Rat)]=az (k+1) n (fun i j=>if i<k then iZ i j else 0):=by
   rw[rD]
   congr 1
   ·exact cH fun i j hi _=>by rw[if_pos hi]
   ·congr 1
    apply List.ext_getElem
    ·simp
    ·intro j h1 h2;simp
  have e2:(List.range n).map (fun j=>if k<k then iZ k j else(0:Rat))=(List.range n).map ((fun i j=>if i<k then iZ i j else(0:Rat)) k):=rfl;rw[if_pos (decide_eq_true (by simp;omega)),aS (by omega),aS (by rw[aR]),hd,List.replicate_succ];have e0:ix (([]:List Rat)::List.replicate d []) 0=some []:=rfl;rw[e0,Option.bind_some,Int.toNat_natCast,e1,br (by omega),Option.bind_some,nW,Option.bind_some,cA hk,Option.bind_some,List.tail_cons,cK hk (by omega)];rw[show n-(k+1)=d by omega];have e3:=tG (n:=k+1) (m:=n) (f:=fun i j=>if i<k then iZ i j else(0:Rat)) (k:=k) (j:=k) (v:=1);rw[e3,cH (g:=iZ) (fun i j hi _=>by
   by_cases e:i=k/\j=k
   ·rw[if_pos e,e.1,e.2];unfold iZ;rw[if_pos rfl]
   ·rw[if_neg e];by_cases e4:i<k
    ·rw[if_pos e4]
    ·rw[if_neg e4];unfold iZ;rw[if_neg (by omega)])]) (by
  unfold dQ;rw[if_neg (by simp),Nat.sub_self];rfl)
 rw[Nat.sub_zero]at hL;exact hL
theorem tK{i k:Nat}{c:Rat}(hi:i<n)(hk:k<n)(hn:n<=6)(hb:kI b B)(hc:sz c<=4*B+4)(hB:B<=1000000000):kY (i:Int) (k:Int) c (az n n b)=some ((List.range n).map fun j=>b i j+c*b k j):=by
 unfold kY oa;rw[br hi,Option.bind_some,br hk,Option.bind_some,Int.toNat_natCast,EJ hi,Option.bind_some,aS (by simp;omega),Option.bind_some,List.drop_zero];have hL:=fB (body:=fun(s:Int×(List Rat))=>gl ((List.range n).map (b k)) c ((List.range n).map (b i)) s.1 s.2) n (fun q=>(List.range n).map fun j=>if j<q then b i j+c*b k j else b i j) ((List.range n).map fun j=>if j<n then b i j+c*b k j else b i j) (fun q hq=>by
  unfold gl;have h1:=hb k q;have h2:=hb i q;have h3:=gX c (b k q);rw[if_pos (decide_eq_true (by simp;omega)),cA hq,Option.bind_some,if_neg (by omega),cA hq,Option.bind_some,kx (show dm c by unfold dm;omega) (show dm (b k q)by unfold dm;omega),Option.bind_some,oe (show dm (b i q)by unfold dm;omega) (show dm (c*b k q)by unfold dm;omega),Option.bind_some,cK hq (by omega),Int.toNat_natCast]
  congr 3
  apply List.ext_getElem
  ·simp
  ·intro j h4 h5;rw[List.length_set,List.length_map,List.length_range]at h4;by_cases e:j=q
   ·subst e;rw[List.getElem_set_self];simp
   ·rw[List.getElem_set_ne (Ne.symm e)];simp only[List.getElem_map,List.getElem_range];by_cases e2:j<q
    ·rw[if_pos e2,if_pos (by omega)]
    ·rw[if_neg e2,if_neg (by omega)]) (by
  unfold gl;rw[if_neg (by simp)])
 have e0:(List.range n).map (b i)=(List.range n).map fun j=>if j<0 then b i j+c*b k j else b i j:=by
  apply List.map_congr_left;intro j _;rw[if_neg (by omega)]
 rw[←e0]at hL;have:Loop (fun(s:Int×(List Rat))=>gl ((List.range n).map (b k)) c ((List.range n).map (b i)) s.1 s.2) (0,(List.range n).map (b i))=_:=hL;rw[this,Option.bind_some,Option.bind_some]
 congr 1
 apply List.map_congr_left;intro j hj;rw[if_pos (by simpa using hj)]
end Go.Am
namespace Go.Am
variable {n:Nat} {f b S A:Nat->Nat->Rat} {B:Nat}
theorem EZ(n k i:Int)(c:Rat):hZ n k i c=cP k n i c:=rfl
def kG(f:Nat->Nat->Rat)(k i i' j:Nat):Rat:=if k<i'/\i'<i/\k<j then f i' j-f i' k/f k k*f k j else f i' j
theorem xS{k i:Nat}(hf:kI f B):kI (kG f k i) (4*B+4):=fun i' j=>by
 have h1:=hf i' j;unfold kG
 split
 ·have h2:=hf i' k;have h3:=hf k k;have h4:=hf k j;have h5:=i5 (f i' k) (f k k);have h6:=gX (f i' k/f k k) (f k j);have h7:=pO (f i' j) (f i' k/f k k*f k j);omega
 ·omega
theorem q7{k i j:Nat}:kG f k i k j=f k j:=by unfold kG;rw[if_neg (by omega)]
theorem uP{k i j:Nat}:kG f k i i j=f i j:=by unfold kG;rw[if_neg (by omega)]
theorem Aq{x:Rat}:(wD x !=0)=true↔x≠0:=uG
theorem oL{x:Rat}:(wD x==0)=true↔x=0:=by rw[beq_iff_eq,oS]
theorem tM{x:Rat}:wD x<0↔x<0:=by unfold wD;grind
theorem JD{k:Nat}(hk:k<n)(hn:n<=6)(hf:kI f B)(hB:4*B+4<=1000000000)(h0:f k k≠0):
  Loop (fun(s:Int×(List (List Rat)))=>cD (n:Int) (k:Int) s.1 s.2) (((k+1:Nat):Int),az n n f)=some (az n n (kG f k n)):=by
 have hL:=n9 (body:=fun(s:Int×(List (List Rat)))=>cD (n:Int) (k:Int) s.1 s.2) (k+1) n (fun i=>az n n (kG f k i)) (az n n (kG f k n)) hk (fun i hki hi=>by
  unfold cD;have h1:=hf i k;have h2:=hf k k;have h3:=i5 (f i k) (f k k);rw[if_pos (decide_eq_true (by omega)),br hk,Option.bind_some,cA hk,Option.bind_some,q7,cZ,Option.bind_some,if_pos (Aq.2 h0)];simp only[br hi,br hk,cA hk,Option.bind_some,uP,q7];rw[kZ h0 (show dm (f i k)by unfold dm;omega) (show dm (f k k)by unfold dm;omega),Option.bind_some,cK hk (by omega)];rw[EZ,tP hk hi (by omega) (by omega) (by omega) (xS hf) (by omega) hB,Option.bind_some,Option.bind_some,cK hi (by omega)];rw[cH (g:=kG f k (i+1)) (fun i' j _ _=>by
   rw[uP,q7];unfold kG;by_cases e:i'=i/\k+1<=j
   ·rw[if_pos e,if_pos (by omega),e.1]
   ·rw[if_neg e];by_cases e2:k<i'/\i'<i/\k<j
    ·rw[if_pos e2,if_pos (by omega)]
    ·rw[if_neg e2,if_neg (by omega)])]) (by
  unfold cD;rw[if_neg (by simp)])
 have e0:az n n f=az n n (kG f k (k+1)):=cH fun i j _ _=>by unfold kG;rw[if_neg (by omega)]
 rw[e0];exact hL
theorem Jg{k:Nat}(hk:k<n)(h0:f k k=0):Loop (fun(s:Int×(List (List Rat)))=>cD (n:Int) (k:Int) s.1 s.2) (((k+1:Nat):Int),az n n f)=some (az n n f):=by
 refine bX (body:=fun(s:Int×(List (List Rat)))=>cD (n:Int) (k:Int) s.1 s.2) ?_;show cD (n:Int) (k:Int) _ _=_;unfold cD;by_cases h:k+1<n
 ·rw[if_pos (decide_eq_true (by omega)),br hk,Option.bind_some,cA hk,Option.bind_some,cZ,Option.bind_some,if_neg (by rw[Aq];exact fun h=>h h0)]
 ·rw[if_neg (by rw[decide_eq_true_eq];omega)]
def xy(b f:Nat->Nat->Rat)(k i i' j:Nat):Rat:=if k<i'/\i'<i then b i' j+-(f i' k/f k k)*b k j else b i' j
theorem C2{k i:Nat}(hf:kI f B)(hb:kI b B):kI (xy b f k i) (4*B+4):=fun i' j=>by
 have h1:=hb i' j;unfold xy
 split
 ·have h2:=hf i' k;have h3:=hf k k;have h4:=hb k j;have h5:=i5 (f i' k) (f k k);have h6:=gX (-(f i' k/f k k)) (b k j);have h7:=kD (b i' j) (-(f i' k/f k k)*b k j);rw[l7]at h6;omega
 ·omega
theorem FK{k i j:Nat}:xy b f k i k j=b k j:=by unfold xy;rw[if_neg (by omega)]
theorem CG{k i j:Nat}:xy b f k i i j=b i j:=by unfold xy;rw[if_neg (by omega)]
theorem I_{k:Nat}(hk:k<n)(hn:n<=6)(hf:kI f B)(hb:kI b B)(hB:4*B+4<=100000000)(h0:f k k≠0):
  Loop (fun(s:Int×(List (List Rat)))=>bB (n:Int) (k:Int) (az n n f) s.1 s.2) (((k+1:Nat):Int),az n n b)=some (Ex.cf (az n n (nb b f k))):=by
 have hL:=n9 (body:=fun(s:Int×(List (List Rat)))=>bB (n:Int) (k:Int) (az n n f) s.1 s.2) (k+1) n (fun i=>az n n (xy b f k i)) (Ex.cf (az n n (xy b f k n))) hk (fun i hki hi=>by
  unfold bB;have h1:=hf i k;have h2:=hf k k;have h3:=i5 (f i k) (f k k);rw[if_pos (decide_eq_true (by omega)),br hi,Option.bind_some,cA hk,Option.bind_some,cZ,Option.bind_some];by_cases hz:f i k=0
  ·rw[if_pos (oL.2 hz),Option.bind_some];simp only;rw[cK hi (by omega),cH (g:=xy b f k (i+1)) (fun i' j _ _=>by
    unfold xy;by_cases e:i'=i
    ·subst e;rw[if_neg (by omega),if_pos (by omega),hz,Rat.div_def];grind
    ·by_cases e2:k<i'/\i'<i
     ·rw[if_pos e2,if_pos (by omega)]
     ·rw[if_neg e2,if_neg (by omega)])]
  ·rw[if_neg (by rw[oL];exact hz),br hk,Option.bind_some,cA hk,Option.bind_some,cZ,Option.bind_some,if_neg (by rw[oL];exact h0)];simp only[br hi,br hk,cA hk,Option.bind_some];rw[kZ h0 (show dm (f i k)by unfold dm;omega) (show dm (f k k)by unfold dm;omega),Option.bind_some,show pg (f i k/f k k)=some (-(f i k/f k k))from rfl,Option.bind_some,
    tK hi hk hn (C2 hf hb) (by rw[l7];omega) (by omega)]
   simp only[Option.bind_some];rw[cK hi (by omega),Int.toNat_natCast,n5,cH (g:=xy b f k (i+1)) (fun i' j _ _=>by
    rw[CG,FK];unfold xy;by_cases e:i'=i
    ·subst e;rw[if_pos rfl,if_pos (by omega)]
    ·rw[if_neg e];by_cases e2:k<i'/\i'<i
     ·rw[if_pos e2,if_pos (by omega)]
     ·rw[if_neg e2,if_neg (by omega)])]) (by
  unfold bB;rw[if_neg (by simp)])
 have e0:az n n b=az n n (xy b f k (k+1)):=cH fun i j _ _=>by unfold xy;rw[if_neg (by omega)]
 have e1:az n n (xy b f k n)=az n n (nb b f k):=cH fun i j hi _=>by
  unfold xy nb;by_cases e:k<i
  ·rw[if_pos ⟨e,hi⟩,if_pos e]
  ·rw[if_neg (fun h=>e h.1),if_neg e]
 rw[e0,←e1];exact hL
def vf(f:Nat->Nat->Rat)(k i:Nat):Rat:=-((f i i+1)/(f i k+f i k))
theorem Jf{k:Nat}(hk:k<n)(hn:n<=6)(hf:kI f B)(hb:kI b B)(hB:4*B+4<=100000000)(h0:f k k=0):∀d i,n-i=d->k<i->i<=n->
  Loop (fun(s:Int×(List (List Rat)))=>bB (n:Int) (k:Int) (az n n f) s.1 s.2) ((i:Int),az n n b)=
   some (if dc f k n i<n then Ex.ret (false,(List.range n).map (fun j=>b (dc f k n i) j+vf f k (dc f k n i)*b k j),0)else Ex.cf (az n n b)):=by
 intro d
 induction d with
 |zero=>
  intro i hd hki hi;rw[j2 (by omega),if_neg (by omega)];refine bX (body:=fun(s:Int×(List (List Rat)))=>bB (n:Int) (k:Int) (az n n f) s.1 s.2) ?_;show bB _ _ _ (i:Int) _=_;unfold bB;rw[if_neg (by rw[decide_eq_true_eq];omega)]
 |succ d ih=>
  intro i hd hki hi;have hlt:i<n:=by omega
  rw[gW hlt];by_cases hz:f i k=0
  ·rw[if_pos hz];have hbd:bB (n:Int) (k:Int) (az n n f) (i:Int) (az n n b)=some (.next (((i+1:Nat):Int),az n n b)):=by
    unfold bB;rw[if_pos (decide_eq_true (by omega)),br hlt,Option.bind_some,cA hk,Option.bind_some,cZ,Option.bind_some,if_pos (oL.2 hz),Option.bind_some];simp only;rw[cK hlt (by omega)]
   rw[dt (body:=fun(s:Int×(List (List Rat)))=>bB (n:Int) (k:Int) (az n n f) s.1 s.2) hbd];exact ih (i+1) (by omega) (by omega) hlt
  ·rw[if_neg hz,if_pos hlt];refine bX (body:=fun(s:Int×(List (List Rat)))=>bB (n:Int) (k:Int) (az n n f) s.1 s.2) ?_;show bB _ _ _ (i:Int) _=_;unfold bB;have h1:=hf i k;have h2:=hf i i;have s1:sz (1:Rat)<=1:=by decide+kernel
   have h3:=kD (f i i) 1;have h4:=kD (f i k) (f i k);have h5:=i5 (f i i+1) (f i k+f i k);have hd0:f i k+f i k≠0:=by grind
   rw[if_pos (decide_eq_true (by omega)),br hlt,Option.bind_some,cA hk,Option.bind_some,cZ,Option.bind_some,if_neg (by rw[oL];exact hz),br hk,Option.bind_some,cA hk,Option.bind_some,cZ,Option.bind_some,if_pos (oL.2 h0)];simp only[br hlt,br hk,cA hk,cA hlt,Option.bind_some,nW];rw[oe (show dm (f i i)by unfold dm;omega) (show dm 1 by decide+kernel),Option.bind_some,oe (show dm (f i k)by unfold dm;omega) (show dm (f i k)by unfold dm;omega),Option.bind_some,
    kZ hd0 (show dm (f i i+1)by unfold dm;omega) (show dm (f i k+f i k)by unfold dm;omega),Option.bind_some,show pg ((f i i+1)/(f i k+f i k))=some (vf f k i)from rfl,Option.bind_some,
    tK hlt hk hn hb (by unfold vf;rw[l7];omega) (by omega),Option.bind_some,Option.bind_some]
theorem yz(k d:Nat):List.range' k (d+1)=k::List.range' (k+1) d:=by rw[List.range'_succ]
theorem rN(hn:n<=6):∀d k (f b S:Nat->Nat->Rat),n-k=d->k<=n->kI f (300*8^k)->kI b (300*8^k)->symm S->(∀i j,k<=i->i<n->k<=j->j<n->f i j=S i j)->(∀i j,k<=i->i<n->k<=j->j<n->Qf n A (b i) (b j)=S i j)->
  (Loop (fun(s:Int×(List (List Rat))×(List (List Rat)))=>bk (n:Int) s.1 s.2.1 s.2.2) ((k:Int),az n n f,az n n b)=some (Ex.cf ())/\xG (List.range' k (n-k)) S)\/
  ∃w:Nat->Rat,Loop (fun(s:Int×(List (List Rat))×(List (List Rat)))=>bk (n:Int) s.1 s.2.1 s.2.2) ((k:Int),az n n f,az n n b)=some (Ex.ret (false,(List.range n).map w,0))/\Qf n A w w<0/\∀j,sz (w j)<=5*(300*8^(n-1))+5
 |0,k,f,b,S,hd,hk,hf,hb,hs,hfS,hQ=>by
  refine .inl ⟨bX (body:=fun(s:Int×(List (List Rat))×(List (List Rat)))=>bk (n:Int) s.1 s.2.1 s.2.2) ?_,fun x=>by rw[hd];show(0:Rat)<=0;exact Rat.le_refl⟩;show bk (n:Int) (k:Int) _ _=_;unfold bk;rw[if_neg (by rw[decide_eq_true_eq];omega)]
 |d+1,k,f,b,S,hd,hk,hf,hb,hs,hfS,hQ=>by
  have hlt:k<n:=by omega
  have hkk:=hfS k k (Nat.le_refl _) hlt (Nat.le_refl _) hlt;have hB:300*8^k<=9830400:=by
   have:300*8^k<=300*8^5:=zG (by omega);have e:(300:Nat)*8^5=9830400:=by decide
   omega
  have hnext:4*(300*8^k)+4<=300*8^(k+1):=by
   rw[Nat.pow_succ];have:0<8^k:=Nat.pow_pos (by decide);omega
  have hnd:n-(k+1)=d:=by omega
  have hkn:300*8^k<=300*8^(n-1):=zG (by omega);rw[hd,yz];by_cases hneg:f k k<0
  ·refine .inr ⟨b k,bX (body:=fun(s:Int×(List (List Rat))×(List (List Rat)))=>bk (n:Int) s.1 s.2.1 s.2.2) ?_,by rw[hQ k k (Nat.le_refl _) hlt (Nat.le_refl _) hlt,←hkk];exact hneg,fun j=>Nat.le_trans (hb k j) (by omega)⟩;show bk (n:Int) (k:Int) _ _=_;unfold bk;rw[if_pos (decide_eq_true (by omega)),br hlt,Option.bind_some,cA hlt,Option.bind_some,cZ,Option.bind_some,if_pos (decide_eq_true (tM.2 hneg)),br hlt,Option.bind_some,Option.bind_some]
  ·have hsg:¬(decide (wD (f k k)<0))=true:=by rw[decide_eq_true_eq,tM];exact hneg
   by_cases h0:f k k=0
   ·have hv:=Jf hlt hn hf hb (by omega) h0 (n-(k+1)) (k+1) rfl (by omega) hlt;have hge:=qJ (f:=f) (k:=k) (n:=n) (n-(k+1)) (k+1) rfl;by_cases hat:dc f k n (k+1)<n
    ·have hne:=mD (f:=f) (k:=k) (n:=n) (n-(k+1)) (k+1) rfl hat;rw[if_pos hat]at hv;generalize dc f k n (k+1)=i at*;refine .inr ⟨fun j=>b i j+vf f k i*b k j,bX (body:=fun(s:Int×(List (List Rat))×(List (List Rat)))=>bk (n:Int) s.1 s.2.1 s.2.2) ?_,?_,fun j=>?_⟩
     ·show bk (n:Int) (k:Int) _ _=_;unfold bk;rw[if_pos (decide_eq_true (by omega)),br hlt,Option.bind_some,cA hlt,Option.bind_some,cZ,Option.bind_some,if_neg hsg,cK hlt (by omega),hv,Option.bind_some,Option.bind_some,Option.bind_some]
     ·rw[Ba,qz,qz,hQ i i (by omega) hat (by omega) hat,hQ i k (by omega) hat (by omega) hlt,hQ k i (by omega) hlt (by omega) hat,hQ k k (by omega) hlt (by omega) hlt,←hkk,h0,hs k i,←hfS i k (by omega) hat (by omega) hlt,←hfS i i (by omega) hat (by omega) hat];unfold vf;have hd0:f i k+f i k≠0:=by grind
      have h1:(f i i+1)/(f i k+f i k)*(f i k+f i k)=f i i+1:=Rat.div_mul_cancel hd0;generalize (f i i+1)/(f i k+f i k)=x at*
      grind
     ·have h1:=hf i k;have h2:=hf i i;have s1:sz (1:Rat)<=1:=by decide+kernel
      have h3:=kD (f i i) 1;have h4:=kD (f i k) (f i k);have h5:=i5 (f i i+1) (f i k+f i k);have h6:=gX (vf f k i) (b k j);have h7:=kD (b i j) (vf f k i*b k j);have h8:=hb i j;have h9:=hb k j;show sz (b i j+vf f k i*b k j)<=_;have e:sz (vf f k i)=sz ((f i i+1)/(f i k+f i k)):=by unfold vf;rw[l7]
      omega
    ·have hall:=oX (f:=f) (k:=k) (n:=n) (n-(k+1)) (k+1) rfl hat;rw[if_neg hat]at hv;have hrow:∀i,k<i->i<n->S k i=0:=fun i h1 h2=>by rw[hs,←hfS i k (by omega) h2 (by omega) hlt];exact hall i h1 h2
     have hb1:bk (n:Int) (k:Int) (az n n f) (az n n b)=some (.next (((k+1:Nat):Int),az n n f,az n n b)):=by
      unfold bk;rw[if_pos (decide_eq_true (by omega)),br hlt,Option.bind_some,cA hlt,Option.bind_some,cZ,Option.bind_some,if_neg hsg,cK hlt (by omega),hv,Option.bind_some,Option.bind_some];simp only;rw[Jg hlt h0,Option.bind_some,Option.bind_some]
     rw[dt (body:=fun(s:Int×(List (List Rat))×(List (List Rat)))=>bk (n:Int) s.1 s.2.1 s.2.2) hb1];rcases rN hn d (k+1) f b S (by omega) hlt (fun i j=>Nat.le_trans (hf i j) (by omega)) (fun i j=>Nat.le_trans (hb i j) (by omega)) hs (fun i j h1 h2 h3 h4=>hfS i j (by omega) h2 (by omega) h4) (fun i j h1 h2 h3 h4=>hQ i j (by omega) h2 (by omega) h4)with⟨g1,g2⟩|g
     ·refine .inl ⟨g1,xI hs (by rw[←hkk];exact h0) (fun i hi=>?_) (by rw[hnd]at g2;exact g2)⟩;rw[List.mem_range'_1]at hi;exact hrow i (by omega) (by omega)
     ·exact .inr g
   ·have hpos:0<S k k:=by rw[←hkk];grind
    have hv:=I_ hlt hn hf hb (by omega) h0;have hb1:bk (n:Int) (k:Int) (az n n f) (az n n b)=some (.next (((k+1:Nat):Int),az n n (kG f k n),az n n (nb b f k))):=by
     unfold bk;rw[if_pos (decide_eq_true (by omega)),br hlt,Option.bind_some,cA hlt,Option.bind_some,cZ,Option.bind_some,if_neg hsg,cK hlt (by omega),hv,Option.bind_some,Option.bind_some];simp only;rw[JD hlt hn hf (by omega) h0,Option.bind_some,Option.bind_some]
    rw[dt (body:=fun(s:Int×(List (List Rat))×(List (List Rat)))=>bk (n:Int) s.1 s.2.1 s.2.2) hb1];have hnbs:kI (nb b f k) (300*8^(k+1)):=fun i j=>by
     have h1:=C2 (k:=k) (i:=i+1) hf hb i j;have e:xy b f k (i+1) i j=nb b f k i j:=by
      unfold xy nb;by_cases e:k<i
      ·rw[if_pos ⟨e,by omega⟩,if_pos e]
      ·rw[if_neg (fun h=>e h.1),if_neg e]
     rw[e]at h1;omega
    rcases rN hn d (k+1) (kG f k n) (nb b f k) (mj S k) (by omega) hlt (fun i j=>Nat.le_trans (xS hf i j) hnext) hnbs (pr hs) (fun i j h1 h2 h3 h4=>by
      unfold kG mj;rw[if_pos ⟨by omega,h2,by omega⟩,hfS i j (by omega) h2 (by omega) h4,hfS i k (by omega) h2 (by omega) hlt,hkk,hfS k j (by omega) hlt (by omega) h4])
     (fun i j h1 h2 h3 h4=>JG hs (by rw[←hkk];exact h0) (fun i h1 h2=>hfS i k h1 h2 (Nat.le_refl _) hlt) hlt hQ (by omega) h2 (by omega) h4)with⟨g1,g2⟩|g
    ·exact .inl ⟨g1,v_ hs hpos (by rw[hnd]at g2;exact g2)⟩
    ·exact .inr g
theorem Fy(f:Nat->Nat->Rat)(hn:n<=6)(hf:kI f 300):
  (¬CA n f/\dn (az n n f)=some (false,[],2)/\fH (az n n f)=some false)\/
  (CA n f/\fH (az n n f)=some true/\((dn (az n n f)=some (true,[],0)/\(symm f->xG (List.range n) f))\/
   ∃w:Nat->Rat,dn (az n n f)=some (false,(List.range n).map w,0)/\(symm f->Qf n f w w<0)/\∀j,sz (w j)<=5*(300*8^(n-1))+5)):=by
 have hc:gq (az n n f)=n:=by
  by_cases h:n=0
  ·subst h;rfl
  ·exact oC (by omega)
 have hrl:∀r∈az n n f,r.length<=30:=fun r hr=>by rw[mG hr];omega
 rcases Au hn hf n 0 rfl (Nat.zero_le _)with⟨h1,h2,h3⟩|⟨h1,h2,h3⟩
 ·have h1':Loop (fun(s:Int)=>bP (az n n f) s) 0=some (Ex.cf ()):=h1;have h2':Loop (fun(s:Int)=>ca (az n n f) s) 0=some (Ex.cf ()):=h2;have hsy:CA n f:=fun i j hj hi=>h3 i (Nat.zero_le _) hi j hj;refine .inr ⟨hsy,by unfold fH;rw[h2'];rfl,?_⟩
  -- a symmetric form that is the same on the rows and columns
  let S:Nat->Nat->Rat:=fun i j=>if i<n/\j<n then f i j else 0
  have hS:symm S:=fun i j=>by
   show(if i<n/\j<n then f i j else 0)=if j<n/\i<n then f j i else 0;by_cases e:i<n/\j<n
   ·rw[if_pos e,if_pos ⟨e.2,e.1⟩];rcases Nat.lt_trichotomy i j with h|h|h
    ·exact(hsy j i h e.2).symm
    ·subst h;rfl
    ·exact hsy i j h e.1
   ·rw[if_neg e,if_neg (fun h=>e ⟨h.2,h.1⟩)]
  have hfS:∀i j,i<n->j<n->f i j=S i j:=fun i j hi hj=>by show _=if i<n/\j<n then f i j else 0;rw[if_pos ⟨hi,hj⟩]
  have hm:=rN (A:=f) hn n 0 f iZ S rfl (Nat.zero_le _) (by simpa using hf) (fun i j=>by
    have:sz (iZ i j)<=1:=by unfold iZ;split<;>decide+kernel
    rw[Nat.pow_zero];omega) hS (fun i j _ hi _ hj=>hfS i j hi hj) (fun i j _ hi _ hj=>by rw[Fa hi hj];exact hfS i j hi hj)
  have hpre:∀X,Loop (fun(s:Int×(List (List Rat))×(List (List Rat)))=>bk (n:Int) s.1 s.2.1 s.2.2) (0,az n n f,az n n iZ)=some X->dn (az n n f)=(match X with|Ex.cf ()=>some (true,[],(0:Int))|Ex.ret (r238,r239,r240)=>some (r238,r239,r240)):=fun X hX=>by
   unfold dn;rw[kR _ (by rw[aR];omega),lP,hc,aR,Option.bind_some];simp only[Bool.not_true,Bool.false_eq_true,if_false];rw[if_neg (by simp),h1',Option.bind_some,Option.bind_some];simp only;rw[rn _ (by rw[aR];omega) hrl,Option.bind_some,aS (by omega),Int.toNat_natCast,zU hn,Option.bind_some,Option.bind_some];simp only;rw[aS trivial,hX,Option.bind_some]
   cases X with
   |cf u=>rfl
   |ret r=>rfl
  rcases hm with⟨g1,g2⟩|⟨w,g1,g2,g3⟩
  ·refine .inl ⟨hpre _ g1,fun _ x=>?_⟩;have:=g2 x;rw[Nat.sub_zero,←List.range_eq_range']at this
   rwa [yF (m':=S) (x':=x) (fun i hi j hj=>hfS i j (by simpa using hi) (by simpa using hj)) (fun _ _=>rfl)]
  ·exact .inr ⟨w,hpre _ g1,fun _=>g2,g3⟩
 ·have h1':Loop (fun(s:Int)=>bP (az n n f) s) 0=some (Ex.ret (false,[],2)):=h1;have h2':Loop (fun(s:Int)=>ca (az n n f) s) 0=some (Ex.ret false):=h2;refine .inl ⟨h3,?_,by unfold fH;rw[h2'];rfl⟩;unfold dn;rw[kR _ (by rw[aR];omega),lP,hc,aR,Option.bind_some];simp only[Bool.not_true,Bool.false_eq_true,if_false];rw[if_neg (by simp),h1']
  rfl
end Go.Am
namespace Go.Am
variable {n:Nat} {f:Nat->Nat->Rat}
def mM(s i:Nat):Bool:=s/2^i%2==1
def nD(n s:Nat):List Nat:=(List.range n).filter (mM s)
theorem CE{s k:Nat}(hk:k<=6):Int.tmod (Int.fdiv (s:Int) (2^(min (IntKind.u64.wrap (k:Int)).toNat IntKind.i64.bits))) 2=((s/2^k%2:Nat):Int):=by
 have e1:(IntKind.u64.wrap (k:Int)).toNat=k:=by
  have:k=0\/k=1\/k=2\/k=3\/k=4\/k=5\/k=6:=by omega
  rcases this with h|h|h|h|h|h|h<;>subst h<;>decide
 have e2:min k IntKind.i64.bits=k:=by show min k 64=k;omega
 rw[e1,e2,Int.fdiv_eq_ediv_of_nonneg _ (Int.pow_nonneg (by decide)),Int.tmod_eq_emod_of_nonneg (Int.ediv_nonneg (by omega) (Int.pow_nonneg (by decide)))];simp
theorem wI{k:Nat}(hk:k<=6):(0:Int)<=IntKind.u64.wrap (k:Int):=by
 have:k=0\/k=1\/k=2\/k=3\/k=4\/k=5\/k=6:=by omega
 rcases this with h|h|h|h|h|h|h<;>subst h<;>decide
theorem yA{k:Nat}(hk:k<=6):IntKind.i64.wrap (1*2^(min (IntKind.u64.wrap (k:Int)).toNat IntKind.i64.bits))=((2^k:Nat):Int):=by
 have:k=0\/k=1\/k=2\/k=3\/k=4\/k=5\/k=6:=by omega
 rcases this with h|h|h|h|h|h|h<;>subst h<;>decide
theorem GI{s k:Nat}(hk:k<=6):(Int.tmod (Int.fdiv (s:Int) (2^(min (IntKind.u64.wrap (k:Int)).toNat IntKind.i64.bits))) 2==1)=mM s k:=by
 rw[CE hk];unfold mM;rw[Bool.eq_iff_iff,beq_iff_eq,beq_iff_eq];omega
theorem Dz{s k:Nat}(hk:k<=6):(Int.tmod (Int.fdiv (s:Int) (2^(min (IntKind.u64.wrap (k:Int)).toNat IntKind.i64.bits))) 2==0)= !mM s k:=by
 rw[CE hk];unfold mM;rw[Bool.eq_iff_iff,Bool.not_eq_true',beq_iff_eq,beq_eq_false_iff_ne];have:s/2^k%2<2:=Nat.mod_lt _ (by decide);omega
theorem rX{p:Nat->Bool}{k:Nat}:(List.range (k+1)).filter p=(List.range k).filter p++(if p k then [k]else []):=by
 rw[List.range_succ,List.filter_append]
 congr 1
 by_cases h:p k=true
 ·simp[h]
 ·simp[h]
theorem pN{p:Nat->Bool}{k:Nat}:((List.range k).filter p).length<=k:=by
 have:=List.length_filter_le p (List.range k)
 rwa [List.length_range]at this
theorem Gz{s i:Nat}(hi:i<n)(hn:n<=6):Loop (fun(t:Int×(List Rat))=>dA (az n n f) (s:Int) (i:Int) t.1 t.2) (0,([]:List Rat))=some ((nD n s).map (f i)):=by
 have hL:=fB (body:=fun(t:Int×(List Rat))=>dA (az n n f) (s:Int) (i:Int) t.1 t.2) n (fun k=>((List.range k).filter (mM s)).map (f i)) ((nD n s).map (f i)) (fun k hk=>by
  unfold dA;have hl:=pN (p:=mM s) (k:=k);rw[aR,if_pos (decide_eq_true (by omega)),aS (wI (by omega)),GI (by omega),rX];by_cases h:mM s k=true
  ·rw[if_pos h,if_pos h,br hi,Option.bind_some,cA hk,Option.bind_some,aS (by simp only[List.length_map,List.length_singleton];omega),Option.bind_some,cK hk (by omega),List.map_append];rfl
  ·rw[if_neg h,if_neg h,Option.bind_some,cK hk (by omega),List.append_nil]) (by
  unfold dA;rw[aR,if_neg (by simp)];rfl)
 exact hL
theorem Gt{s:Nat}(hn:n<=6):Loop (fun(t:Int×(List (List Rat)))=>dz (az n n f) (s:Int) t.1 t.2) (0,([]:List (List Rat)))=some ((nD n s).map fun i=>(nD n s).map (f i)):=by
 have hL:=fB (body:=fun(t:Int×(List (List Rat)))=>dz (az n n f) (s:Int) t.1 t.2) n (fun k=>((List.range k).filter (mM s)).map fun i=>(nD n s).map (f i)) ((nD n s).map fun i=>(nD n s).map (f i)) (fun k hk=>by
  unfold dz;have hl:=pN (p:=mM s) (k:=k);rw[aR,if_pos (decide_eq_true (by omega)),aS (wI (by omega)),Dz (by omega),rX];by_cases h:mM s k=true
  ·rw[if_neg (by simp[h]),if_pos h,Gz hk hn,Option.bind_some,Option.bind_some,aS (by simp only[List.length_map];omega),Option.bind_some,cK hk (by omega),List.map_append];rfl
  ·rw[if_pos (by simpa using h),if_neg h,Option.bind_some,cK hk (by omega),List.append_nil]) (by
  unfold dz;rw[aR,if_neg (by simp)];rfl)
 exact hL
theorem Cr{T:List Nat}:(T.map fun i=>T.map (f i))=az T.length T.length (pick T f):=by
 apply List.ext_getElem
 ·rw[aR,List.length_map]
 ·intro i h1 h2;rw[List.length_map]at h1;simp only[az,List.getElem_map,List.getElem_range];apply List.ext_getElem
  ·simp
  ·intro j h3 h4;rw[List.length_map]at h3;simp only[List.getElem_map,List.getElem_range];unfold pick;rw[h_ h1,h_ h3]
theorem E2{T:List Nat}{B:Nat}(hf:kI f B):kI (pick T f) B:=fun i j=>hf _ _
def pT(n s:Nat)(f:Nat->Nat->Rat):Rat:=iE (nD n s).length (pick (nD n s) f)
theorem EV(hn:n<=6)(hf:kI f 300):∀d s:Nat,2^n-s=d->s<=2^n->
  (Loop (fun(t:Int)=>bG (az n n f) t) (s:Int)=some (Ex.cf ())/\∀s',s<=s'->s'<2^n->0<=pT n s' f)\/
  (Loop (fun(t:Int)=>bG (az n n f) t) (s:Int)=some (Ex.ret false)/\∃s',s<=s'/\s'<2^n/\pT n s' f<0):=by
 intro d;have hpn:2^n<=64:=Nat.pow_le_pow_right (by decide) hn
 induction d with
 |zero=>
  intro s hd hs;have:s=2^n:=by omega
  subst this;refine .inl ⟨bX (body:=fun(t:Int)=>bG (az n n f) t) ?_,fun s' h1 h2=>by omega⟩;unfold bG;rw[aR,aS (wI hn),yA hn,if_neg (by simp)]
 |succ d ih=>
  intro s hd hs;have hlt:s<2^n:=by omega
  have hl:=pN (p:=mM s) (k:=n);obtain⟨_,hD,hDs⟩:=Dv (n:=(nD n s).length) (pick (nD n s) f) (by unfold nD;omega) (E2 hf);have key:∀X,(if decide (wD (pT n s f)<0)=true then some (St.done (Ex.ret false))else some (St.next (IntKind.i64.wrap ((s:Int)+1))))=X->bG (az n n f) (s:Int)=X:=by
   intro X hX;unfold bG;rw[aR,aS (wI hn),yA hn,if_pos (decide_eq_true (by omega)),Gt hn,Option.bind_some,Option.bind_some,Cr,hD,Option.bind_some,cZ,Option.bind_some];exact hX
  by_cases hneg:pT n s f<0
  ·refine .inr ⟨bX (body:=fun(t:Int)=>bG (az n n f) t) (key _ (by rw[if_pos (decide_eq_true (tM.2 hneg))])),s,Nat.le_refl _,hlt,hneg⟩
  ·have hb:bG (az n n f) (s:Int)=some (.next ((s+1:Nat):Int)):=key _ (by rw[if_neg (by rw[decide_eq_true_eq,tM];exact hneg),cK hlt (by omega)]);rw[dt (body:=fun(t:Int)=>bG (az n n f) t) hb];rcases ih (s+1) (by omega) hlt with⟨h1,h2⟩|⟨h1,s',h2,h3,h4⟩
   ·refine .inl ⟨h1,fun s' h3 h4=>?_⟩;by_cases e:s'=s
    ·subst e;grind
    ·exact h2 s' (by omega) h4
   ·exact .inr ⟨h1,s',by omega,h3,h4⟩
theorem Bl(p:Nat->Bool):∀n,∃s,s<2^n/\∀i,i<n->mM s i=p i
 |0=>⟨0,by decide,fun i hi=>by omega⟩
 |n+1=>by
  obtain⟨s,hs,hb⟩:=Bl p n;have hp:0<2^n:=Nat.pow_pos (by decide);by_cases h:p n=true
  ·refine⟨s+2^n,by rw[Nat.pow_succ];omega,fun i hi=>?_⟩;by_cases e:i=n
   ·subst e;unfold mM;rw[Nat.add_div_right _ hp,Nat.div_eq_of_lt hs,h]
    decide
   ·have dw:i<n:=by omega
    rw[←hb i dw];unfold mM;have e2:2^n=2^i*(2*2^(n-i-1)):=by
     rw[←Nat.pow_succ',←Nat.pow_add];congr 1;omega
    rw[e2,Nat.add_mul_div_left _ _ (Nat.pow_pos (by decide)),Nat.add_mul_mod_self_left]
  ·refine⟨s,by rw[Nat.pow_succ];omega,fun i hi=>?_⟩;by_cases e:i=n
   ·subst e;unfold mM;rw[Nat.div_eq_of_lt hs];simpa using h
   ·exact hb i (by omega)
theorem vd{T l:List Nat}(h:T.Sublist l)(hn:l.Nodup):l.filter (fun x=>decide (x∈T))=T:=by
 induction h with
 |slnil=>rfl
 |@cons T l a h ih=>
  rw[List.nodup_cons]at hn;have:a∉T:=fun ha=>hn.1 (h.subset ha);rw[List.filter_cons_of_neg (by simpa using this)];exact ih hn.2
 |@cons_cons T l a h ih=>
  rw[List.nodup_cons]at hn;rw[List.filter_cons_of_pos (by simp)]
  congr 1
  rw[←ih hn.2];apply List.filter_congr;intro x hx;have:x≠a:=fun e=>hn.1 (e▸hx);rw[ih hn.2];simp[this]
theorem xD:minors (List.range n) f↔∀s,1<=s->s<2^n->0<=pT n s f:=by
 constructor
 ·intro h s hs hlt;refine h (nD n s) (List.filter_sublist) (fun e=>?_);have hz:∀i,i<n->mM s i=false:=fun i hi=>by
   cases hb:mM s i with
   |false=>rfl
   |true=>
    have:i∈nD n s:=List.mem_filter.2 ⟨List.mem_range.2 hi,hb⟩;rw[e]at this;cases this
  have key:∀k,k<=n->s%2^k=0:=by
   intro k
   induction k with
   |zero=>intro _;simp[Nat.mod_one]
   |succ k ih=>
    intro hk;have h1:=ih (by omega);have h2:=hz k (by omega);unfold mM at h2;rw[beq_eq_false_iff_ne]at h2;have h3:s/2^k%2=0:=by have:s/2^k%2<2:=Nat.mod_lt _ (by decide);omega
    rw[Nat.pow_succ,Nat.mod_mul,h1,h3];simp
  have:=key n (Nat.le_refl _);rw[Nat.mod_eq_of_lt hlt]at this;omega
 ·intro h T hT hne;obtain⟨s,hs,hb⟩:=Bl (fun x=>decide (x∈T)) n;have e:nD n s=T:=by
   have h1:nD n s=(List.range n).filter (fun x=>decide (x∈T)):=List.filter_congr fun x hx=>hb x (List.mem_range.1 hx);rw[h1,vd hT List.nodup_range]
  have:=h s (Nat.pos_of_ne_zero fun e0=>hne (by
   subst e0;rw[←e];unfold nD;rw[List.filter_eq_nil_iff];intro x _;unfold mM;simp)) hs
  unfold pT at this
  rwa [e]at this
theorem yO{T l:List Nat}(h:T.Sublist l)(hn:l.Nodup){g:Nat->Rat}(hg:∀i∈l,i∉T->g i=0):cq l g=cq T g:=by
 induction h with
 |slnil=>rfl
 |@cons T l a h ih=>
  rw[List.nodup_cons]at hn;have ha:a∉T:=fun ha=>hn.1 (h.subset ha);show g a+cq l g=_;rw[hg a List.mem_cons_self ha,ih hn.2 (fun i hi hiT=>hg i (List.mem_cons_of_mem _ hi) hiT)];grind
 |@cons_cons T l a h ih=>
  rw[List.nodup_cons]at hn;show g a+cq l g=g a+cq T g;rw[ih hn.2 (fun i hi hiT=>hg i (List.mem_cons_of_mem _ hi) (fun hm=>(List.mem_cons.1 hm).elim (fun e=>hn.1 (e▸hi)) hiT))]
theorem Fq{T l:List Nat}(h:T.Sublist l)(hn:l.Nodup)(hp:xG l f):xG T f:=fun x=>by
 have h1:=hp (fun i=>if i∈T then x i else 0);have e:qf l f (fun i=>if i∈T then x i else 0)=qf T f x:=by
  unfold qf;rw[yO h hn (fun i _ hi=>iF fun j _=>by simp only[hi,if_false];grind)];refine bF fun i hi=>?_;rw[yO h hn (fun j _ hj=>by simp only[hj,if_false];grind)];exact bF fun j hj=>by simp only[hi,hj,if_true]
 rwa [e]at h1
theorem At(hs:symm f):xG (List.range n) f↔∀s,1<=s->s<2^n->0<=pT n s f:=by
 constructor
 ·intro h s _ _;exact AU (nD n s) f (List.Pairwise.filter _ List.nodup_range) hs (Fq List.filter_sublist List.nodup_range h)
 ·intro h;exact pJ (List.range n) f List.nodup_range hs (xD.2 h)
theorem xM(hs:symm f)(hn:n<=6)(hf:kI f 300):(cM (az n n f)=some true/\xG (List.range n) f)\/(cM (az n n f)=some false/\¬xG (List.range n) f):=by
 have hp:1<=2^n:=Nat.pow_pos (by decide);rcases EV hn hf (2^n-1) 1 rfl hp with⟨h1,h2⟩|⟨h1,s,h2,h3,h4⟩
 ·refine .inl ⟨?_,(At hs).2 h2⟩;unfold cM;have:Loop (fun(t:Int)=>bG (az n n f) t) 1=_:=h1;rw[this];rfl
 ·refine .inr ⟨?_,fun hpsd=>?_⟩
  ·unfold cM;have:Loop (fun(t:Int)=>bG (az n n f) t) 1=_:=h1;rw[this];rfl
  ·have:=(At hs).1 hpsd s h2 h3
   grind
end Go.Am
namespace Go.Am
variable {n m:Nat} {f g:Nat->Nat->Rat}
theorem oO{l:List Nat}(hn:l.Nodup){a:Nat}(ha:a∈l){g:Nat->Rat}:cq l g=g a+cq l (fun i=>if i=a then 0 else g i):=by
 have h1:cq l (fun i=>if i=a then g i else 0)=g a:=by
  rw[kV hn ha (fun j _ hj=>by rw[if_neg hj]),if_pos rfl]
 rw[←h1,←gR];exact bF fun i _=>by by_cases e:i=a<;>simp[e]<;>grind
def indep(n m:Nat)(f:Nat->Nat->Rat):Prop:=∀c:Nat->Rat,(∀j,j<m->cq (List.range n) (fun i=>c i*f i j)=0)->∀i,i<n->c i=0
theorem uC(h:∀c:Nat->Rat,∃c':Nat->Rat,(∀j,j<m->cq (List.range n) (fun i=>c i*g i j)=cq (List.range n) (fun i=>c' i*f i j))/\((∀i,i<n->c' i=0)->∀i,i<n->c i=0))(hf:indep n m f):indep n m g:=fun c hc=>by
 obtain⟨c',h1,h2⟩:=h c;exact h2 (hf c' (fun j hj=>by rw[←h1 j hj];exact hc j hj))
theorem zj{a b:Nat}(ha:a<n)(hb:b<n)(hf:indep n m f):indep n m (bS f a b):=by
 refine uC (fun c=>⟨fun i=>if i=b then c a else if i=a then c b else c i,fun j _=>?_,fun h i hi=>?_⟩) hf
 ·by_cases e:a=b
  ·subst e;refine bF fun i _=>?_;unfold bS;by_cases e1:i=a
   ·simp only[if_pos e1];rw[e1]
   ·simp only[if_neg e1]
  ·have ma:=List.mem_range.2 ha;have mb:=List.mem_range.2 hb;rw[oO List.nodup_range ma,oO List.nodup_range mb (g:=fun i=>if i=a then 0 else c i*bS f a b i j)];rw[oO List.nodup_range ma (g:=fun i=>(if i=b then c a else if i=a then c b else c i)*f i j),oO List.nodup_range mb (g:=fun i=>if i=a then 0 else(if i=b then c a else if i=a then c b else c i)*f i j)];have e1:bS f a b a j=f b j:=by unfold bS;rw[if_neg e,if_pos rfl]
   have e2:bS f a b b j=f a j:=by unfold bS;rw[if_pos rfl]
   rw[bF (g:=fun i=>if i=b then 0 else if i=a then 0 else c i*bS f a b i j) (h:=fun i=>if i=b then 0 else if i=a then 0 else(if i=b then c a else if i=a then c b else c i)*f i j) (fun i _=>by
    by_cases h1:i=b
    ·rw[if_pos h1,if_pos h1]
    ·rw[if_neg h1,if_neg h1];by_cases h2:i=a
     ·rw[if_pos h2,if_pos h2]
     ·rw[if_neg h2,if_neg h2,if_neg h1,if_neg h2];unfold bS;rw[if_neg h1,if_neg h2])]
   simp only[e1,e2,if_pos rfl,if_neg e,if_neg (Ne.symm e)]
   grind
 ·by_cases e1:i=a
  ·have:=h b hb;dsimp only at this;rw[if_pos rfl]at this;rw[e1];exact this
  ·by_cases e2:i=b
   ·have:=h a ha;dsimp only at this;by_cases e:a=b
    ·exact absurd (e2.trans e.symm) e1
    ·rw[if_neg e,if_pos rfl]at this;rw[e2];exact this
   ·have:=h i hi;dsimp only at this;rw[if_neg e2,if_neg e1]at this;exact this
theorem yN{row:Nat}{s:Rat}(hs:s≠0)(hf:indep n m f):indep n m (eU f row s 0):=by
 refine uC (fun c=>⟨fun i=>if i=row then c i*s else c i,fun j _=>bF fun i _=>?_,fun h i hi=>?_⟩) hf
 ·dsimp only;unfold eU;by_cases e:i=row
  ·rw[if_pos ⟨e,Nat.zero_le _⟩,if_pos e,e];grind
  ·rw[if_neg (fun h=>e h.1),if_neg e]
 ·have:=h i hi;dsimp only at this;by_cases e:i=row
  ·rw[if_pos e]at this;exact(Rat.mul_eq_zero.1 this).resolve_right hs
  ·rwa [if_neg e]at this
def elimM(f:Nat->Nat->Rat)(row k i:Nat):Rat:=if i=row then 0 else f i k
theorem yp{row k i j:Nat}:iX f row k 0 i j=f i j-elimM f row k i*f row j:=by
 unfold iX elimM;by_cases e:i=row
 ·rw[if_neg (fun h=>h.1 e),if_pos e];grind
 ·rw[if_neg e];by_cases e2:f i k=0
  ·rw[if_neg (fun h=>h.2.1 e2),e2];grind
  ·rw[if_pos ⟨e,e2,Nat.zero_le _⟩]
theorem zc{row k:Nat}(hr:row<n)(hf:indep n m f):indep n m (iX f row k 0):=by
 refine uC (fun c=>⟨fun i=>c i+(if i=row then-(cq (List.range n) fun i=>c i*elimM f row k i)else 0),fun j _=>?_,fun h=>?_⟩) hf
 ·have e1:cq (List.range n) (fun i=>c i*iX f row k 0 i j)=cq (List.range n) (fun i=>c i*f i j)+-(f row j)*cq (List.range n) (fun i=>c i*elimM f row k i):=by
   rw[←fl,←gR];exact bF fun i _=>by rw[yp];grind
  have e2:cq (List.range n) (fun i=>(c i+(if i=row then-(cq (List.range n) fun i=>c i*elimM f row k i)else 0))*f i j)=cq (List.range n) (fun i=>c i*f i j)+cq (List.range n) (fun i=>(if i=row then-(cq (List.range n) fun i=>c i*elimM f row k i)else 0)*f i j):=by
   rw[←gR];exact bF fun i _=>by grind
  rw[e1,e2,kV List.nodup_range (List.mem_range.2 hr) (g:=fun i=>(if i=row then-(cq (List.range n) fun i=>c i*elimM f row k i)else 0)*f i j) (fun i _ hi=>by simp only[if_neg hi];grind)];simp only[if_pos rfl]
  grind
 ·have h0:∀i,i<n->i≠row->c i=0:=fun i hi hir=>by
   have:=h i hi;dsimp only at this;rw[if_neg hir]at this
   grind
  have hM:cq (List.range n) (fun i=>c i*elimM f row k i)=0:=iF fun i hi=>by
   by_cases e:i=row
   ·unfold elimM;rw[if_pos e];grind
   ·rw[h0 i (List.mem_range.1 hi) e];grind
  intro i hi;by_cases e:i=row
  ·have:=h i hi;dsimp only at this;rw[if_pos e,hM]at this
   grind
  ·exact h0 i hi e
def E1(n m:Nat)(f:Nat->Nat->Rat)(v:Nat->Rat):Prop:=∀i,i<n->cq (List.range m) (fun j=>f i j*v j)=0
theorem Em{a b:Nat}{v:Nat->Rat}(ha:a<n)(hb:b<n):E1 n m (bS f a b) v↔E1 n m f v:=by
 have e:∀i,cq (List.range m) (fun j=>bS f a b i j*v j)=cq (List.range m) (fun j=>f (if i=b then a else if i=a then b else i) j*v j):=fun i=>bF fun j _=>by
  unfold bS;by_cases h1:i=b
  ·rw[if_pos h1,if_pos h1]
  ·rw[if_neg h1,if_neg h1];by_cases h2:i=a
   ·rw[if_pos h2,if_pos h2]
   ·rw[if_neg h2,if_neg h2]
 constructor
 ·intro h i hi;by_cases h1:i=a
  ·have:=h b hb;rw[e,if_pos rfl]at this;rw[h1];exact this
  ·by_cases h2:i=b
   ·have:=h a ha;rw[e]at this;by_cases h3:a=b
    ·rw[if_pos h3]at this;rw[h2,←h3];exact this
    ·rw[if_neg h3,if_pos rfl]at this;rw[h2];exact this
   ·have:=h i hi
    rwa [e,if_neg h2,if_neg h1]at this
 ·intro h i hi;rw[e]
  split
  ·exact h a ha
  ·split
   ·exact h b hb
   ·exact h i hi
theorem BX{row:Nat}{s:Rat}{v:Nat->Rat}(hs:s≠0):E1 n m (eU f row s 0) v↔E1 n m f v:=by
 have e:∀i,cq (List.range m) (fun j=>eU f row s 0 i j*v j)=(if i=row then s else 1)*cq (List.range m) (fun j=>f i j*v j):=fun i=>by
  rw[←fl];refine bF fun j _=>?_;unfold eU;by_cases h:i=row
  ·rw[if_pos ⟨h,Nat.zero_le _⟩,if_pos h,h];grind
  ·rw[if_neg (fun h'=>h h'.1),if_neg h];grind
 constructor
 ·intro h i hi;have:=h i hi;rw[e]at this;refine(Rat.mul_eq_zero.1 this).resolve_left ?_
  split
  ·exact hs
  ·decide
 ·intro h i hi;rw[e,h i hi];grind
theorem Dr{row k:Nat}{v:Nat->Rat}(hr:row<n):E1 n m (iX f row k 0) v↔E1 n m f v:=by
 have e:∀i,cq (List.range m) (fun j=>iX f row k 0 i j*v j)=cq (List.range m) (fun j=>f i j*v j)+-(elimM f row k i)*cq (List.range m) (fun j=>f row j*v j):=fun i=>by
  rw[←fl,←gR];exact bF fun j _=>by rw[yp];grind
 have hrow:elimM f row k row=0:=by unfold elimM;rw[if_pos rfl]
 constructor
 ·intro h i hi;have h1:=h row hr;rw[e,hrow]at h1;have h2:=h i hi;rw[e]at h2;have h3:cq (List.range m) (fun j=>f row j*v j)=0:=by grind
  rw[h3]at h2
  grind
 ·intro h i hi;rw[e,h i hi,h row hr];grind
theorem Az{row k at':Nat}(hp:f at' k≠0):1/bS f row at' row k≠0:=by
 have e:bS f row at' row k=f at' k:=by
  unfold bS;by_cases h:row=at'
  ·rw[if_pos h,h]
  ·rw[if_neg h,if_pos rfl]
 rw[e];intro h;have:=Rat.div_mul_cancel (a:=1) hp;rw[h]at this
 grind
theorem zC(f0:Nat->Nat->Rat):EB n m (fun _ f _=>indep n m f/\∀v,E1 n m f v↔E1 n m f0 v) where
 step:=fun k f piv at' _ hpl hge hat hp _ hJ=>by
  refine⟨zc hpl (yN (Az hp) (zj hpl hat hJ.1)),fun v=>?_⟩;unfold ny;rw[Dr hpl,BX (Az hp),Em hpl hat];exact hJ.2 v
 skip:=fun _ _ _ _ _ _ h=>h
def nC(n:Nat)(f:Nat->Nat->Rat)(i j:Nat):Rat:=if j<n then f i j else if j=n+i then 1 else 0
theorem zf:indep n (n+n) (nC n f):=fun c hc i hi=>by
 have h:=hc (n+i) (by omega);rw[kV List.nodup_range (List.mem_range.2 hi) (fun i' _ hne=>by
  unfold nC;rw[if_neg (by omega),if_neg (by omega)];grind)]at h
 unfold nC at h;rw[if_neg (by omega),if_pos rfl]at h
 grind
theorem B_{J:Nat->(Nat->Nat->Rat)->List Int->Prop}{pv:List Int}(hi:indep n m g)(hl:pv.length<=n)(h:lV g n pv.length m\/pv.length=n):pv.length=n:=by
 rcases h with h|h
 ·refine Classical.byContradiction fun hne=>?_;have hlt:pv.length<n:=by omega
  have:=hi (fun i=>if i=pv.length then 1 else 0) (fun j hj=>by
   rw[kV List.nodup_range (List.mem_range.2 hlt) (fun i _ hi=>by simp only[if_neg hi];grind),h pv.length j (Nat.le_refl _) hlt hj];grind) pv.length hlt
  rw[if_pos rfl]at this;exact absurd this (by decide)
 ·exact h
theorem rL{α:Type}(F:Nat->α)(i:Nat)(x:α):((List.range n).map F).set i x=(List.range n).map (fun r=>if r=i then x else F r):=by
 apply List.ext_getElem
 ·simp
 ·intro r h1 h2;by_cases e:r=i
  ·subst e;rw[List.getElem_set_self];simp
  ·rw[List.getElem_set_ne (Ne.symm e)];simp[e]
theorem Ay{i:Nat}(hi:i<n):((List.range n).map (f i)++List.replicate n (0:Rat)).set (n+i) 1=(List.range (n+n)).map (nC n f i):=by
 apply List.ext_getElem
 ·simp
 ·intro j h1 h2;rw[List.length_set,List.length_append,List.length_map,List.length_range,List.length_replicate]at h1;simp only[List.getElem_map,List.getElem_range];unfold nC;by_cases e:j=n+i
  ·subst e;rw[List.getElem_set_self,if_neg (by omega),if_pos rfl]
  ·rw[List.getElem_set_ne (Ne.symm e)];by_cases e2:j<n
   ·rw[List.getElem_append_left (by simpa using e2),if_pos e2];simp
   ·rw[List.getElem_append_right (by simpa using e2),if_neg e2,if_neg e];simp
theorem yq{h:Nat->Rat}:((List.range (n+n)).map h).drop n=(List.range n).map fun j=>h (n+j):=by
 apply List.ext_getElem
 ·simp
 ·intro j h1 h2;simp
theorem Ag{α:Type}{F:Nat->α}{i:Nat}(hi:i<n):ix ((List.range n).map F) (i:Int)=some (F i):=by
 rw[fW (by simpa using hi)];simp
theorem GV{i:Nat}(hi:i<n)(hn:n<=6):IntKind.i64.wrap ((n:Int)+(i:Int))=((n+i:Nat):Int):=by
 rw[IntKind.wrap_i64];omega
theorem Ib(hn:n<=6){M0:List (List Rat)}(hM:M0.length=n):Loop (fun(s:Int×(List (List Rat)))=>gu (n:Int) M0 s.1 s.2) (0,az n n f)=some (az n (n+n) (nC n f)):=by
 have hL:=fB (body:=fun(s:Int×(List (List Rat)))=>gu (n:Int) M0 s.1 s.2) n (fun i=>(List.range n).map fun r=>if r<i then(List.range (n+n)).map (nC n f r)else(List.range n).map (f r)) ((List.range n).map fun r=>if r<n then(List.range (n+n)).map (nC n f r)else(List.range n).map (f r)) (fun i hi=>by
  unfold gu;rw[hM,if_pos (decide_eq_true (by omega)),Ag hi,Option.bind_some,if_neg (by omega),aS (by simp;omega),Int.toNat_natCast,Int.toNat_natCast,rL,Ag hi,Option.bind_some,if_pos rfl,nW,Option.bind_some,GV hi hn,fW (by simp;omega),Option.bind_some,Int.toNat_natCast,Ay hi,rL,cK hi (by omega)]
  congr 3
  apply List.map_congr_left;intro r _;by_cases e:r=i
  ·rw[if_pos e,if_pos (by omega),e]
  ·rw[if_neg e,if_neg e];by_cases e2:r<i
   ·rw[if_pos e2,if_pos (by omega)]
   ·rw[if_neg e2,if_neg (by omega)]) (by
  unfold gu;rw[hM,if_neg (by simp)])
 have e0:az n n f=(List.range n).map fun r=>if r<0 then(List.range (n+n)).map (nC n f r)else(List.range n).map (f r):=by
  unfold az;apply List.map_congr_left;intro r _;rw[if_neg (by omega)]
 have e1:az n (n+n) (nC n f)=(List.range n).map fun r=>if r<n then(List.range (n+n)).map (nC n f r)else(List.range n).map (f r):=by
  unfold az;apply List.map_congr_left;intro r hr;rw[if_pos (by simpa using hr)]
 rw[e0,e1];exact hL
theorem Ia(hn:n<=6):Loop (fun(s:Int×(List (List Rat)))=>fi (az n n f) s.1 s.2) (0,([]:List (List Rat)))=some (az n (n+n) (nC n f)):=by
 have hL:=fB (body:=fun(s:Int×(List (List Rat)))=>fi (az n n f) s.1 s.2) n (fun i=>az i (n+n) (nC n f)) (az n (n+n) (nC n f)) (fun i hi=>by
  unfold fi;rw[aR,if_pos (decide_eq_true (by omega)),br hi,Option.bind_some,aS (by simp;omega),aS (by simp;omega),nW,Option.bind_some,Int.toNat_natCast,GV hi hn,fW (by simp;omega),Option.bind_some,aS (by rw[aR];omega),Int.toNat_natCast,Ay hi,cK hi (by omega),rD]) (by
  unfold fi;rw[aR,if_neg (by simp)])
 exact hL
theorem G2(hn:n<=6){M0:List (List Rat)}(hM:M0.length=n):Loop (fun(s:Int×(List (List Rat)))=>fy (n:Int) M0 s.1 s.2) (0,az n (n+n) g)=some (az n n fun i j=>g i (n+j)):=by
 have hL:=fB (body:=fun(s:Int×(List (List Rat)))=>fy (n:Int) M0 s.1 s.2) n (fun i=>(List.range n).map fun r=>if r<i then(List.range n).map (fun j=>g r (n+j))else(List.range (n+n)).map (g r)) ((List.range n).map fun r=>if r<n then(List.range n).map (fun j=>g r (n+j))else(List.range (n+n)).map (g r)) (fun i hi=>by
  unfold fy oa;have e1:((List.range n).map fun r=>if r<i then(List.range n).map (fun j=>g r (n+j))else(List.range (n+n)).map (g r))[i]?=some ((List.range (n+n)).map (g i)):=by
   rw[List.getElem?_eq_getElem (by simpa using hi)];simp
  rw[hM,if_pos (decide_eq_true (by omega)),Ag hi,Option.bind_some,if_neg (by omega),aS (by simp;omega),Int.toNat_natCast,Int.toNat_natCast,e1,Option.bind_some,aS (by simp;omega),Option.bind_some,Option.bind_some,yq,rL,cK hi (by omega)]
  congr 3
  apply List.map_congr_left;intro r _;by_cases e:r=i
  ·rw[if_pos e,if_pos (by omega),e]
  ·rw[if_neg e];by_cases e2:r<i
   ·rw[if_pos e2,if_pos (by omega)]
   ·rw[if_neg e2,if_neg (by omega)]) (by
  unfold fy;rw[hM,if_neg (by simp)])
 have e0:az n (n+n) g=(List.range n).map fun r=>if r<0 then(List.range n).map (fun j=>g r (n+j))else(List.range (n+n)).map (g r):=by
  unfold az;apply List.map_congr_left;intro r _;rw[if_neg (by omega)]
 have e1:az n n (fun i j=>g i (n+j))=(List.range n).map fun r=>if r<n then(List.range n).map (fun j=>g r (n+j))else(List.range (n+n)).map (g r):=by
  unfold az;apply List.map_congr_left;intro r hr;rw[if_pos (by simpa using hr)]
 rw[e0,e1];exact hL
theorem Ha(hn:n<=6):Loop (fun(s:Int×(List (List Rat)))=>eI (az n n f) (az n (n+n) g) s.1 s.2) (0,([]:List (List Rat)))=some (az n n fun i j=>g i (n+j)):=by
 have hL:=fB (body:=fun(s:Int×(List (List Rat)))=>eI (az n n f) (az n (n+n) g) s.1 s.2) n (fun i=>az i n fun i j=>g i (n+j)) (az n n fun i j=>g i (n+j)) (fun i hi=>by
  unfold eI;rw[aR,aR,if_pos (decide_eq_true (by omega)),br hi,Option.bind_some,aS (by simp;omega),Int.toNat_natCast,yq,aS (by simp;omega),aS (by rw[aR];omega),cK hi (by omega),rD]) (by
  unfold eI;rw[aR,if_neg (by simp)])
 exact hL
theorem Ij(f:Nat->Nat->Rat)(hn:n<=6)(hf:kI f 300):∃g pv,Jv n (n+n) g pv/\pv.length=n/\indep n (n+n) g/\(∀v,E1 n (n+n) g v↔E1 n (n+n) (nC n f) v)/\
  ((iD (az n n f)=some (az n n (fun i j=>g i (n+j)),0)/\il (az n n f)=some (az n n (fun i j=>g i (n+j)),true)/\(0<n->pv[n-1]?=some (((n-1:Nat)):Int)))\/
   (iD (az n n f)=some ([],8)/\il (az n n f)=some ([],false)/\0<n/\pv[n-1]?≠some (((n-1:Nat)):Int))):=by
 have hc:gq (az n n f)=n:=by
  by_cases h:n=0
  ·subst h;rfl
  ·exact oC (by omega)
 have hrl:∀r∈az n n f,r.length<=30:=fun r hr=>by rw[mG hr];omega
 obtain⟨g,pv,⟨k',hk',⟨hJ1,hJ2⟩,hz,hor⟩,e1,e2,hR⟩:=y8 n (n+n) (nC n f) (zC (nC n f)) ⟨zf,fun _=>Iff.rfl⟩ hn (by omega) (fun h=>by omega) (fun i j=>by
  unfold nC
  split
  ·exact hf i j
  ·split<;>exact Nat.le_trans (show sz _<=1 by decide+kernel) (by decide))
 have hlen:pv.length=n:=B_ (J:=fun _ _ _=>True) hJ1 hR.len (hor.elim (fun h=>.inl (h▸hz)) .inr);refine⟨g,pv,hR,hlen,hJ1,hJ2,?_⟩;have hp:∀X,(((if(decide ((n:Int)>0))=true then(ix pv (IntKind.i64.wrap ((n:Int)-1))).bind fun v36=>(if(v36 !=(IntKind.i64.wrap ((n:Int)-1)))=true then some (Ex.ret (([]:List (List Rat)),(8:Int)))else some (Ex.cf (az n (n+n) g)))else some (Ex.cf (az n (n+n) g)))).bind fun o30=>(match o30 with|Ex.cf v39=>((Loop (fun(s:Int×(List (List Rat)))=>fy (n:Int) v39 s.1 s.2) (0,v39)).bind fun v56=>some (v56)).bind fun v57=>some (v57,0)|Ex.ret (r58,r59)=>some (r58,r59)))=X->iD (az n n f)=X:=fun X hX=>by
  unfold iD;rw[kR _ (by rw[aR];omega),lP,hc,aR,Option.bind_some];simp only[Bool.not_true,Bool.false_eq_true,if_false];rw[if_neg (by simp),rn _ (by rw[aR];omega) hrl,Option.bind_some,Ib hn aR,Option.bind_some,Option.bind_some,e1,Option.bind_some];exact hX
 have hr:∀X,(((if(decide ((n:Int)>0))=true then(ix pv (IntKind.i64.wrap ((n:Int)-1))).bind fun v29=>(if(v29 !=(IntKind.i64.wrap ((n:Int)-1)))=true then some (Ex.ret (([]:List (List Rat)),false))else some (Ex.cf ()))else some (Ex.cf ()))).bind fun o25=>(match o25 with|Ex.cf ()=>((Loop (fun(s:Int×(List (List Rat)))=>eI (az n n f) (az n (n+n) g) s.1 s.2) (0,([]:List (List Rat)))).bind fun v46=>some (v46)).bind fun v47=>some (v47,true)|Ex.ret (r48,r49)=>some (r48,r49)))=X->il (az n n f)=X:=fun X hX=>by
  unfold il;rw[Ia hn,Option.bind_some,Option.bind_some,e2,Option.bind_some,aR];simp only;rw[hlen,if_neg (by simp)];exact hX
 by_cases h0:n=0
 ·subst h0;refine .inl ⟨hp _ ?_,hr _ ?_,fun h=>by omega⟩
  ·rw[if_neg (by decide),Option.bind_some];simp only;rw[G2 hn aR];rfl
  ·rw[if_neg (by decide),Option.bind_some];simp only;rw[Ha hn];rfl
 ·have hw:IntKind.i64.wrap ((n:Int)-1)=((n-1:Nat):Int):=by rw[IntKind.wrap_i64];omega
  have hix:ix pv (((n-1:Nat)):Int)=some (pv[n-1]'(by omega)):=fW (by omega);have hg:pv[n-1]?=some (pv[n-1]'(by omega)):=List.getElem?_eq_getElem (by omega);by_cases hq:pv[n-1]'(by omega)=((n-1:Nat):Int)
  ·refine .inl ⟨hp _ ?_,hr _ ?_,fun _=>by rw[hg,hq]⟩
   ·rw[if_pos (decide_eq_true (by omega)),hw,hix,Option.bind_some,if_neg (by simp[hq]),Option.bind_some];simp only;rw[G2 hn aR];rfl
   ·rw[if_pos (decide_eq_true (by omega)),hw,hix,Option.bind_some,if_neg (by simp[hq]),Option.bind_some];simp only;rw[Ha hn];rfl
  ·refine .inr ⟨hp _ ?_,hr _ ?_,by omega,fun h=>hq (by rw[hg]at h;exact Option.some.inj h)⟩
   ·rw[if_pos (decide_eq_true (by omega)),hw,hix,Option.bind_some,if_pos (by rw[bne_iff_ne];exact hq),Option.bind_some]
   ·rw[if_pos (decide_eq_true (by omega)),hw,hix,Option.bind_some,if_pos (by rw[bne_iff_ne];exact hq),Option.bind_some]
end Go.Am
