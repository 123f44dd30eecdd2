/- Part 5 of 7 of what the laws of layer 1 share: contracts of functions of the program, each for every argument of its description; no condition beyond it. -/
import Derived.Test.YtgnepgenefcnpaaGreatDoorBkD
set_option linter.unusedVariables false
set_option linter.unusedSimpArgs false
namespace Go.Am
theorem nA{σ ρ:Type}{b1 b2:σ->Option (St σ ρ)}(I:σ->Prop)(h:∀s,I s->b1 s=b2 s)(hp:∀s s',I s->b2 s=some (.next s')->I s'):∀k s,I s->j_ b1 k s=j_ b2 k s
 |0,_,_=>rfl
 |k+1,s,hs=>by
  unfold j_;rw[h s hs]
  cases hb:b2 s with
  |none=>rfl
  |some x=>
   cases x with
   |done r=>rfl
   |next s'=>exact nA I h hp k s' (hp s s' hs hb)
theorem za{σ ρ:Type}{b1 b2:σ->Option (St σ ρ)}(I:σ->Prop)(h:∀s,I s->b1 s=b2 s)(hp:∀s s',I s->b2 s=some (.next s')->I s'){s:σ}(hs:I s):Loop b1 s=Loop b2 s:=by
 apply Option.ext;intro r;rw[kt,kt];exact⟨fun⟨k,hk⟩=>⟨k,by rw[←nA I h hp k s hs];exact hk⟩,fun⟨k,hk⟩=>⟨k,by rw[nA I h hp k s hs];exact hk⟩⟩
variable {n:Nat} {f:Nat->Nat->Rat} {B:Nat}
def fb(k:Nat)(f:Nat->Nat->Rat)(i j:Nat):Rat:=f (k+i) (k+j)
theorem rH{k:Nat}:∀d i,n-k-i=d->cX f k n (k+i)=k+cX (fb k f) 0 (n-k) i
 |d,i,h=>by
  by_cases hlt:k+i<n
  ·rw[jn hlt,jn (show i<n-k by omega)];have e0:fb k f i 0=f (k+i) k:=rfl;rw[e0];by_cases h0:f (k+i) k=0
   ·rw[if_pos h0,if_pos h0]
    cases d with
    |zero=>omega
    |succ d=>exact rH d (i+1) (by omega)
   ·rw[if_neg h0,if_neg h0]
  ·rw[kr hlt,kr (by omega)]
theorem DQ(n k i:Int)(c:Rat):ky n k i c=cB k n i c:=rfl
def gB(f:Nat->Nat->Rat)(k i i' j:Nat):Rat:=if k<i'/\i'<i/\k<=j then f i' j-f i' k/f k k*f k j else f i' j
theorem tp{k i:Nat}(hf:k_ f B):k_ (gB f k i) (4*B+4):=fun i' j=>by
 have h1:=hf i' j;unfold gB
 split
 ·have h2:=hf i' k;have h3:=hf k k;have h4:=hf k j;have h5:=oD (f i' k) (f k k);have h6:=gR (f i' k/f k k) (f k j);have h7:=rA (f i' j) (f i' k/f k k*f k j);omega
 ·omega
theorem vr{k i j:Nat}:gB f k i k j=f k j:=by unfold gB;rw[if_neg (by omega)]
theorem tJ{k i j:Nat}:gB f k i i j=f i j:=by unfold gB;rw[if_neg (by omega)]
theorem Fp{body:Int×List (List Rat)->Option (St (Int×List (List Rat)) (List (List Rat)))}{k:Nat}(hbody:∀(i:Nat) g,body ((i:Int),ay n n g)=ia (n:Int) (k:Int) (i:Int) (ay n n g))(hk:k<n)(hn:n<=6)(hf:k_ f B)(hB:4*B+4<=1000000000)(h0:f k k≠0):
  Loop body (((k+1:Nat):Int),ay n n f)=some (ay n n (gB f k n)):=by
 have hL:=sV (body:=body) (k+1) n (fun i=>ay n n (gB f k i)) (ay n n (gB f k n)) hk (fun i hki hi=>by
  rw[hbody];unfold ia;have h1:=hf i k;have h2:=hf k k;have h3:=oD (f i k) (f k k);rw[if_pos (decide_eq_true (by omega)),cj hi,Option.bind_some,eN hk,Option.bind_some,cj hk,Option.bind_some,eN hk,Option.bind_some,tJ,vr,
   qI h0 (show dv (f i k)by unfold dv;omega) (show dv (f k k)by unfold dv;omega),Option.bind_some]
  rw[DQ,xx hk hi (by omega) (by omega) (by omega) (tp hf) (by omega) hB,Option.bind_some,Option.bind_some,cr hi (by omega)];rw[dp (g:=gB f k (i+1)) (fun i' j _ _=>by
   rw[tJ,vr];unfold gB;by_cases e:i'=i/\k<=j
   ·rw[if_pos e,if_pos (by omega),e.1]
   ·rw[if_neg e];by_cases e2:k<i'/\i'<i/\k<=j
    ·rw[if_pos e2,if_pos (by omega)]
    ·rw[if_neg e2,if_neg (by omega)])]) (by
  rw[hbody];unfold ia;rw[if_neg (by simp)])
 have e0:ay n n f=ay n n (gB f k (k+1)):=dp fun i j _ _=>by unfold gB;rw[if_neg (by omega)]
 rw[e0];exact hL
theorem yK{k i:Nat}{g:Nat->Nat->Rat}:kC (k:Int) (i:Int) (ay n n g)=ia (n:Int) (k:Int) (i:Int) (ay n n g):=by
 unfold kC ia;rw[aI];have e:∀c:Rat,Loop (fun(s:Int×(List (List Rat)))=>oZ (k:Int) (i:Int) c s.1 s.2) ((k:Int),ay n n g)=Loop (fun(s:Int×(List (List Rat)))=>ky (n:Int) (k:Int) (i:Int) c s.1 s.2) ((k:Int),ay n n g):=fun c=>
  za (fun s=>s.2.length=n) (fun s hs=>by unfold oZ ky;rw[hs]) (fun s s' hs h=>by
   unfold ky at h
   split at h
   ·simp only[Option.bind_eq_some_iff]at h;obtain⟨_,_,_,_,_,_,_,_,_,_,_,_,_,_,_,_,h⟩:=h;injection h with h;injection h with h;subst h;simpa using hs
   ·injection h with h;cases h) (by rw[aI])
 simp only[e]
theorem t_{k:Nat}{g:Nat->Nat->Rat}:(fun s=>nB (n:Int) (k:Int) (ay n n g) s)=(fun s=>dK (k:Int) (ay n n g) s):=by
 funext s
 unfold nB dK;rw[aI]
theorem qO(k:Int)(M:List (List Rat)):tP k M=dK k M:=rfl
theorem zp{a b:Nat}:aY f a b=aY f b a:=by
 funext i j
 unfold aY;by_cases e1:i=b
 ·by_cases e2:i=a
  ·rw[if_pos e1,if_pos e2,←e1,←e2]
  ·rw[if_pos e1,if_neg e2,if_pos e1]
 ·by_cases e2:i=a
  ·rw[if_neg e1,if_pos e2,if_pos e2]
  ·rw[if_neg e1,if_neg e2,if_neg e2,if_neg e1]
theorem yv{k:Nat}{f1:Nat->Nat->Rat}{i j:Nat}(hi:k+1+i<n):fb (k+1) (gB f1 k n) i j=sa (fb k f1) i j:=by
 unfold fb sa gB;rw[if_pos (by omega),show k+1+i=k+(i+1)by omega,show k+1+j=k+(j+1)by omega]
 rfl
theorem xR{k p:Nat}:fb k (aY f k (k+p))=aY (fb k f) 0 p:=by
 funext i j
 unfold fb aY;by_cases e:i=p
 ·rw[if_pos (by omega),if_pos e];rfl
 ·rw[if_neg (by omega),if_neg e];by_cases e2:i=0
  ·rw[if_pos (by omega),if_pos e2]
  ·rw[if_neg (by omega),if_neg e2]
theorem qJ{C:Nat}(hC:4<=C)(hCn:C*8^n<=1000000000)(hn:n<=6):∀d k (f:Nat->Nat->Rat) (D:Rat) (M0:List (List Rat)),M0.length=n->n-k=d->k<=n->k_ f (C*8^k)->sz D<=C*8^k->
  ∃r,r=D*kf (n-k) (fb k f)/\sz r<=C*8^n/\
   (Loop (fun(s:Int×(List (List Rat))×Rat)=>di (n:Int) M0 s.1 s.2.1 s.2.2) ((k:Int),ay n n f,D)=some (Ex.cp r)\/(r=0/\Loop (fun(s:Int×(List (List Rat))×Rat)=>di (n:Int) M0 s.1 s.2.1 s.2.2) ((k:Int),ay n n f,D)=some (Ex.ret (0,0))))/\
   (Loop (fun(s:Int×(List (List Rat))×Rat)=>cI s.1 s.2.1 s.2.2) ((k:Int),ay n n f,D)=some (Ex.cp r)\/(r=0/\Loop (fun(s:Int×(List (List Rat))×Rat)=>cI s.1 s.2.1 s.2.2) ((k:Int),ay n n f,D)=some (Ex.ret 0)))
 |d,k,f,D,M0,hM0,hd,hk,hf,hD=>by
  by_cases hlt:k<n
  ·have hfind:=yV (f:=f) (m:=n) (n:=n) hlt (by omega) (n-k) k rfl hk;have hge:=uc (f:=f) (k:=k) (n:=n) (n-k) k rfl;have hle:=tC (f:=f) (k:=k) (n:=n) (n-k) k rfl hk;have hsh:=rH (f:=f) (n:=n) (k:=k) (n-k) 0 (by omega);rw[Nat.add_zero]at hsh;have hnext:4*(C*8^k)+4<=C*8^(k+1)/\2*(C*8^k)<=C*8^(k+1):=by
    have e:C*8^(k+1)=C*8^k*8:=by rw[Nat.pow_succ,Nat.mul_assoc]
    have:4<=C*8^k:=Nat.le_trans hC (Nat.le_mul_of_pos_right _ (Nat.pow_pos (by decide)));omega
   have hB:4*(C*8^k)+4<=1000000000:=Nat.le_trans hnext.1 (Nat.le_trans (xZ (show k+1<=n by omega)) hCn);obtain⟨d,rfl⟩:∃d',d=d'+1:=⟨d-1,by omega⟩;have hnk:n-k=(n-(k+1))+1:=by omega
   by_cases hat:cX f k n k<n
   ·have hne:=qf (f:=f) (k:=k) (n:=n) (n-k) k rfl hat;by_cases hkk:f k k=0
    ·-- an exchange
     have hak:cX f k n k≠k:=fun e=>by rw[e]at hne;exact hne hkk
     obtain⟨p,hp⟩:∃p,cX f k n k=k+p:=⟨cX f k n k-k,by omega⟩;rw[hp]at hfind hat hne hak hsh;have hs:=kx (a:=k) (b:=k+p) hf;have hpv:aY f k (k+p) k k=f (k+p) k:=by unfold aY;rw[if_neg (by omega),if_pos rfl]
     have hD2:sz (-D*f (k+p) k)<=C*8^(k+1):=by
      have:=gR (-D) (f (k+p) k);have h2:=hf (k+p) k;rw[pL]at this;omega
     have hq:eE (-D) (f (k+p) k)=some (-D*f (k+p) k):=jL (by unfold dv;rw[pL];omega) (by have:=hf (k+p) k;unfold dv;omega);have hd1:=Fp (n:=n) (body:=fun(s:Int×(List (List Rat)))=>ia (n:Int) (k:Int) s.1 s.2) (fun _ _=>rfl) hlt hn hs (by omega) (by rw[hpv];exact hne);have hd2:=Fp (n:=n) (body:=fun(s:Int×(List (List Rat)))=>kC (k:Int) s.1 s.2) (fun _ _=>yK) hlt hn hs (by omega) (by rw[hpv];exact hne);obtain⟨r,hr,hrs,h1,h2⟩:=qJ hC hCn hn d (k+1) (gB (aY f k (k+p)) k n) (-D*f (k+p) k) M0 hM0 (by omega) hlt (fun i j=>Nat.le_trans (tp hs i j) hnext.1) hD2;refine⟨r,?_,hrs,?_,?_⟩
     ·rw[hr,hnk];have hpe:cX (fb k f) 0 (n-(k+1)+1) 0=p:=by
       have:n-k=n-(k+1)+1:=hnk;rw[←this];omega
      rw[pa (f:=fb (k+1) (gB (aY f k (k+p)) k n)) (g:=sa (fb k (aY f k (k+p)))) (fun i j hi _=>yv (by omega)),xR]
      conv=>rhs;unfold kf
      rw[if_neg (by simpa [fb]using hkk),hpe,if_pos (by omega),show fb k f p 0=f (k+p) k from rfl]
      grind
     ·have hb:di (n:Int) M0 (k:Int) (ay n n f) D=some (.next (((k+1:Nat):Int),ay n n (gB (aY f k (k+p)) k n),-D*f (k+p) k)):=by
       unfold di;rw[hM0,if_pos (decide_eq_true (by omega)),t_,hfind,Option.bind_some,if_neg (by rw[beq_iff_eq];omega),if_pos (by rw[bne_iff_ne];omega),cj hlt,Option.bind_some,cj hat,Option.bind_some,Option.bind_some,Option.bind_some,show tO D=some (-D)from rfl,Option.bind_some,Option.bind_some];simp only;rw[oo (a:=k+p) (b:=k),zp,cj hlt,Option.bind_some,eN hlt,Option.bind_some,hpv,hq,Option.bind_some,cr hlt (by omega),hd1,Option.bind_some,Option.bind_some]
      rw[eQ (body:=fun(s:Int×(List (List Rat))×Rat)=>di (n:Int) M0 s.1 s.2.1 s.2.2) hb];exact h1
     ·have hb:cI (k:Int) (ay n n f) D=some (.next (((k+1:Nat):Int),ay n n (gB (aY f k (k+p)) k n),-D*f (k+p) k)):=by
       unfold cI;rw[aI,if_pos (decide_eq_true (by omega)),qO,hfind,Option.bind_some,if_neg (by rw[beq_iff_eq];omega),if_pos (by rw[bne_iff_ne];omega),cj hat,Option.bind_some,cj hlt,Option.bind_some,Option.bind_some,Option.bind_some,show tO D=some (-D)from rfl,Option.bind_some,Option.bind_some];simp only;rw[oo (a:=k) (b:=k+p),cj hlt,Option.bind_some,eN hlt,Option.bind_some,hpv,hq,Option.bind_some,cr hlt (by omega),hd2,Option.bind_some,Option.bind_some]
      rw[eQ (body:=fun(s:Int×(List (List Rat))×Rat)=>cI s.1 s.2.1 s.2.2) hb];exact h2
    ·have hak:cX f k n k=k:=by rw[jn hlt,if_neg hkk]
     rw[hak]at hfind;have hD2:sz (D*f k k)<=C*8^(k+1):=by
      have:=gR D (f k k);have h2:=hf k k;omega
     have hq:eE D (f k k)=some (D*f k k):=jL (by unfold dv;omega) (by have:=hf k k;unfold dv;omega);have hd1:=Fp (n:=n) (body:=fun(s:Int×(List (List Rat)))=>ia (n:Int) (k:Int) s.1 s.2) (fun _ _=>rfl) hlt hn hf (by omega) hkk;have hd2:=Fp (n:=n) (body:=fun(s:Int×(List (List Rat)))=>kC (k:Int) s.1 s.2) (fun _ _=>yK) hlt hn hf (by omega) hkk;obtain⟨r,hr,hrs,h1,h2⟩:=qJ hC hCn hn d (k+1) (gB f k n) (D*f k k) M0 hM0 (by omega) hlt (fun i j=>Nat.le_trans (tp hf i j) hnext.1) hD2;refine⟨r,?_,hrs,?_,?_⟩
     ·rw[hr,hnk]
      conv=>rhs;unfold kf
      rw[if_pos (show fb k f 0 0≠0 from hkk),pa (f:=fb (k+1) (gB f k n)) (g:=sa (fb k f)) (fun i j hi _=>yv (by omega)),show fb k f 0 0=f k k from rfl]
      grind
     ·have hb:di (n:Int) M0 (k:Int) (ay n n f) D=some (.next (((k+1:Nat):Int),ay n n (gB f k n),D*f k k)):=by
       unfold di;rw[hM0,if_pos (decide_eq_true (by omega)),t_,hfind,Option.bind_some,if_neg (by rw[beq_iff_eq];omega),if_neg (by simp),Option.bind_some];simp only;rw[cj hlt,Option.bind_some,eN hlt,Option.bind_some,hq,Option.bind_some,cr hlt (by omega),hd1,Option.bind_some,Option.bind_some]
      rw[eQ (body:=fun(s:Int×(List (List Rat))×Rat)=>di (n:Int) M0 s.1 s.2.1 s.2.2) hb];exact h1
     ·have hb:cI (k:Int) (ay n n f) D=some (.next (((k+1:Nat):Int),ay n n (gB f k n),D*f k k)):=by
       unfold cI;rw[aI,if_pos (decide_eq_true (by omega)),qO,hfind,Option.bind_some,if_neg (by rw[beq_iff_eq];omega),if_neg (by simp),Option.bind_some];simp only;rw[cj hlt,Option.bind_some,eN hlt,Option.bind_some,hq,Option.bind_some,cr hlt (by omega),hd2,Option.bind_some,Option.bind_some]
      rw[eQ (body:=fun(s:Int×(List (List Rat))×Rat)=>cI s.1 s.2.1 s.2.2) hb];exact h2
   ·have hnn:cX f k n k=n:=by omega
    rw[hnn]at hfind;have hall:=oF (f:=f) (k:=k) (n:=n) (n-k) k rfl hat;have hkk:f k k=0:=hall k (Nat.le_refl _) hlt;refine⟨0,?_,by show sz (0:Rat)<=_;have:C*1<=C*8^n:=Nat.mul_le_mul_left _ (Nat.pow_pos (by decide));have e:sz (0:Rat)=1:=rfl;omega,.inr ⟨rfl,?_⟩,.inr ⟨rfl,?_⟩⟩
    ·rw[hnk];unfold kf;rw[if_neg (by simpa [fb]using hkk),if_neg (by rw[←hnk];omega)];grind
    ·refine dM (body:=fun(s:Int×(List (List Rat))×Rat)=>di (n:Int) M0 s.1 s.2.1 s.2.2) ?_;show di (n:Int) M0 (k:Int) (ay n n f) D=_;unfold di;rw[hM0,if_pos (decide_eq_true (by omega)),t_,hfind,Option.bind_some,if_pos (by simp),Option.bind_some]
     try rfl
    ·refine dM (body:=fun(s:Int×(List (List Rat))×Rat)=>cI s.1 s.2.1 s.2.2) ?_;show cI (k:Int) (ay n n f) D=_;unfold cI;rw[aI,if_pos (decide_eq_true (by omega)),qO,hfind,Option.bind_some,if_pos (by simp),Option.bind_some]
     try rfl
  ·have hkn:k=n:=by omega
   subst hkn;refine⟨D,by rw[Nat.sub_self];unfold kf;grind,hD,.inl ?_,.inl ?_⟩
   ·refine dM (body:=fun(s:Int×(List (List Rat))×Rat)=>di (k:Int) M0 s.1 s.2.1 s.2.2) ?_;show di (k:Int) M0 (k:Int) (ay k k f) D=_;unfold di;rw[hM0,if_neg (by simp)]
   ·refine dM (body:=fun(s:Int×(List (List Rat))×Rat)=>cI s.1 s.2.1 s.2.2) ?_;show cI (k:Int) (ay k k f) D=_;unfold cI;rw[aI,if_neg (by simp)]
theorem AM{C:Nat}(hC:4<=C)(hCn:C*8^n<=1000000000)(f:Nat->Nat->Rat)(hn:n<=6)(hf:k_ f C):j8 (ay n n f)=some (kf n f,0)/\wa (ay n n f)=some (kf n f)/\sz (kf n f)<=C*8^n:=by
 have hc:aJ (ay n n f)=n:=by
  by_cases h:n=0
  ·subst h;rfl
  ·exact lW (by omega)
 have hrl:∀r∈ay n n f,r.length<=30:=fun r hr=>by rw[oN hr];omega
 obtain⟨r,hr,hs,h1,h2⟩:=qJ (n:=n) hC hCn hn n 0 f 1 (ay n n f) aI rfl (Nat.zero_le _) (by simpa using hf) (by rw[Nat.pow_zero];exact Nat.le_trans (show sz (1:Rat)<=1 by decide+kernel) (by omega));have hr:r=kf n f:=by
  rw[hr,Nat.sub_zero];have:fb 0 f=f:=by funext i j;unfold fb;rw[Nat.zero_add,Nat.zero_add]
  rw[this];grind
 subst hr;refine⟨?_,?_,hs⟩
 ·unfold j8;rw[dP _ (by rw[aI];omega),kB,hc,aI,Option.bind_some];simp only[Bool.not_true,Bool.false_eq_true,if_false];rw[if_neg (by simp),qX _ (by rw[aI];omega) hrl,Option.bind_some,oa,Option.bind_some];rcases h1 with h1|⟨h0,h1⟩
  ·have:Loop (fun(s:Int×(List (List Rat))×Rat)=>di (n:Int) (ay n n f) s.1 s.2.1 s.2.2) (0,ay n n f,1)=_:=h1;rw[this];rfl
  ·have:Loop (fun(s:Int×(List (List Rat))×Rat)=>di (n:Int) (ay n n f) s.1 s.2.1 s.2.2) (0,ay n n f,1)=_:=h1;rw[this,h0];rfl
 ·unfold wa;rw[vE _ (by rw[aI];omega) hrl,Option.bind_some,oa,Option.bind_some];rcases h2 with h2|⟨h0,h2⟩
  ·have:Loop (fun(s:Int×(List (List Rat))×Rat)=>cI s.1 s.2.1 s.2.2) (0,ay n n f,1)=_:=h2;rw[this];rfl
  ·have:Loop (fun(s:Int×(List (List Rat))×Rat)=>cI s.1 s.2.1 s.2.2) (0,ay n n f,1)=_:=h2;rw[this,h0];rfl
theorem C3(f:Nat->Nat->Rat)(hn:n<=6)(hf:k_ f 300):j8 (ay n n f)=some (kf n f,0)/\wa (ay n n f)=some (kf n f)/\sz (kf n f)<=300*8^n:=AM (by decide) (Nat.le_trans (CZ hn) (by decide)) f hn hf
end Go.Am
namespace Go.Am
variable {n:Nat} {f b S A:Nat->Nat->Rat} {B:Nat}
end Go.Am
namespace Go.Am
variable {n:Nat} {f b S A:Nat->Nat->Rat} {B:Nat}
end Go.Am
namespace Go.Am
variable {n:Nat} {f:Nat->Nat->Rat}
end Go.Am
namespace Go.Am
variable {n m:Nat} {f g:Nat->Nat->Rat}
theorem iz{l:List Nat}(hn:l.Nodup){a:Nat}(ha:a∈l){g:Nat->Rat}:bK l g=g a+bK l (fun i=>if i=a then 0 else g i):=by
 have h1:bK l (fun i=>if i=a then g i else 0)=g a:=by
  rw[iL hn ha (fun j _ hj=>by rw[if_neg hj]),if_pos rfl]
 rw[←h1,←ja];exact bw fun i _=>by by_cases e:i=a<;>simp[e]<;>grind
def indep(n m:Nat)(f:Nat->Nat->Rat):Prop:=∀c:Nat->Rat,(∀j,j<m->bK (List.range n) (fun i=>c i*f i j)=0)->∀i,i<n->c i=0
theorem tD(h:∀c:Nat->Rat,∃c':Nat->Rat,(∀j,j<m->bK (List.range n) (fun i=>c i*g i j)=bK (List.range n) (fun i=>c' i*f i j))/\((∀i,i<n->c' i=0)->∀i,i<n->c i=0))(hf:indep n m f):indep n m g:=fun c hc=>by
 obtain⟨c',h1,h2⟩:=h c;exact h2 (hf c' (fun j hj=>by rw[←h1 j hj];exact hc j hj))
theorem ze{a b:Nat}(ha:a<n)(hb:b<n)(hf:indep n m f):indep n m (aY f a b):=by
 refine tD (fun c=>⟨fun i=>if i=b then c a else if i=a then c b else c i,fun j _=>?_,fun h i hi=>?_⟩) hf
 ·by_cases e:a=b
  ·subst e;refine bw fun i _=>?_;unfold aY;by_cases e1:i=a
   ·simp only[if_pos e1];rw[e1]
   ·simp only[if_neg e1]
  ·have ma:=List.mem_range.2 ha;have mb:=List.mem_range.2 hb;rw[iz List.nodup_range ma,iz List.nodup_range mb (g:=fun i=>if i=a then 0 else c i*aY f a b i j)];rw[iz List.nodup_range ma (g:=fun i=>(if i=b then c a else if i=a then c b else c i)*f i j),iz List.nodup_range mb (g:=fun i=>if i=a then 0 else(if i=b then c a else if i=a then c b else c i)*f i j)];have e1:aY f a b a j=f b j:=by unfold aY;rw[if_neg e,if_pos rfl]
   have e2:aY f a b b j=f a j:=by unfold aY;rw[if_pos rfl]
   rw[bw (g:=fun i=>if i=b then 0 else if i=a then 0 else c i*aY f a b i j) (h:=fun i=>if i=b then 0 else if i=a then 0 else(if i=b then c a else if i=a then c b else c i)*f i j) (fun i _=>by
    by_cases h1:i=b
    ·rw[if_pos h1,if_pos h1]
    ·rw[if_neg h1,if_neg h1];by_cases h2:i=a
     ·rw[if_pos h2,if_pos h2]
     ·rw[if_neg h2,if_neg h2,if_neg h1,if_neg h2];unfold aY;rw[if_neg h1,if_neg h2])]
   simp only[e1,e2,if_pos rfl,if_neg e,if_neg (Ne.symm e)]
   grind
 ·by_cases e1:i=a
  ·have:=h b hb;dsimp only at this;rw[if_pos rfl]at this;rw[e1];exact this
  ·by_cases e2:i=b
   ·have:=h a ha;dsimp only at this;by_cases e:a=b
    ·exact absurd (e2.trans e.symm) e1
    ·rw[if_neg e,if_pos rfl]at this;rw[e2];exact this
   ·have:=h i hi;dsimp only at this;rw[if_neg e2,if_neg e1]at this;exact this
theorem x4{row:Nat}{s:Rat}(hs:s≠0)(hf:indep n m f):indep n m (cw f row s 0):=by
 refine tD (fun c=>⟨fun i=>if i=row then c i*s else c i,fun j _=>bw fun i _=>?_,fun h i hi=>?_⟩) hf
 ·dsimp only;unfold cw;by_cases e:i=row
  ·rw[if_pos ⟨e,Nat.zero_le _⟩,if_pos e,e];grind
  ·rw[if_neg (fun h=>e h.1),if_neg e]
 ·have:=h i hi;dsimp only at this;by_cases e:i=row
  ·rw[if_pos e]at this;exact(Rat.mul_eq_zero.1 this).resolve_right hs
  ·rwa [if_neg e]at this
def elimM(f:Nat->Nat->Rat)(row k i:Nat):Rat:=if i=row then 0 else f i k
theorem pH{row k i j:Nat}:fq f row k 0 i j=f i j-elimM f row k i*f row j:=by
 unfold fq elimM;by_cases e:i=row
 ·rw[if_neg (fun h=>h.1 e),if_pos e];grind
 ·rw[if_neg e];by_cases e2:f i k=0
  ·rw[if_neg (fun h=>h.2.1 e2),e2];grind
  ·rw[if_pos ⟨e,e2,Nat.zero_le _⟩]
theorem zO{row k:Nat}(hr:row<n)(hf:indep n m f):indep n m (fq f row k 0):=by
 refine tD (fun c=>⟨fun i=>c i+(if i=row then-(bK (List.range n) fun i=>c i*elimM f row k i)else 0),fun j _=>?_,fun h=>?_⟩) hf
 ·have e1:bK (List.range n) (fun i=>c i*fq f row k 0 i j)=bK (List.range n) (fun i=>c i*f i j)+-(f row j)*bK (List.range n) (fun i=>c i*elimM f row k i):=by
   rw[←fL,←ja];exact bw fun i _=>by rw[pH];grind
  have e2:bK (List.range n) (fun i=>(c i+(if i=row then-(bK (List.range n) fun i=>c i*elimM f row k i)else 0))*f i j)=bK (List.range n) (fun i=>c i*f i j)+bK (List.range n) (fun i=>(if i=row then-(bK (List.range n) fun i=>c i*elimM f row k i)else 0)*f i j):=by
   rw[←ja];exact bw fun i _=>by grind
  rw[e1,e2,iL List.nodup_range (List.mem_range.2 hr) (g:=fun i=>(if i=row then-(bK (List.range n) fun i=>c i*elimM f row k i)else 0)*f i j) (fun i _ hi=>by simp only[if_neg hi];grind)];simp only[if_pos rfl]
  grind
 ·have h0:∀i,i<n->i≠row->c i=0:=fun i hi hir=>by
   have:=h i hi;dsimp only at this;rw[if_neg hir]at this
   grind
  have hM:bK (List.range n) (fun i=>c i*elimM f row k i)=0:=gK fun i hi=>by
   by_cases e:i=row
   ·unfold elimM;rw[if_pos e];grind
   ·rw[h0 i (List.mem_range.1 hi) e];grind
  intro i hi;by_cases e:i=row
  ·have:=h i hi;dsimp only at this;rw[if_pos e,hM]at this
   grind
  ·exact h0 i hi e
def mi(n m:Nat)(f:Nat->Nat->Rat)(v:Nat->Rat):Prop:=∀i,i<n->bK (List.range m) (fun j=>f i j*v j)=0
theorem yE{a b:Nat}{v:Nat->Rat}(ha:a<n)(hb:b<n):mi n m (aY f a b) v↔mi n m f v:=by
 have e:∀i,bK (List.range m) (fun j=>aY f a b i j*v j)=bK (List.range m) (fun j=>f (if i=b then a else if i=a then b else i) j*v j):=fun i=>bw fun j _=>by
  unfold aY;by_cases h1:i=b
  ·rw[if_pos h1,if_pos h1]
  ·rw[if_neg h1,if_neg h1];by_cases h2:i=a
   ·rw[if_pos h2,if_pos h2]
   ·rw[if_neg h2,if_neg h2]
 constructor
 ·intro h i hi;by_cases h1:i=a
  ·have:=h b hb;rw[e,if_pos rfl]at this;rw[h1];exact this
  ·by_cases h2:i=b
   ·have:=h a ha;rw[e]at this;by_cases h3:a=b
    ·rw[if_pos h3]at this;rw[h2,←h3];exact this
    ·rw[if_neg h3,if_pos rfl]at this;rw[h2];exact this
   ·have:=h i hi
    rwa [e,if_neg h2,if_neg h1]at this
 ·intro h i hi;rw[e]
  split
  ·exact h a ha
  ·split
   ·exact h b hb
   ·exact h i hi
theorem vF{row:Nat}{s:Rat}{v:Nat->Rat}(hs:s≠0):mi n m (cw f row s 0) v↔mi n m f v:=by
 have e:∀i,bK (List.range m) (fun j=>cw f row s 0 i j*v j)=(if i=row then s else 1)*bK (List.range m) (fun j=>f i j*v j):=fun i=>by
  rw[←fL];refine bw fun j _=>?_;unfold cw;by_cases h:i=row
  ·rw[if_pos ⟨h,Nat.zero_le _⟩,if_pos h,h];grind
  ·rw[if_neg (fun h'=>h h'.1),if_neg h];grind
 constructor
 ·intro h i hi;have:=h i hi;rw[e]at this;refine(Rat.mul_eq_zero.1 this).resolve_left ?_
  split
  ·exact hs
  ·decide
 ·intro h i hi;rw[e,h i hi];grind
theorem yC{row k:Nat}{v:Nat->Rat}(hr:row<n):mi n m (fq f row k 0) v↔mi n m f v:=by
 have e:∀i,bK (List.range m) (fun j=>fq f row k 0 i j*v j)=bK (List.range m) (fun j=>f i j*v j)+-(elimM f row k i)*bK (List.range m) (fun j=>f row j*v j):=fun i=>by
  rw[←fL,←ja];exact bw fun j _=>by rw[pH];grind
 have hrow:elimM f row k row=0:=by unfold elimM;rw[if_pos rfl]
 constructor
 ·intro h i hi;have h1:=h row hr;rw[e,hrow]at h1;have h2:=h i hi;rw[e]at h2;have h3:bK (List.range m) (fun j=>f row j*v j)=0:=by grind
  rw[h3]at h2
  grind
 ·intro h i hi;rw[e,h i hi,h row hr];grind
theorem so{row k at':Nat}(hp:f at' k≠0):1/aY f row at' row k≠0:=by
 have e:aY f row at' row k=f at' k:=by
  unfold aY;by_cases h:row=at'
  ·rw[if_pos h,h]
  ·rw[if_neg h,if_pos rfl]
 rw[e];intro h;have:=Rat.div_mul_cancel (a:=1) hp;rw[h]at this
 grind
theorem ug(f0:Nat->Nat->Rat):l3 n m (fun _ f _=>indep n m f/\∀v,mi n m f v↔mi n m f0 v) where
 step:=fun k f bY at' _ hpl hge hat hp _ hJ=>by
  refine⟨zO hpl (x4 (so hp) (ze hpl hat hJ.1)),fun v=>?_⟩;unfold iW;rw[yC hpl,vF (so hp),yE hpl hat];exact hJ.2 v
 skip:=fun _ _ _ _ _ _ h=>h
def jk(n:Nat)(f:Nat->Nat->Rat)(i j:Nat):Rat:=if j<n then f i j else if j=n+i then 1 else 0
theorem zi:indep n (n+n) (jk n f):=fun c hc i hi=>by
 have h:=hc (n+i) (by omega);rw[iL List.nodup_range (List.mem_range.2 hi) (fun i' _ hne=>by
  unfold jk;rw[if_neg (by omega),if_neg (by omega)];grind)]at h
 unfold jk at h;rw[if_neg (by omega),if_pos rfl]at h
 grind
theorem vn{J:Nat->(Nat->Nat->Rat)->List Int->Prop}{pv:List Int}(hi:indep n m g)(hl:pv.length<=n)(h:jA g n pv.length m\/pv.length=n):pv.length=n:=by
 rcases h with h|h
 ·refine Classical.byContradiction fun hne=>?_;have hlt:pv.length<n:=by omega
  have:=hi (fun i=>if i=pv.length then 1 else 0) (fun j hj=>by
   rw[iL List.nodup_range (List.mem_range.2 hlt) (fun i _ hi=>by simp only[if_neg hi];grind),h pv.length j (Nat.le_refl _) hlt hj];grind) pv.length hlt
  rw[if_pos rfl]at this;exact absurd this (by decide)
 ·exact h
theorem ow{α:Type}(F:Nat->α)(i:Nat)(x:α):((List.range n).map F).set i x=(List.range n).map (fun r=>if r=i then x else F r):=by
 apply List.ext_getElem
 ·simp
 ·intro r h1 h2;by_cases e:r=i
  ·subst e;rw[List.getElem_set_self];simp
  ·rw[List.getElem_set_ne (Ne.symm e)];simp[e]
theorem AT{i:Nat}(hi:i<n):((List.range n).map (f i)++List.replicate n (0:Rat)).set (n+i) 1=(List.range (n+n)).map (jk n f i):=by
 apply List.ext_getElem
 ·simp
 ·intro j h1 h2;rw[List.length_set,List.length_append,List.length_map,List.length_range,List.length_replicate]at h1;simp only[List.getElem_map,List.getElem_range];unfold jk;by_cases e:j=n+i
  ·subst e;rw[List.getElem_set_self,if_neg (by omega),if_pos rfl]
  ·rw[List.getElem_set_ne (Ne.symm e)];by_cases e2:j<n
   ·rw[List.getElem_append_left (by simpa using e2),if_pos e2];simp
   ·rw[List.getElem_append_right (by simpa using e2),if_neg e2,if_neg e];simp
theorem xw{h:Nat->Rat}:((List.range (n+n)).map h).drop n=(List.range n).map fun j=>h (n+j):=by
 apply List.ext_getElem
 ·simp
 ·intro j h1 h2;simp
theorem zh{α:Type}{F:Nat->α}{i:Nat}(hi:i<n):ix ((List.range n).map F) (i:Int)=some (F i):=by
 rw[dX (by simpa using hi)];simp
theorem FN{i:Nat}(hi:i<n)(hn:n<=6):IntKind.i64.wrap ((n:Int)+(i:Int))=((n+i:Nat):Int):=by
 rw[IntKind.wrap_i64];omega
theorem Hu(hn:n<=6){M0:List (List Rat)}(hM:M0.length=n):Loop (fun(s:Int×(List (List Rat)))=>fI (n:Int) M0 s.1 s.2) (0,ay n n f)=some (ay n (n+n) (jk n f)):=by
 have hL:=dH (body:=fun(s:Int×(List (List Rat)))=>fI (n:Int) M0 s.1 s.2) n (fun i=>(List.range n).map fun r=>if r<i then(List.range (n+n)).map (jk n f r)else(List.range n).map (f r)) ((List.range n).map fun r=>if r<n then(List.range (n+n)).map (jk n f r)else(List.range n).map (f r)) (fun i hi=>by
  unfold fI;rw[hM,if_pos (decide_eq_true (by omega)),zh hi,Option.bind_some,if_neg (by omega),aG (by simp;omega),Int.toNat_natCast,Int.toNat_natCast,ow,zh hi,Option.bind_some,if_pos rfl,oa,Option.bind_some,FN hi hn,dX (by simp;omega),Option.bind_some,Int.toNat_natCast,AT hi,ow,cr hi (by omega)]
  congr 3
  apply List.map_congr_left;intro r _;by_cases e:r=i
  ·rw[if_pos e,if_pos (by omega),e]
  ·rw[if_neg e,if_neg e];by_cases e2:r<i
   ·rw[if_pos e2,if_pos (by omega)]
   ·rw[if_neg e2,if_neg (by omega)]) (by
  unfold fI;rw[hM,if_neg (by simp)])
 have e0:ay n n f=(List.range n).map fun r=>if r<0 then(List.range (n+n)).map (jk n f r)else(List.range n).map (f r):=by
  unfold ay;apply List.map_congr_left;intro r _;rw[if_neg (by omega)]
 have e1:ay n (n+n) (jk n f)=(List.range n).map fun r=>if r<n then(List.range (n+n)).map (jk n f r)else(List.range n).map (f r):=by
  unfold ay;apply List.map_congr_left;intro r hr;rw[if_pos (by simpa using hr)]
 rw[e0,e1];exact hL
theorem G8(hn:n<=6):Loop (fun(s:Int×(List (List Rat)))=>gD (ay n n f) s.1 s.2) (0,([]:List (List Rat)))=some (ay n (n+n) (jk n f)):=by
 have hL:=dH (body:=fun(s:Int×(List (List Rat)))=>gD (ay n n f) s.1 s.2) n (fun i=>ay i (n+n) (jk n f)) (ay n (n+n) (jk n f)) (fun i hi=>by
  unfold gD;rw[aI,if_pos (decide_eq_true (by omega)),cj hi,Option.bind_some,aG (by simp;omega),aG (by simp;omega),oa,Option.bind_some,Int.toNat_natCast,FN hi hn,dX (by simp;omega),Option.bind_some,aG (by rw[aI];omega),Int.toNat_natCast,AT hi,cr hi (by omega),ku]) (by
  unfold gD;rw[aI,if_neg (by simp)])
 exact hL
theorem FX(hn:n<=6){M0:List (List Rat)}(hM:M0.length=n):Loop (fun(s:Int×(List (List Rat)))=>eS (n:Int) M0 s.1 s.2) (0,ay n (n+n) g)=some (ay n n fun i j=>g i (n+j)):=by
 have hL:=dH (body:=fun(s:Int×(List (List Rat)))=>eS (n:Int) M0 s.1 s.2) n (fun i=>(List.range n).map fun r=>if r<i then(List.range n).map (fun j=>g r (n+j))else(List.range (n+n)).map (g r)) ((List.range n).map fun r=>if r<n then(List.range n).map (fun j=>g r (n+j))else(List.range (n+n)).map (g r)) (fun i hi=>by
  unfold eS ud;have e1:((List.range n).map fun r=>if r<i then(List.range n).map (fun j=>g r (n+j))else(List.range (n+n)).map (g r))[i]?=some ((List.range (n+n)).map (g i)):=by
   rw[List.getElem?_eq_getElem (by simpa using hi)];simp
  rw[hM,if_pos (decide_eq_true (by omega)),zh hi,Option.bind_some,if_neg (by omega),aG (by simp;omega),Int.toNat_natCast,Int.toNat_natCast,e1,Option.bind_some,aG (by simp;omega),Option.bind_some,Option.bind_some,xw,ow,cr hi (by omega)]
  congr 3
  apply List.map_congr_left;intro r _;by_cases e:r=i
  ·rw[if_pos e,if_pos (by omega),e]
  ·rw[if_neg e];by_cases e2:r<i
   ·rw[if_pos e2,if_pos (by omega)]
   ·rw[if_neg e2,if_neg (by omega)]) (by
  unfold eS;rw[hM,if_neg (by simp)])
 have e0:ay n (n+n) g=(List.range n).map fun r=>if r<0 then(List.range n).map (fun j=>g r (n+j))else(List.range (n+n)).map (g r):=by
  unfold ay;apply List.map_congr_left;intro r _;rw[if_neg (by omega)]
 have e1:ay n n (fun i j=>g i (n+j))=(List.range n).map fun r=>if r<n then(List.range n).map (fun j=>g r (n+j))else(List.range (n+n)).map (g r):=by
  unfold ay;apply List.map_congr_left;intro r hr;rw[if_pos (by simpa using hr)]
 rw[e0,e1];exact hL
theorem FL(hn:n<=6):Loop (fun(s:Int×(List (List Rat)))=>fi (ay n n f) (ay n (n+n) g) s.1 s.2) (0,([]:List (List Rat)))=some (ay n n fun i j=>g i (n+j)):=by
 have hL:=dH (body:=fun(s:Int×(List (List Rat)))=>fi (ay n n f) (ay n (n+n) g) s.1 s.2) n (fun i=>ay i n fun i j=>g i (n+j)) (ay n n fun i j=>g i (n+j)) (fun i hi=>by
  unfold fi;rw[aI,aI,if_pos (decide_eq_true (by omega)),cj hi,Option.bind_some,aG (by simp;omega),Int.toNat_natCast,xw,aG (by simp;omega),aG (by rw[aI];omega),cr hi (by omega),ku]) (by
  unfold fi;rw[aI,if_neg (by simp)])
 exact hL
theorem l3.and{J J':Nat->(Nat->Nat->Rat)->List Int->Prop}(h:l3 n m J)(h':l3 n m J'):l3 n m (fun k f pv=>J k f pv/\J' k f pv) where
 step:=fun k f bY at' hk hpl hge hat hp hz hJ=>⟨h.step k f bY at' hk hpl hge hat hp hz hJ.1,h'.step k f bY at' hk hpl hge hat hp hz hJ.2⟩
 skip:=fun k f bY hk hpl ha hJ=>⟨h.skip k f bY hk hpl ha hJ.1,h'.skip k f bY hk hpl ha hJ.2⟩
theorem ES{J:Nat->(Nat->Nat->Rat)->List Int->Prop}(f:Nat->Nat->Rat)(hn:n<=6)(hf:k_ f 300)(kp:l3 n (n+n) J)(hJ0:J 0 (jk n f) []):∃g pv,(∃k',k'<=n+n/\J k' g pv)/\F3 300 n (n+n) g pv/\pv.length=n/\indep n (n+n) g/\(∀v,mi n (n+n) g v↔mi n (n+n) (jk n f) v)/\
  ((gI (ay n n f)=some (ay n n (fun i j=>g i (n+j)),0)/\lC (ay n n f)=some (ay n n (fun i j=>g i (n+j)),true)/\(0<n->pv[n-1]?=some (((n-1:Nat)):Int)))\/
   (gI (ay n n f)=some ([],8)/\lC (ay n n f)=some ([],false)/\0<n/\pv[n-1]?≠some (((n-1:Nat)):Int))):=by
 have hc:aJ (ay n n f)=n:=by
  by_cases h:n=0
  ·subst h;rfl
  ·exact lW (by omega)
 have hrl:∀r∈ay n n f,r.length<=30:=fun r hr=>by rw[oN hr];omega
 obtain⟨g,pv,⟨k',hk',⟨⟨hJ1,hJ2⟩,hJ⟩,hz,hor⟩,e1,e2,hR⟩:=tI n (n+n) (jk n f) ((ug (jk n f)).and kp) ⟨⟨zi,fun _=>Iff.rfl⟩,hJ0⟩ (by decide) (Nat.le_trans (CZ (show n<=6 from hn)) (by decide)) hn (by omega) (fun h=>by omega) (fun i j=>by
  unfold jk
  split
  ·exact hf i j
  ·split<;>exact Nat.le_trans (show sz _<=1 by decide+kernel) (by decide))
 have hlen:pv.length=n:=vn (J:=fun _ _ _=>True) hJ1 hR.len (hor.elim (fun h=>.inl (h▸hz)) .inr);refine⟨g,pv,⟨k',hk',hJ⟩,hR,hlen,hJ1,hJ2,?_⟩;have hp:∀X,(((if(decide ((n:Int)>0))=true then(ix pv (IntKind.i64.wrap ((n:Int)-1))).bind fun v36=>(if(v36 !=(IntKind.i64.wrap ((n:Int)-1)))=true then some (Ex.ret (([]:List (List Rat)),(8:Int)))else some (Ex.cp (ay n (n+n) g)))else some (Ex.cp (ay n (n+n) g)))).bind fun o30=>(match o30 with|Ex.cp v39=>((Loop (fun(s:Int×(List (List Rat)))=>eS (n:Int) v39 s.1 s.2) (0,v39)).bind fun v56=>some (v56)).bind fun v57=>some (v57,0)|Ex.ret (r58,r59)=>some (r58,r59)))=X->gI (ay n n f)=X:=fun X hX=>by
  unfold gI;rw[dP _ (by rw[aI];omega),kB,hc,aI,Option.bind_some];simp only[Bool.not_true,Bool.false_eq_true,if_false];rw[if_neg (by simp),qX _ (by rw[aI];omega) hrl,Option.bind_some,Hu hn aI,Option.bind_some,Option.bind_some,e1,Option.bind_some];exact hX
 have hr:∀X,(((if(decide ((n:Int)>0))=true then(ix pv (IntKind.i64.wrap ((n:Int)-1))).bind fun v29=>(if(v29 !=(IntKind.i64.wrap ((n:Int)-1)))=true then some (Ex.ret (([]:List (List Rat)),false))else some (Ex.cp ()))else some (Ex.cp ()))).bind fun o25=>(match o25 with|Ex.cp ()=>((Loop (fun(s:Int×(List (List Rat)))=>fi (ay n n f) (ay n (n+n) g) s.1 s.2) (0,([]:List (List Rat)))).bind fun v46=>some (v46)).bind fun v47=>some (v47,true)|Ex.ret (r48,r49)=>some (r48,r49)))=X->lC (ay n n f)=X:=fun X hX=>by
  unfold lC;rw[G8 hn,Option.bind_some,Option.bind_some,e2,Option.bind_some,aI];simp only;rw[hlen,if_neg (by simp)];exact hX
 by_cases h0:n=0
 ·subst h0;refine .inl ⟨hp _ ?_,hr _ ?_,fun h=>by omega⟩
  ·rw[if_neg (by decide),Option.bind_some];simp only;rw[FX hn aI];rfl
  ·rw[if_neg (by decide),Option.bind_some];simp only;rw[FL hn];rfl
 ·have hw:IntKind.i64.wrap ((n:Int)-1)=((n-1:Nat):Int):=by rw[IntKind.wrap_i64];omega
  have hix:ix pv (((n-1:Nat)):Int)=some (pv[n-1]'(by omega)):=dX (by omega);have hg:pv[n-1]?=some (pv[n-1]'(by omega)):=List.getElem?_eq_getElem (by omega);by_cases hq:pv[n-1]'(by omega)=((n-1:Nat):Int)
  ·refine .inl ⟨hp _ ?_,hr _ ?_,fun _=>by rw[hg,hq]⟩
   ·rw[if_pos (decide_eq_true (by omega)),hw,hix,Option.bind_some,if_neg (by simp[hq]),Option.bind_some];simp only;rw[FX hn aI];rfl
   ·rw[if_pos (decide_eq_true (by omega)),hw,hix,Option.bind_some,if_neg (by simp[hq]),Option.bind_some];simp only;rw[FL hn];rfl
  ·refine .inr ⟨hp _ ?_,hr _ ?_,by omega,fun h=>hq (by rw[hg]at h;exact Option.some.inj h)⟩
   ·rw[if_pos (decide_eq_true (by omega)),hw,hix,Option.bind_some,if_pos (by rw[bne_iff_ne];exact hq),Option.bind_some]
   ·rw[if_pos (decide_eq_true (by omega)),hw,hix,Option.bind_some,if_pos (by rw[bne_iff_ne];exact hq),Option.bind_some]
end Go.Am
namespace Go.Am
open Go.RowKit
set_option maxRecDepth 100000
noncomputable section
end
end Go.Am
namespace Go.Am
variable {M:List (List Rat)} {n:Nat}
theorem rW{g:Nat->Rat}:∀{l l':List Nat},bK (l++l') g=bK l g+bK l' g
 |[],l'=>by show bK l' g=0+_;grind
 |a::l,l'=>by
  show g a+bK (l++l') g=g a+bK l g+_;rw[rW];grind
theorem l9{g h:Nat->Rat}:∀n,ig g h n=bK (List.range n) fun j=>g j*h j
 |0=>rfl
 |n+1=>by
  rw[List.range_succ,rW,←l9 n];show ig g h n+g n*h n=_+(g n*h n+0)
  grind
end Go.Am
namespace Go.Am
variable {n m k:Nat} {g:Nat->Nat->Rat} {pv:List Int}
end Go.Am
namespace Go.Am
open Go.RowKit
set_option maxRecDepth 100000
noncomputable section
end
end Go.Am
namespace Go.Am
variable {M:List (List Rat)}
def m6(M:List (List Rat))(b:List Rat)(i j:Nat):Rat:=if j<aJ M then fZ M i j else b.getD i 0
def pk(M:List (List Rat)):Nat:=if M.length=0 then 0 else aJ M+1
theorem Ep{b:List Rat}(h:right M=true){i:Nat}(hi:i<M.length):M[i]++[b.getD i 0]=(List.range (aJ M+1)).map (m6 M b i):=by
 rw[mB];have h1:M[i]=(List.range (aJ M)).map (m6 M b i):=by
  conv=>lhs;rw[wC (r:=M[i])]
  rw[iE h hi];apply List.map_congr_left;intro j hj;unfold m6 fZ;rw[if_pos (by simpa using hj),dN hi]
 have h2:m6 M b i (aJ M)=b.getD i 0:=by unfold m6;rw[if_neg (by omega)]
 rw[h2,←h1]
theorem Ih{b:List Rat}(h:right M=true)(hl:M.length<=6)(hc:aJ M<=20)(hb:b.length=M.length):Loop (fun(s:Int×(List (List Rat)))=>iw M b s.1 s.2) (0,([]:List (List Rat)))=some (ay M.length (aJ M+1) (m6 M b)):=by
 have hL:=dH (body:=fun(s:Int×(List (List Rat)))=>iw M b s.1 s.2) M.length (fun i=>ay i (aJ M+1) (m6 M b)) (ay M.length (aJ M+1) (m6 M b)) (fun i hi=>by
  unfold iw lk;rw[if_pos (decide_eq_true (by omega)),dX hi,Option.bind_some,aG (by rw[iE h hi];omega),Option.bind_some,Il b 0 i (by omega),Option.bind_some,aG (by rw[iE h hi];simp only[List.length_singleton];omega),aG (by rw[aI];omega),cr hi (by omega),Ep h hi,ku]) (by
  unfold iw;rw[if_neg (by simp)])
 exact hL
end Go.Am
namespace Go.Am
variable {n m k:Nat} {f g:Nat->Nat->Rat} {pv:List Int}
structure Rr(n k:Nat)(g:Nat->Nat->Rat)(pv:List Int):Prop where
 bY:∀p (hp:p<pv.length),∃q:Nat,pv[p]=(q:Int)/\q<k/\(∀i,i<n->g i q=if i=p then 1 else 0)/\∀j,j<q->g p j=0
 D9:pv.Pairwise (·< ·)
theorem qY{row at' j:Nat}(hz:jA f n row k)(h1:row<=at')(h2:at'<n)(hj:j<k){i:Nat}(hi:i<n):iW f row k at' 0 i j=f i j:=by
 have hr0:f row j=0:=hz row j (Nat.le_refl _) (by omega) hj;have ha0:f at' j=0:=hz at' j h1 h2 hj;have hs:∀i,aY f row at' i j=f i j:=fun i=>by
  unfold aY;by_cases e1:i=at'
  ·rw[if_pos e1,e1,hr0,ha0]
  ·rw[if_neg e1];by_cases e2:i=row
   ·rw[if_pos e2,e2,hr0,ha0]
   ·rw[if_neg e2]
 have hc:∀i,cw (aY f row at') row (1/aY f row at' row k) 0 i j=f i j:=fun i=>by
  unfold cw;by_cases e:i=row
  ·rw[if_pos ⟨e,Nat.zero_le _⟩,hs,e,hr0];grind
  ·rw[if_neg (fun h=>e h.1),hs]
 unfold iW fq;rw[hc,hc,hr0]
 split<;>grind
theorem DX{row at':Nat}(h1:row<=at')(h2:at'<n)(hp:f at' k≠0){i:Nat}(hi:i<n):iW f row k at' 0 i k=if i=row then 1 else 0:=by
 have hpp:aY f row at' row k=f at' k:=by
  unfold aY;by_cases e:row=at'
  ·rw[if_pos e,e]
  ·rw[if_neg e,if_pos rfl]
 have hrk:cw (aY f row at') row (1/aY f row at' row k) 0 row k=1:=by
  unfold cw;rw[if_pos ⟨rfl,Nat.zero_le _⟩,hpp];have:=Rat.div_mul_cancel (a:=1) hp
  grind
 unfold iW fq;by_cases e:i=row
 ·rw[if_neg (fun h=>h.1 e),if_pos e,e,hrk]
 ·rw[if_neg e,hrk];by_cases e2:cw (aY f row at') row (1/aY f row at' row k) 0 i k=0
  ·rw[if_neg (fun h=>h.2.1 e2),e2]
  ·rw[if_pos ⟨e,e2,Nat.zero_le _⟩];grind
theorem xC:l3 n m (fun k f pv=>Rr n k f pv) where
 step:=fun k f bY at' hk hpl hge hat hp hz hJ=>by
  have hl:(bY++[(k:Int)]).length=bY.length+1:=by simp
  refine⟨fun p hpp=>?_,?_⟩
  ·by_cases e:p<bY.length
   ·obtain⟨q,e1,e2,e3,e4⟩:=hJ.bY p e;refine⟨q,by rw[List.getElem_append_left e];exact e1,by omega,fun i hi=>?_,fun j hj=>?_⟩
    ·rw[qY hz hge hat e2 hi];exact e3 i hi
    ·rw[qY hz hge hat (by omega) (by omega)];exact e4 j hj
   ·have ep:p=bY.length:=by omega
    subst ep;refine⟨k,by simp,by omega,fun i hi=>DX hge hat hp hi,fun j hj=>?_⟩;rw[qY hz hge hat hj hpl];exact hz _ j (Nat.le_refl _) hpl hj
  ·rw[List.pairwise_append];refine⟨hJ.D9,List.pairwise_singleton _ _,fun a ha b hb=>?_⟩;rw[List.mem_singleton]at hb;obtain⟨p,hpp,rfl⟩:=List.getElem_of_mem ha;obtain⟨q,e1,e2,_⟩:=hJ.bY p hpp;omega
 skip:=fun k f bY _ _ _ hJ=>⟨fun p hp=>by
  obtain⟨q,e1,e2,e3⟩:=hJ.bY p hp;exact⟨q,e1,by omega,e3⟩,hJ.D9⟩
theorem A7(f0:Nat->Nat->Rat):l3 n m (fun _ f _=>∀v,mi n m f v↔mi n m f0 v) where
 step:=fun k f bY at' _ hpl hge hat hp _ hJ=>fun v=>by
  unfold iW;rw[yC hpl,vF (so hp),yE hpl hat];exact hJ v
 skip:=fun _ _ _ _ _ _ h=>h
theorem lV(h:pv.Pairwise (·< ·)):pv.Nodup:=h.imp (fun h=>by omega)
theorem Rr.idx(h:Rr n k g pv){p:Nat}(hp:p<pv.length):pv.idxOf pv[p]=p:=(lV h.D9).idxOf_getElem p hp
def fN(g:Nat->Nat->Rat)(pv:List Int)(q j:Nat):Rat:=if j=q then 1 else if(j:Int)∈pv then-(g (pv.idxOf (j:Int)) q)else 0
theorem mJ{q:Nat}:fN g pv q q=1:=if_pos rfl
theorem kW{q j:Nat}(h:(j:Int)∉pv)(hne:j≠q):fN g pv q j=0:=by unfold fN;rw[if_neg hne,if_neg h]
theorem Rr.rh(h:Rr n k g pv){p q j:Nat}(hp:p<pv.length)(e:pv[p]=(j:Int))(hne:j≠q):fN g pv q j=-(g p q):=by
 unfold fN;rw[if_neg hne,if_pos (e▸List.getElem_mem hp),←e,h.idx hp]
def uy(n m:Nat)(g:Nat->Nat->Rat)(l:Nat):Prop:=∀i j,l<=i->i<n->j<m->g i j=0
theorem vA(h:Rr n k g pv)(hl:pv.length<=n)(hz:uy n m g pv.length){q:Nat}(hq:q<m)(hf:(q:Int)∉pv)(hpm:∀p∈pv,p<(m:Int)):mi n m g (fN g pv q):=by
 intro i hi;by_cases hip:i<pv.length
 ·obtain⟨a,e1,e2,e3,e4⟩:=h.bY i hip;have ham:a<m:=by have:=hpm _ (List.getElem_mem hip);omega
  have haq:a≠q:=fun e=>hf (by rw[←e,←e1];exact List.getElem_mem hip);rw[iz List.nodup_range (List.mem_range.2 hq),mJ,iL List.nodup_range (List.mem_range.2 ham) (fun j hj hja=>?_)]
  ·rw[if_neg haq,h.rh hip e1 haq,e3 i hi,if_pos rfl];grind
  ·by_cases e:j=q
   ·rw[if_pos e]
   ·rw[if_neg e];by_cases hjp:(j:Int)∈pv
    ·obtain⟨p,hp,ep⟩:=List.getElem_of_mem hjp;obtain⟨b,f1,f2,f3,f4⟩:=h.bY p hp;have:b=j:=by omega
     subst this;have hpi:¬i=p:=fun e=>by subst e;omega
     rw[f3 i hi,if_neg hpi];grind
    ·rw[kW hjp e];grind
 ·exact gK fun j hj=>by rw[hz i j (by omega) hi (List.mem_range.1 hj)];grind
theorem yn(h:Rr n k g pv){q j:Nat}(hj:q<j):fN g pv q j=0:=by
 by_cases hjp:(j:Int)∈pv
 ·obtain⟨p,hp,ep⟩:=List.getElem_of_mem hjp;obtain⟨b,f1,f2,f3,f4⟩:=h.bY p hp;rw[h.rh hp ep (by omega),f4 q (by omega)];grind
 ·exact kW hjp (by omega)
theorem AH{n1 n2 k1 k2:Nat}{g1 g2:Nat->Nat->Rat}{pv1 pv2:List Int}(h1:Rr n1 k1 g1 pv1)(l1:pv1.length<=n1)(z1:uy n1 m g1 pv1.length)(m1:∀p∈pv1,p<(m:Int))
  (h2:Rr n2 k2 g2 pv2)(l2:pv2.length<=n2)(m2:∀p∈pv2,p<(m:Int))(hn:∀v,mi n1 m g1 v->mi n2 m g2 v){x:Int}(hx:x∈pv2):x∈pv1:=by
 refine Classical.byContradiction fun hc=>?_;obtain⟨p,hp,ep⟩:=List.getElem_of_mem hx;obtain⟨q,e1,e2,e3,e4⟩:=h2.bY p hp;have hqm:q<m:=by have:=m2 x hx;omega
 have hxq:x=(q:Int):=by omega
 subst hxq;have:=hn _ (vA h1 l1 z1 hqm hc m1) p (by omega);rw[iL List.nodup_range (List.mem_range.2 hqm) (fun j hj hjq=>?_),mJ,e3 p (by omega),if_pos rfl]at this
 ·exact absurd this (by decide+kernel)
 ·by_cases e:j<q
  ·rw[e4 j e];grind
  ·rw[yn h1 (by omega)];grind
theorem EV{n1 n2 k1 k2:Nat}{g1 g2:Nat->Nat->Rat}{pv1 pv2:List Int}(h1:Rr n1 k1 g1 pv1)(l1:pv1.length<=n1)(z1:uy n1 m g1 pv1.length)(m1:∀p∈pv1,p<(m:Int))
  (h2:Rr n2 k2 g2 pv2)(l2:pv2.length<=n2)(z2:uy n2 m g2 pv2.length)(m2:∀p∈pv2,p<(m:Int))(hn:∀v,mi n1 m g1 v↔mi n2 m g2 v):pv1.length=pv2.length:=
 ((List.perm_ext_iff_of_nodup (lV h1.D9) (lV h2.D9)).2 fun x=>⟨AH h2 l2 z2 m2 h1 l1 m1 (fun v=>(hn v).2),AH h1 l1 z1 m1 h2 l2 m2 (fun v=>(hn v).1)⟩).length_eq
theorem vc{h:Nat->Nat->Rat}{l':List Nat}:∀{l:List Nat},bK l (fun a=>bK l' fun b=>h a b)=bK l' (fun b=>bK l fun a=>h a b)
 |[]=>(gK fun _ _=>rfl).symm
 |a::l=>by
  have:bK (a::l) (fun a=>bK l' fun b=>h a b)=bK l' (h a)+bK l (fun a=>bK l' fun b=>h a b):=rfl;rw[this,vc,←ja];exact bw fun b _=>rfl
theorem Ek(h:Rr n k g pv)(hl:pv.length<=n)(hpm:∀p∈pv,p<(m:Int)){d:Nat->Rat}(hd:mi n m g d){j:Nat}(hj:j<m):
  d j=bK (List.range m) fun q=>(if(q:Int)∈pv then 0 else d q)*fN g pv q j:=by
 by_cases hjp:(j:Int)∈pv
 ·obtain⟨p,hp,ep⟩:=List.getElem_of_mem hjp;obtain⟨b,f1,f2,f3,f4⟩:=h.bY p hp;have hb:b=j:=by omega
  subst hb;have h1:=hd p (by omega);rw[iz List.nodup_range (List.mem_range.2 hj),f3 p (by omega),if_pos rfl]at h1;have h2:bK (List.range m) (fun q=>(if(q:Int)∈pv then 0 else d q)*fN g pv q b)=-1*bK (List.range m) (fun i=>if i=b then 0 else g p i*d i):=by
   rw[←fL];refine bw fun q hq=>?_;by_cases e:q=b
   ·subst e;rw[if_pos hjp,if_pos rfl];grind
   ·rw[if_neg e];by_cases hqp:(q:Int)∈pv
    ·rw[if_pos hqp];obtain⟨r,hr,er⟩:=List.getElem_of_mem hqp;obtain⟨c,g1,g2,g3,g4⟩:=h.bY r hr;have hc:c=q:=by omega
     subst hc;have:¬p=r:=fun e'=>by subst e';omega
     rw[g3 p (by omega),if_neg this];grind
    ·rw[if_neg hqp,h.rh hp ep (Ne.symm e)];grind
  rw[h2];grind
 ·rw[iL List.nodup_range (List.mem_range.2 hj) (fun q _ hq=>by rw[kW hjp (Ne.symm hq)];grind),if_neg hjp,mJ];grind
theorem IU(h:Rr n k g pv)(hl:pv.length<=n)(hpm:∀p∈pv,p<(m:Int)){d w:Nat->Rat}(hd:mi n m g d)(hw:∀q,q<m->(q:Int)∉pv->bK (List.range m) (fun j=>fN g pv q j*w j)=0):bK (List.range m) (fun j=>d j*w j)=0:=by
 rw[bw (h:=fun j=>bK (List.range m) fun q=>(if(q:Int)∈pv then 0 else d q)*(fN g pv q j*w j)) (fun j hj=>by
  rw[Ek h hl hpm hd (List.mem_range.1 hj),Rat.mul_comm,←fL];exact bw fun q _=>by grind),vc]
 refine gK fun q hq=>?_;rw[fL];by_cases e:(q:Int)∈pv
 ·rw[if_pos e];grind
 ·rw[hw q (List.mem_range.1 hq) e];grind
theorem ta{g:Nat->Rat}:∀{l l':List Nat},bK (l++l') g=bK l g+bK l' g
 |[],l'=>by show bK l' g=0+bK l' g;grind
 |a::l,l'=>by
  show g a+bK (l++l') g=g a+bK l g+bK l' g;rw[ta];grind
theorem ot{g:Nat->Rat}:bK (List.range (m+1)) g=bK (List.range m) g+g m:=by
 rw[List.range_succ,ta];show _+(g m+0)=_
 grind
def jj(g:Nat->Nat->Rat)(pv:List Int)(c j:Nat):Rat:=if(j:Int)∈pv then g (pv.idxOf (j:Int)) c else 0
theorem C5(h:Rr n k g pv)(hl:pv.length<=n)(hz:uy n (m+1) g pv.length)(hpm:∀p∈pv,p<(m:Int)):mi n (m+1) g (fun j=>if j=m then-1 else jj g pv m j):=by
 intro i hi;by_cases hip:i<pv.length
 ·obtain⟨a,e1,e2,e3,e4⟩:=h.bY i hip;have ham:a<m:=by have:=hpm _ (List.getElem_mem hip);omega
  rw[ot];dsimp only;rw[if_pos rfl,iL List.nodup_range (List.mem_range.2 ham) (fun j hj hja=>?_)]
  ·rw[if_neg (by omega),e3 i hi,if_pos rfl];unfold jj;rw[if_pos (e1▸List.getElem_mem hip),←e1,h.idx hip];grind
  ·have hjm:=List.mem_range.1 hj;rw[if_neg (by omega)];unfold jj;by_cases hjp:(j:Int)∈pv
   ·obtain⟨p,hp,ep⟩:=List.getElem_of_mem hjp;obtain⟨b,f1,f2,f3,f4⟩:=h.bY p hp;have:b=j:=by omega
    subst this;have hpi:¬i=p:=fun e=>by subst e;omega
    rw[f3 i hi,if_neg hpi];grind
   ·rw[if_neg hjp];grind
 ·exact gK fun j hj=>by rw[hz i j (by omega) hi (List.mem_range.1 hj)];grind
theorem BL(h:Rr n k g pv)(hl:pv.length<=n){v:Nat->Rat}(hv:mi n (m+1) g (fun j=>if j=m then-1 else v j)):(m:Int)∉pv:=by
 intro hm;obtain⟨p,hp,ep⟩:=List.getElem_of_mem hm;obtain⟨q,e1,e2,e3,e4⟩:=h.bY p hp;have hq:q=m:=by omega
 subst hq;have:=hv p (by omega);rw[ot]at this;dsimp only at this;rw[if_pos rfl,e3 p (by omega),if_pos rfl,gK (fun j hj=>by rw[e4 j (List.mem_range.1 hj)];grind)]at this;exact absurd this (by decide+kernel)
def bR(pv:List Int)(m:Nat):List Nat:=(List.range m).filter fun q:Nat=>decide ((q:Int)∉pv)
theorem qT{q:Nat}:q∈bR pv m↔q<m/\(q:Int)∉pv:=by unfold bR;simp
theorem xO:(bR pv m).Nodup:=List.nodup_range.filter _
theorem BV(h:Rr n k g pv)(hpm:∀p∈pv,p<(m:Int)):(bR pv m).length+pv.length=m:=by
 have h1:((List.range m).filter fun q:Nat=>decide ((q:Int)∈pv)).length=pv.length:=by
  rw[←List.length_map (f:=fun q:Nat=>(q:Int))];refine((List.perm_ext_iff_of_nodup ?_ (lV h.D9)).2 fun x=>?_).length_eq
  ·refine(List.nodup_range.filter _).map (f:=fun q:Nat=>(q:Int)) (fun a b hab=>?_);omega
  ·rw[List.mem_map]
   constructor
   ·rintro⟨q,hq,rfl⟩;simpa using(List.mem_filter.1 hq).2
   ·intro hx;obtain⟨p,hp,ep⟩:=List.getElem_of_mem hx;obtain⟨q,e1,e2,_⟩:=h.bY p hp;have:=hpm x hx;exact⟨q,List.mem_filter.2 ⟨List.mem_range.2 (by omega),by rw[←e1,ep];simpa using hx⟩,by omega⟩
 have h2:∀l:List Nat,(l.filter fun q:Nat=>decide ((q:Int)∉pv)).length+(l.filter fun q:Nat=>decide ((q:Int)∈pv)).length=l.length:=by
  intro l
  induction l with
  |nil=>rfl
  |cons a l ih=>
   by_cases e:(a:Int)∈pv
   ·rw[List.filter_cons_of_neg (by simpa using e),List.filter_cons_of_pos (by simpa using e),List.length_cons,List.length_cons];omega
   ·rw[List.filter_cons_of_pos (by simpa using e),List.filter_cons_of_neg (by simpa using e),List.length_cons,List.length_cons];omega
 have:=h2 (List.range m);rw[h1,List.length_range]at this;exact this
def gO(g:Nat->Nat->Rat)(pv:List Int)(m i j:Nat):Rat:=fN g pv ((bR pv m).getD i 0) j
theorem lA{i:Nat}(hi:i<(bR pv m).length){j:Nat}:gO g pv m i j=fN g pv (bR pv m)[i] j:=by
 unfold gO;rw[List.getD_eq_getElem?_getD,List.getElem?_eq_getElem hi];rfl
theorem Bw:indep (bR pv m).length m (gO g pv m):=fun c hc i hi=>by
 have hm:=qT.1 (List.getElem_mem hi);have:=hc (bR pv m)[i] hm.1;rw[iL List.nodup_range (List.mem_range.2 hi) (fun i' hi' hne=>by
  have hi':=List.mem_range.1 hi';rw[lA hi',kW hm.2 (fun e=>hne ((List.getElem_inj xO).1 e).symm)];grind),lA hi,mJ]at this
 grind
theorem Dz(h:Rr n k g pv)(hl:pv.length<=n)(hpm:∀p∈pv,p<(m:Int)){d:Nat->Rat}(hd:mi n m g d)(w:Nat->Rat):
  mi (bR pv m).length m (gO g pv m) w↔mi ((bR pv m).length+1) m (fun i j=>if i<(bR pv m).length then gO g pv m i j else d j) w:=by
 constructor
 ·intro hw i hi;by_cases e:i<(bR pv m).length
  ·simp only[if_pos e];exact hw i e
  ·simp only[if_neg e];refine IU h hl hpm hd fun q hq hqp=>?_;obtain⟨r,hr,er⟩:=List.getElem_of_mem (qT.2 ⟨hq,hqp⟩);have:=hw r hr;rw[←er];simpa only[lA hr]using this
 ·intro hw i hi;have:=hw i (by omega);simpa only[if_pos hi]using this
end Go.Am
namespace Go.Am
variable {n m k:Nat} {f g:Nat->Nat->Rat} {pv:List Int}
def P2(f:Nat->Nat->Rat)(a b c d:Nat):Rat:=f a c*f b d-f b c*f a d
def P3(f:Nat->Nat->Rat)(a b e c d h:Nat):Rat:=f a c*P2 f b e d h-f b c*P2 f a e d h+f e c*P2 f a b d h
def dg:Nat->(Nat->Nat->Rat)->Rat
 |0,_=>1
 |1,f=>f 0 0
 |2,f=>P2 f 0 1 0 1
 |3,f=>P3 f 0 1 2 0 1 2
 |4,f=>f 0 0*P3 f 1 2 3 1 2 3-f 1 0*P3 f 0 2 3 1 2 3+f 2 0*P3 f 0 1 3 1 2 3-f 3 0*P3 f 0 1 2 1 2 3
 |_,_=>0
theorem kU(hn:n<=4)(h:∀i j,i<n->j<n->f i j=g i j):dg n f=dg n g:=by
 match n,hn with
 |0,_=>rfl
 |1,_=>exact h 0 0 (by decide) (by decide)
 |2,_=>
  simp only[dg,P2];rw[h 0 0 (by decide) (by decide),h 0 1 (by decide) (by decide),h 1 0 (by decide) (by decide),h 1 1 (by decide) (by decide)]
 |3,_=>
  simp only[dg,P3,P2];rw[h 0 0 (by decide) (by decide),h 0 1 (by decide) (by decide),h 1 0 (by decide) (by decide),h 1 1 (by decide) (by decide),h 0 2 (by decide) (by decide),h 1 2 (by decide) (by decide),h 2 0 (by decide) (by decide),h 2 1 (by decide) (by decide),h 2 2 (by decide) (by decide)]
 |4,_=>
  simp only[dg,P3,P2];rw[h 0 0 (by decide) (by decide),h 0 1 (by decide) (by decide),h 1 0 (by decide) (by decide),h 1 1 (by decide) (by decide),h 0 2 (by decide) (by decide),h 1 2 (by decide) (by decide),h 2 0 (by decide) (by decide),h 2 1 (by decide) (by decide),h 2 2 (by decide) (by decide),
   h 0 3 (by decide) (by decide),h 1 3 (by decide) (by decide),h 2 3 (by decide) (by decide),h 3 0 (by decide) (by decide),h 3 1 (by decide) (by decide),h 3 2 (by decide) (by decide),h 3 3 (by decide) (by decide)]
theorem m_(hn:n<=4){row:Nat}(hr:row<n)(s:Rat):dg n (cw f row s 0)=s*dg n f:=by
 match n,hn with
 |0,_=>omega
 |1,_=>obtain rfl:row=0:=by omega
      simp[dg,cw];grind
 |2,_=>rcases(show row=0\/row=1 by omega)with rfl|rfl<;>simp[dg,P2,cw]<;>grind
 |3,_=>rcases(show row=0\/row=1\/row=2 by omega)with rfl|rfl|rfl<;>simp[dg,P2,P3,cw]<;>grind
 |4,_=>rcases(show row=0\/row=1\/row=2\/row=3 by omega)with rfl|rfl|rfl|rfl<;>simp[dg,P2,P3,cw]<;>grind
theorem ou(hn:n<=4){row:Nat}(hr:row<n){M:Nat->Rat}(hM:M row=0):dg n (fun i j=>f i j-M i*f row j)=dg n f:=by
 match n,hn with
 |0,_=>omega
 |1,_=>obtain rfl:row=0:=by omega
      simp only[dg,hM];grind
 |2,_=>rcases(show row=0\/row=1 by omega)with rfl|rfl<;>simp only[dg,P2,hM]<;>grind
 |3,_=>rcases(show row=0\/row=1\/row=2 by omega)with rfl|rfl|rfl<;>simp only[dg,P2,P3,hM]<;>grind
 |4,_=>rcases(show row=0\/row=1\/row=2\/row=3 by omega)with rfl|rfl|rfl|rfl<;>simp only[dg,P2,P3,hM]<;>grind
theorem qN(hn:n<=4){a b:Nat}(ha:a<n)(hb:b<n)(hab:a≠b):dg n (aY f a b)=-dg n f:=by
 match n,hn with
 |0,_=>omega
 |1,_=>omega
 |2,_=>rcases(show(a=0/\b=1)\/(a=1/\b=0)by omega)with⟨rfl,rfl⟩|⟨rfl,rfl⟩<;>simp[dg,P2,aY]<;>grind
 |3,_=>rcases(show a=0\/a=1\/a=2 by omega)with rfl|rfl|rfl<;>rcases(show b=0\/b=1\/b=2 by omega)with rfl|rfl|rfl<;>first|exact absurd rfl hab|(simp[dg,P2,P3,aY];grind)
 |4,_=>rcases(show a=0\/a=1\/a=2\/a=3 by omega)with rfl|rfl|rfl|rfl<;>rcases(show b=0\/b=1\/b=2\/b=3 by omega)with rfl|rfl|rfl|rfl<;>first|exact absurd rfl hab|(simp[dg,P2,P3,aY];grind)
theorem Bt(hn:n<=4)(h:∀i j,i<n->j<n->f i j=if i=j then 1 else 0):dg n f=1:=by
 rw[kU hn h]
 match n,hn with
 |0,_=>rfl
 |1,_=>rfl
 |2,_=>decide+kernel
 |3,_=>decide+kernel
 |4,_=>decide+kernel
theorem vB(hn:n<=4)(h0:0<n)(h:∀j,j<n->f (n-1) j=0):dg n f=0:=by
 match n,hn with
 |0,_=>omega
 |1,_=>exact h 0 (by decide)
 |2,_=>
  have a:=h 0 (by decide);have b:=h 1 (by decide);simp only[Nat.reduceSub]at a b;simp only[dg,P2];rw[a,b];grind
 |3,_=>
  have a:=h 0 (by decide);have b:=h 1 (by decide);have c:=h 2 (by decide);simp only[Nat.reduceSub]at a b c;simp only[dg,P3,P2];rw[a,b,c];grind
 |4,_=>
  have a:=h 0 (by decide);have b:=h 1 (by decide);have c:=h 2 (by decide);have d:=h 3 (by decide);simp only[Nat.reduceSub]at a b c d;simp only[dg,P3,P2];rw[a,b,c,d];grind
theorem yL(hn:n<4)(h:∀i,i<n->f (i+1) 0=0):dg (n+1) f=f 0 0*dg n (fun i j=>f (i+1) (j+1)):=by
 match n,hn with
 |0,_=>simp only[dg];grind
 |1,_=>
  have a:=h 0 (by decide);simp only[dg,P2];rw[a];grind
 |2,_=>
  have a:=h 0 (by decide);have b:=h 1 (by decide);simp only[dg,P3,P2];rw[a,b];grind
 |3,_=>
  have a:=h 0 (by decide);have b:=h 1 (by decide);have c:=h 2 (by decide);simp only[dg,P3,P2];rw[a,b,c];grind
theorem yp(hn:n<4)(h:f 0 0≠0):dg (n+1) f=f 0 0*dg n (sa f):=by
 rw[←ou (row:=0) (M:=fun i=>if i=0 then 0 else f i 0/f 0 0) (show n+1<=4 by omega) (by omega) (by simp),yL hn (fun i _=>?_)]
 ·have e:(fun i j=>f (i+1) (j+1)-(fun i=>if i=0 then 0 else f i 0/f 0 0) (i+1)*f 0 (j+1))=sa f:=by
   funext i j
   unfold sa;simp
  simp only at e|-;rw[e,if_pos trivial];grind
 ·simp only[Nat.add_one_ne_zero,if_false];rw[Rat.div_mul_cancel h];grind
theorem mo:∀{n:Nat} {f:Nat->Nat->Rat},n<=4->kf n f=dg n f
 |0,_,_=>rfl
 |n+1,f,hn=>by
  unfold kf;by_cases h:f 0 0=0
  ·rw[if_neg (by simpa using h)];by_cases hp:cX f 0 (n+1) 0<n+1
   ·rw[if_pos hp];have hne:=qf (f:=f) (k:=0) (n+1) 0 rfl hp;generalize cX f 0 (n+1) 0=p at*;have hp0:p≠0:=fun e=>hne (e▸h);have e0:aY f 0 p 0 0=f p 0:=by unfold aY;rw[if_neg (Ne.symm hp0),if_pos rfl]
    rw[mo (by omega)];have:=yp (n:=n) (f:=aY f 0 p) (by omega) (by rw[e0];exact hne);rw[e0,qN hn (by omega) hp (Ne.symm hp0)]at this
    grind
   ·rw[if_neg hp];have:=oF (f:=f) (k:=0) (n+1) 0 rfl hp;rw[yL (by omega) (fun i hi=>this (i+1) (Nat.zero_le _) (Nat.succ_lt_succ hi)),h];grind
  ·rw[if_pos h,yp (by omega) h,mo (by omega)]
def lP(n:Nat)(f B:Nat->Nat->Rat)(i j:Nat):Rat:=bK (List.range n) fun l=>f i l*B l j
theorem Bk{a b:Nat}{B:Nat->Nat->Rat}:lP n (aY f a b) B=aY (lP n f B) a b:=by
 funext i j
 unfold lP aY;by_cases e1:i=b
 ·simp only[if_pos e1]
 ·simp only[if_neg e1];by_cases e2:i=a
  ·simp only[if_pos e2]
  ·simp only[if_neg e2]
theorem uC{row:Nat}{s:Rat}{B:Nat->Nat->Rat}:lP n (cw f row s 0) B=cw (lP n f B) row s 0:=by
 funext i j
 unfold lP cw;by_cases e:i=row
 ·simp only[if_pos (And.intro e (Nat.zero_le _)),Nat.zero_le,and_true,if_pos e];rw[Rat.mul_comm,←fL];exact bw fun l _=>by grind
 ·simp only[Nat.zero_le,and_true,if_neg e]
theorem vZ{row k:Nat}{B:Nat->Nat->Rat}:lP n (fq f row k 0) B=fun i j=>lP n f B i j-elimM f row k i*lP n f B row j:=by
 funext i j
 unfold lP;have:bK (List.range n) (fun l=>f i l*B l j)-elimM f row k i*bK (List.range n) (fun l=>f row l*B l j)=bK (List.range n) (fun l=>f i l*B l j)+(-(elimM f row k i))*bK (List.range n) (fun l=>f row l*B l j):=by grind
 rw[this,←fL,←ja];exact bw fun l _=>by rw[pH];grind
theorem q6{row k:Nat}:elimM f row k row=0:=by unfold elimM;rw[if_pos rfl]
theorem tu(hn:n<=4){row k:Nat}(hr:row<n):dg n (fq f row k 0)=dg n f:=by
 have e:fq f row k 0=fun i j=>f i j-elimM f row k i*f row j:=by
  funext i j;exact pH
 rw[e,ou hn hr q6]
def BI(n:Nat)(f0 f:Nat->Nat->Rat):Prop:=∃c:Rat,c≠0/\dg n f0=c*dg n f/\∀B,dg n (lP n f0 B)=c*dg n (lP n f B)
theorem BY(hn:n<=4){f0:Nat->Nat->Rat}{row k at':Nat}(hpl:row<n)(hat:at'<n)(hp:f at' k≠0)(hJ:BI n f0 f):BI n f0 (iW f row k at' 0):=by
 obtain⟨c,h0,h1,h2⟩:=hJ;have hs:=so (f:=f) (row:=row) hp;unfold iW;generalize 1/aY f row at' row k=s at*;by_cases e:row=at'
 ·have e':aY f row at'=f:=by
   funext i j
   unfold aY;rw[e];by_cases h:i=at'
   ·rw[if_pos h,h]
   ·rw[if_neg h,if_neg h]
  rw[e'];refine⟨c/s,?_,?_,fun B=>?_⟩
  ·intro h;have:=Rat.div_mul_cancel (a:=c) hs;rw[h]at this;grind
  ·rw[tu hn hpl,m_ hn hpl,h1];have:=Rat.div_mul_cancel (a:=c) hs
   grind
  ·rw[vZ,ou hn hpl q6,uC,m_ hn hpl,h2];have:=Rat.div_mul_cancel (a:=c) hs
   grind
 ·refine⟨-(c/s),?_,?_,fun B=>?_⟩
  ·intro h;have:=Rat.div_mul_cancel (a:=c) hs;grind
  ·rw[tu hn hpl,m_ hn hpl,qN hn hpl hat e,h1];have:=Rat.div_mul_cancel (a:=c) hs
   grind
  ·rw[vZ,ou hn hpl q6,uC,m_ hn hpl,Bk,qN hn hpl hat e,h2];have:=Rat.div_mul_cancel (a:=c) hs
   grind
theorem BP(hn:n<=4)(f0:Nat->Nat->Rat):l3 n m (fun _ f _=>BI n f0 f) where
 step:=fun _ _ _ _ _ hpl _ hat hp _ hJ=>BY hn hpl hat hp hJ
 skip:=fun _ _ _ _ _ _ h=>h
theorem Br{B:Nat->Nat->Rat}(h:∀i j,i<n->j<n->g i j=if i=j then 1 else 0){i j:Nat}(hi:i<n):lP n g B i j=B i j:=by
 unfold lP;rw[iL List.nodup_range (List.mem_range.2 hi) (fun l hl hne=>by rw[h i l hi (List.mem_range.1 hl),if_neg (Ne.symm hne)];grind),h i i hi hi,if_pos rfl];grind
theorem A4(hn:n<=4){f0:Nat->Nat->Rat}(hJ:BI n f0 g)(h:∀i j,i<n->j<n->g i j=if i=j then 1 else 0):dg n f0≠0/\∀B,dg n (lP n f0 B)=dg n f0*dg n B:=by
 obtain⟨c,h0,h1,h2⟩:=hJ;rw[Bt hn h]at h1;have h1':dg n f0=c:=by grind
 refine⟨by rw[h1'];exact h0,fun B=>?_⟩;rw[h2 B,h1',kU (g:=B) hn (fun i j hi _=>Br h hi)]
theorem AZ(hn:n<=4)(h0:0<n){f0:Nat->Nat->Rat}(hJ:BI n f0 g)(h:∀j,j<n->g (n-1) j=0):dg n f0=0/\∀B,dg n (lP n f0 B)=dg n f0*dg n B:=by
 obtain⟨c,_,h1,h2⟩:=hJ;rw[vB hn h0 h]at h1;refine⟨by grind,fun B=>?_⟩;rw[h2 B,vB hn h0 (fun j _=>?_)]
 ·grind
 ·unfold lP;exact gK fun l hl=>by rw[h l (List.mem_range.1 hl)];grind
end Go.Am
namespace Go.Am
variable {n m k:Nat} {g:Nat->Nat->Rat} {pv:List Int}
theorem yg(hn:pv.Nodup)(hp:∀p∈pv,0<=p){i:Nat}(hi:i<pv.length)(h z:Nat->Rat):((List.range k).map fun j:Nat=>if(j:Int)∈pv.take i then h (pv.idxOf (j:Int))else z j).set (pv[i]).toNat (h i)=(List.range k).map fun j:Nat=>if(j:Int)∈pv.take (i+1)then h (pv.idxOf (j:Int))else z j:=by
 rw[ow];apply List.map_congr_left;intro j _;have h0:=hp _ (List.getElem_mem hi);have ht:(j:Int)∈pv.take (i+1)↔(j:Int)∈pv.take i\/(j:Int)=pv[i]:=by
  rw[List.take_succ_eq_append_getElem hi,List.mem_append,List.mem_singleton]
 by_cases e:j=pv[i].toNat
 ·have e':(j:Int)=pv[i]:=by omega
  rw[if_pos e,if_pos (ht.2 (.inr e')),e',hn.idxOf_getElem i hi]
 ·have e':(j:Int)≠pv[i]:=by omega
  rw[if_neg e];by_cases e2:(j:Int)∈pv.take i
  ·rw[if_pos e2,if_pos (ht.2 (.inl e2))]
  ·rw[if_neg e2,if_neg (fun h=>(ht.1 h).elim e2 e')]
theorem HG(hn:n<=6)(hk:k<m\/pv=[])(hlen:pv.length<=n)(hnd:pv.Nodup)(hr:∀p∈pv,0<=p/\p<(k:Int)):
  Loop (fun(s:Int×(List Rat))=>ij (k:Int) (ay n m g) pv s.1 s.2) (0,List.replicate k (0:Rat))=some ((List.range k).map (jj g pv k)):=by
 have hL:=dH (body:=fun(s:Int×(List Rat))=>ij (k:Int) (ay n m g) pv s.1 s.2) pv.length (fun i=>(List.range k).map fun j:Nat=>if(j:Int)∈pv.take i then(fun r=>g r k) (pv.idxOf (j:Int))else(fun _=>(0:Rat)) j) ((List.range k).map (jj g pv k)) (fun i hi=>by
  unfold ij;have hkm:k<m:=by
   rcases hk with h|h
   ·exact h
   ·subst h;simp at hi
  obtain⟨h1,h2⟩:=hr pv[i] (List.getElem_mem hi);rw[if_pos (decide_eq_true (by omega)),dX hi,Option.bind_some,cj (show i<n by omega),Option.bind_some,eN hkm,Option.bind_some,pR pv[i].toNat (by omega) (by simp;omega),Option.bind_some,cr hi (by omega),yg hnd (fun p hp=>(hr p hp).1) hi (fun r=>g r k)]) (by
  unfold ij;rw[if_neg (by simp),List.take_length]
  rfl)
 have e0:List.replicate k (0:Rat)=(List.range k).map fun j:Nat=>if(j:Int)∈pv.take 0 then(fun r=>g r k) (pv.idxOf (j:Int))else(fun _=>(0:Rat)) j:=by
  apply List.ext_getElem
  ·simp
  ·intro j h1 h2;simp
 rw[e0];exact hL
theorem HK{c:Nat}(hn:n<=6)(hk:c<m\/pv=[])(hck:c<k)(hlen:pv.length<=n)(hnd:pv.Nodup)(hr:∀p∈pv,0<=p/\p<(k:Int))(hc:(c:Int)∉pv):
  Loop (fun(s:Int×(List Rat))=>ic (ay n m g) pv (c:Int) s.1 s.2) (0,(List.replicate k (0:Rat)).set c 1)=some ((List.range k).map (fN g pv c)):=by
 have hL:=dH (body:=fun(s:Int×(List Rat))=>ic (ay n m g) pv (c:Int) s.1 s.2) pv.length (fun i=>(List.range k).map fun j:Nat=>if(j:Int)∈pv.take i then(fun r=>-(g r c)) (pv.idxOf (j:Int))else(fun j=>if j=c then(1:Rat)else 0) j) ((List.range k).map (fN g pv c)) (fun i hi=>by
  unfold ic;have hkm:c<m:=by
   rcases hk with h|h
   ·exact h
   ·subst h;simp at hi
  obtain⟨h1,h2⟩:=hr pv[i] (List.getElem_mem hi);have en:tO (g i c)=some (-(g i c)):=rfl;rw[if_pos (decide_eq_true (by omega)),dX hi,Option.bind_some,cj (show i<n by omega),Option.bind_some,eN hkm,Option.bind_some,en,Option.bind_some,pR pv[i].toNat (by omega) (by simp;omega),Option.bind_some,cr hi (by omega),yg hnd (fun p hp=>(hr p hp).1) hi (fun r=>-(g r c))]) (by
  unfold ic;rw[if_neg (by simp),List.take_length]
  congr 2
  apply List.map_congr_left;intro j _;unfold fN;by_cases e:j=c
  ·subst e;simp[hc]
  ·rw[if_neg e];by_cases e2:(j:Int)∈pv
   ·rw[if_pos e2,if_pos e2]
   ·simp[e,e2])
 have e0:(List.replicate k (0:Rat)).set c 1=(List.range k).map fun j:Nat=>if(j:Int)∈pv.take 0 then(fun r=>-(g r c)) (pv.idxOf (j:Int))else(fun j=>if j=c then(1:Rat)else 0) j:=by
  apply List.ext_getElem
  ·simp
  ·intro j h1 h2;by_cases e:j=c
   ·subst e;rw[List.getElem_set_self];simp
   ·rw[List.getElem_set_ne (Ne.symm e)];simp[e]
 rw[e0];exact hL
theorem zK{i:Nat}:bR pv (i+1)=bR pv i++(if(i:Int)∈pv then []else [i]):=by
 unfold bR;rw[List.range_succ,List.filter_append]
 congr 1
 by_cases e:(i:Int)∈pv
 ·rw[if_pos e,List.filter_cons_of_neg (by simpa using e)];rfl
 ·rw[if_neg e,List.filter_cons_of_pos (by simpa using e)];rfl
theorem uw{i:Nat}:(bR pv i).length<=i:=by
 unfold bR;exact Nat.le_trans (List.length_filter_le _ _) (by simp)
theorem HF(hn:n<=6)(hk:k<=30)(hkm:k<=m)(hlen:pv.length<=n)(hnd:pv.Nodup)(hr:∀p∈pv,0<=p/\p<(k:Int)):
  Loop (fun(s:Int×(List (List Rat)))=>gl (k:Int) (ay n m g) pv s.1 s.2) (0,([]:List (List Rat)))=some (ay (bR pv k).length k (gO g pv k)):=by
 have hL:=dH (body:=fun(s:Int×(List (List Rat)))=>gl (k:Int) (ay n m g) pv s.1 s.2) k (fun i=>(bR pv i).map fun c=>(List.range k).map (fN g pv c)) ((bR pv k).map fun c=>(List.range k).map (fN g pv c)) (fun i hi=>by
  unfold gl;rw[if_pos (decide_eq_true (by omega)),rL pv _ (by omega),Option.bind_some,zK];by_cases hc:(i:Int)∈pv
  ·rw[if_pos (decide_eq_true hc),Option.bind_some,cr hi (by omega),if_pos hc,List.append_nil]
  ·rw[if_neg (by rw[decide_eq_true_eq];exact hc),aG (show(0:Int)<=(k:Int)/\(56:Int)*(k:Int)<=281474976710656/\((k:Int):Int)<=9223372036854775807 by omega),oa,Option.bind_some];rw[dX (show i<(List.replicate ((k:Int)).toNat (0:Rat)).length by simp;omega),Option.bind_some];have hv:=HK (n:=n) (m:=m) (g:=g) (k:=k) (c:=i) hn (.inl (by omega)) hi hlen hnd hr hc;have hfl:=uw (pv:=pv) (i:=i);simp only[Int.toNat_natCast];rw[hv,Option.bind_some,Option.bind_some,aG (by simp only[List.length_map,List.length_singleton];omega),Option.bind_some,cr hi (by omega),if_neg hc,List.map_append]
   rfl) (by
  unfold gl;rw[if_neg (by simp)])
 have e1:(bR pv k).map (fun c=>(List.range k).map (fN g pv c))=ay (bR pv k).length k (gO g pv k):=by
  unfold ay;apply List.ext_getElem
  ·simp
  ·intro i h1 h2;rw[List.length_map]at h1;simp only[List.getElem_map,List.getElem_range];apply List.map_congr_left;intro j _;rw[lA h1]
 have:Loop (fun(s:Int×(List (List Rat)))=>gl (k:Int) (ay n m g) pv s.1 s.2) (0,([]:List (List Rat)))=_:=hL;rw[this,e1]
theorem x8{C:Nat}(hg:k_ g C)(hC:1<=C)(q j:Nat):sz (fN g pv q j)<=C:=by
 unfold fN
 split
 ·exact Nat.le_trans (show sz (1:Rat)<=1 by decide+kernel) hC
 ·split
  ·rw[pL];exact hg _ _
  ·exact Nat.le_trans (show sz (0:Rat)<=1 by decide+kernel) hC
theorem z_{C:Nat}(hg:k_ g C)(hC:1<=C)(q j:Nat):sz (jj g pv q j)<=C:=by
 unfold jj
 split
 ·exact hg _ _
 ·exact Nat.le_trans (show sz (0:Rat)<=1 by decide+kernel) hC
structure EX(n m:Nat)(f g:Nat->Nat->Rat)(pv:List Int):Prop where
 rr:Rr n m g pv
 le:pv.length<=n
 zr:uy n m g pv.length
 pm:∀p∈pv,0<=p/\p<(m:Int)
 mi:∀v,mi n m g v↔mi n m f v
theorem FD{k':Nat}{f:Nat->Nat->Rat}(hk:k'<=m)(h1:Rr n k' g pv)(h2:∀v,Go.Am.mi n m g v↔Go.Am.mi n m f v)(hz:jA g n pv.length k')(ho:k'=m\/pv.length=n)(hl:pv.length<=n):EX n m f g pv where
 rr:=⟨fun p hp=>by
  obtain⟨q,e1,e2,e3⟩:=h1.bY p hp;exact⟨q,e1,by omega,e3⟩,h1.D9⟩
 le:=hl
 zr:=fun i j hi cZ hj=>by
  rcases ho with h|h
  ·subst h;exact hz i j hi cZ hj
  ·omega
 pm:=fun p hp=>by
  obtain⟨i,hi,rfl⟩:=List.getElem_of_mem hp;obtain⟨q,e1,e2,_⟩:=h1.bY i hi;omega
 mi:=h2
theorem yb{f:Nat->Nat->Rat}:Rr n 0 f []:=⟨fun p hp=>by simp at hp,List.Pairwise.nil⟩
theorem rO{J:Nat->(Nat->Nat->Rat)->List Int->Prop}(n m:Nat)(f:Nat->Nat->Rat){C:Nat}(kp:l3 n m J)(hJ:J 0 f [])(hC:2<=C)(hCn:C*8^n<=1000000000)(hn:n<=6)(hm:m<=30)(h0:n=0->m=0)(hf:k_ f C):
  ∃g pv,(∃k',J k' g pv)/\eY (ay n m f)=some (ay n m g,pv)/\F3 C n m g pv/\EX n m f g pv:=by
 obtain⟨g,pv,⟨k',hk',⟨⟨hJ1,hJ2⟩,hJ3⟩,hz,hor⟩,e1,_,hR⟩:=tI n m f ((xC.and (A7 f)).and kp) ⟨⟨yb,fun _=>Iff.rfl⟩,hJ⟩ hC hCn hn hm h0 hf;exact⟨g,pv,⟨k',hJ3⟩,e1,hR,FD hk' hJ1 hJ2 hz hor hR.len⟩
theorem sI{M:List (List Rat)}{b:List Rat}{u:Nat->Rat}:mi n (aJ M+1) (m6 M b) u↔∀i,i<n->bK (List.range (aJ M)) (fun j=>fZ M i j*u j)+b.getD i 0*u (aJ M)=0:=by
 have e:∀i,bK (List.range (aJ M+1)) (fun j=>m6 M b i j*u j)=bK (List.range (aJ M)) (fun j=>fZ M i j*u j)+b.getD i 0*u (aJ M):=fun i=>by
  rw[ot];have e1:m6 M b i (aJ M)=b.getD i 0:=by unfold m6;rw[if_neg (by omega)]
  rw[e1]
  congr 1
  exact bw fun j hj=>by
   have:m6 M b i j=fZ M i j:=by unfold m6;rw[if_pos (List.mem_range.1 hj)]
   rw[this]
 unfold mi
 constructor
 ·intro h i hi;rw[←e];exact h i hi
 ·intro h i hi;rw[e];exact h i hi
theorem C6{M:List (List Rat)}{b:List Rat}{v:Nat->Rat}{C:Nat}(h:right M=true)(hl:M.length<=6)(hc:aJ M<=20)(hb:b.length=M.length)(hC:2<=C)(hCn:C*8^M.length<=1000000000)(hf:k_ (m6 M b) C)
  (hv:∀i,i<M.length->bK (List.range (aJ M)) (fun j=>fZ M i j*v j)=b.getD i 0):
  ∃g pv,oJ M b=some ((List.range (aJ M)).map (jj g pv (aJ M)),ay (bR pv (aJ M)).length (aJ M) (gO g pv (aJ M)),0)/\Rr M.length (pk M) g pv/\pv.length<=M.length/\k_ g (C*8^pv.length)/\(∀p∈pv,0<=p/\p<(aJ M:Int))/\uy M.length (aJ M) g pv.length/\
   (∀i,i<M.length->bK (List.range (aJ M)) (fun j=>fZ M i j*jj g pv (aJ M) j)=b.getD i 0)/\
   (∀q,q<aJ M->(q:Int)∉pv->∀i,i<M.length->bK (List.range (aJ M)) (fun j=>fZ M i j*fN g pv q j)=0)/\
   (∀d:Nat->Rat,(∀i,i<M.length->bK (List.range (aJ M)) (fun j=>fZ M i j*d j)=0)->mi M.length (aJ M) g d):=by
 have hag:ay M.length (aJ M+1) (m6 M b)=ay M.length (pk M) (m6 M b):=by
  unfold pk;by_cases h0:M.length=0
  ·rw[h0,if_pos rfl];rfl
  ·rw[if_neg h0]
 obtain⟨g,pv,_,e1,hR,hD⟩:=rO (J:=fun _ _ _=>True) M.length (pk M) (m6 M b) ⟨fun _ _ _ _ _ _ _ _ _ _ _=>trivial,fun _ _ _ _ _ _ _=>trivial⟩ trivial hC hCn hl (by unfold pk;split<;>omega) (fun h0=>by unfold pk;rw[if_pos h0]) hf;have hpl:=hD.le;have hm:(aJ M:Int)∉pv:=by
  by_cases h0:M.length=0
  ·have:pv=[]:=List.eq_nil_of_length_eq_zero (by omega);rw[this];exact List.not_mem_nil
  ·have ha:pk M=aJ M+1:=by unfold pk;rw[if_neg h0]
   have hrr:=hD.rr;have hnl:=hD.mi;rw[ha]at hrr hnl;refine BL hrr hpl (v:=v) ((hnl _).2 (sI.2 fun i hi=>?_));rw[if_pos rfl,←hv i hi,bw (h:=fun j=>fZ M i j*v j) (fun j hj=>by rw[if_neg (by have:=List.mem_range.1 hj;omega)])]
   grind
 have hrg:∀p∈pv,0<=p/\p<(aJ M:Int):=fun p hp=>by
  obtain⟨h1,h2⟩:=hR.JU p hp;have h3:p≠(aJ M:Int):=fun e=>hm (e▸hp);refine⟨h1,?_⟩;unfold pk at h2;by_cases h0:M.length=0
  ·rw[if_pos h0]at h2;omega
  ·rw[if_neg h0]at h2;omega
 have hkm:aJ M<pk M\/pv=[]:=by
  unfold pk;by_cases h0:M.length=0
  ·right
   exact List.eq_nil_of_length_eq_zero (by omega)
  ·left;rw[if_neg h0];omega
 have hkm2:aJ M<=pk M:=by
  unfold pk;by_cases h0:M.length=0
  ·rw[if_pos h0];have:aJ M=0:=by unfold aJ;rw[jE (by omega)];rfl
   omega
  ·rw[if_neg h0];omega
 have hnd:=lV hD.rr.D9;have hS:oJ M b=some ((List.range (aJ M)).map (jj g pv (aJ M)),ay (bR pv (aJ M)).length (aJ M) (gO g pv (aJ M)),0):=by
  unfold oJ;rw[dP M (by omega),h];simp only[Option.bind_some,Bool.not_true,Bool.false_eq_true,if_false];rw[if_neg (by simp[hb]),Ih h hl hc hb];simp only[Option.bind_some];rw[hag,e1];simp only[Option.bind_some];rw[rL pv _ (by omega)];simp only[Option.bind_some];rw[if_neg (by rw[decide_eq_true_eq];exact hm),aG (by omega)];simp only[Int.toNat_natCast];rw[HG hl hkm hpl hnd hrg,Option.bind_some,Option.bind_some,HF hl (by omega) hkm2 hpl hnd hrg]
  rfl
 refine⟨g,pv,hS,hD.rr,hpl,hR.sz,hrg,fun i j hi cZ hj=>hD.zr i j hi cZ (by omega),?_⟩;by_cases h0:M.length=0
 ·exact⟨fun i hi=>by omega,fun _ _ _ i hi=>by omega,fun _ _ i hi=>by omega⟩
 ·have ha:pk M=aJ M+1:=by unfold pk;rw[if_neg h0]
  have hrr:=hD.rr;have hnl:=hD.mi;have hzr:=hD.zr;rw[ha]at hrr hnl hzr;refine⟨fun i hi=>?_,fun q hq hqp i hi=>?_,fun d hd i hi=>?_⟩
  ·have:=sI.1 ((hnl _).1 (C5 hrr hpl hzr (fun p hp=>(hrg p hp).2))) i hi;rw[if_pos rfl,bw (h:=fun j=>fZ M i j*jj g pv (aJ M) j) (fun j hj=>by rw[if_neg (by have:=List.mem_range.1 hj;omega)])]at this
   grind
  ·have:=sI.1 ((hnl _).1 (vA hrr hpl hzr (q:=q) (by omega) hqp (fun p hp=>by have:=hrg p hp;omega))) i hi;rw[kW hm (by omega)]at this
   grind
  ·have:=(hnl (fun j=>if j=aJ M then 0 else d j)).2 (sI.2 fun i hi=>by
    rw[if_pos rfl,bw (h:=fun j=>fZ M i j*d j) (fun j hj=>by rw[if_neg (by have:=List.mem_range.1 hj;omega)]),hd i hi];grind) i hi
   rw[ot]at this;dsimp only at this;rw[if_pos rfl,bw (h:=fun j=>g i j*d j) (fun j hj=>by rw[if_neg (by have:=List.mem_range.1 hj;omega)])]at this
   grind
theorem qU{J:Nat->(Nat->Nat->Rat)->List Int->Prop}(n m:Nat)(f:Nat->Nat->Rat){C:Nat}(kp:l3 n m J)(hJ:J 0 f [])(hC:2<=C)(hCn:C*8^n<=1000000000)(hn:n<=6)(hm:m<=30)(h0:n=0->m=0)(hf:k_ f C):
  ∃g pv,(∃k',J k' g pv)/\m7 (ay n m f)=some (ay n m g,pv,0)/\F3 C n m g pv/\EX n m f g pv:=by
 obtain⟨g,pv,h1,e1,h2⟩:=rO n m f kp hJ hC hCn hn hm h0 hf;refine⟨g,pv,h1,?_,h2⟩;unfold m7;rw[dP _ (by rw[aI];omega),kB];simp only[Option.bind_some,Bool.not_true,Bool.false_eq_true,if_false];rw[qX _ (by rw[aI];omega) (fun r hr=>by rw[oN hr];omega),Option.bind_some,e1]
 rfl
theorem DO{k:Nat}{d:Nat->Rat}{B B2:Nat}(hrr:Rr n k g pv)(hl:pv.length<=n)(hpm:∀p∈pv,p<(m:Int))(hm:m<=5)(hd:mi n m g d)(hB:2<=B)(hB2:2<=B2)(hs:k_ (gO g pv m) B)(hBn:B*8^(bR pv m).length<=1000000000)
  (hs2:k_ (fun i j=>if i<(bR pv m).length then gO g pv m i j else d j) B2)(hBn2:B2*8^((bR pv m).length+1)<=1000000000):
  ∃A p A' p',m7 (ay (bR pv m).length m (gO g pv m))=some (A,p,0)/\m7 (ay ((bR pv m).length+1) m (fun i j=>if i<(bR pv m).length then gO g pv m i j else d j))=some (A',p',0)/\p.length=(bR pv m).length/\p'.length=(bR pv m).length:=by
 have hfl:=uw (pv:=pv) (i:=m);have hK:∃g1 p1,m7 (ay (bR pv m).length m (gO g pv m))=some (ay (bR pv m).length m g1,p1,0)/\p1.length=(bR pv m).length/\EX (bR pv m).length m (gO g pv m) g1 p1:=by
  by_cases h0:(bR pv m).length=0
  ·have hi:indep 0 m (gO g pv m):=fun c _ i hi=>by omega
   obtain⟨g1,p1,_,e1,hR,hD⟩:=qU (J:=fun _ _ _=>True) 0 0 (gO g pv m) ⟨fun _ _ _ _ _ _ _ _ _ _ _=>trivial,fun _ _ _ _ _ _ _=>trivial⟩ trivial hB (by rw[h0]at hBn;exact hBn) (by omega) (by omega) (fun _=>rfl) hs;have hp1:p1=[]:=List.eq_nil_of_length_eq_zero (by have:=hD.le;omega);rw[h0];refine⟨g1,p1,e1,by rw[hp1];rfl,?_⟩;rw[hp1];exact⟨⟨fun p hp=>by simp at hp,List.Pairwise.nil⟩,Nat.le_refl _,fun i j _ hi _=>by omega,fun p hp=>by simp at hp,fun v=>⟨fun _ i hi=>by omega,fun _ i hi=>by omega⟩⟩
  ·obtain⟨g1,p1,⟨k',hi,_⟩,e1,hR,hD⟩:=qU (J:=fun _ f _=>indep (bR pv m).length m f/\∀v,mi (bR pv m).length m f v↔mi (bR pv m).length m (gO g pv m) v) (bR pv m).length m (gO g pv m) (ug (gO g pv m)) ⟨Bw,fun _=>Iff.rfl⟩ hB hBn (by omega) (by omega) (fun h=>absurd h h0) hs;exact⟨g1,p1,e1,vn (J:=fun _ _ _=>True) hi hD.le (.inl hD.zr),hD⟩
 obtain⟨g1,p1,e1,hl1,hD1⟩:=hK;obtain⟨g2,p2,_,e2,hR2,hD2⟩:=qU (J:=fun _ _ _=>True) ((bR pv m).length+1) m (fun i j=>if i<(bR pv m).length then gO g pv m i j else d j) ⟨fun _ _ _ _ _ _ _ _ _ _ _=>trivial,fun _ _ _ _ _ _ _=>trivial⟩ trivial hB2 hBn2 (by omega) (by omega) (fun h=>by omega) hs2;refine⟨_,p1,_,p2,e1,e2,hl1,?_⟩;rw[←hl1];exact EV hD2.rr hD2.le hD2.zr (fun p hp=>(hD2.pm p hp).2) hD1.rr hD1.le hD1.zr (fun p hp=>(hD1.pm p hp).2) (fun v=>((hD2.mi v).trans (Dz hrr hl hpm hd v).symm).trans (hD1.mi v).symm)
end Go.Am
namespace Go.Am
open Go.RowKit
section
variable {P:Program} {os:List Oper} {c:Ctx} {T T':List (Nat×D)} {H H':List (Nat×Hp)} {sps:List Spec}
variable {ops:Array Oper} {dst:Option Nat} {ty:TypeId} {pos:String} {aft:Array Edge}
end
end Go.Am
namespace Go.Am
open Go.RowKit
set_option maxRecDepth 100000
noncomputable section
end
end Go.Am
namespace Go.Am
variable {M N:List (List Rat)} {n:Nat}
theorem C2{f:Nat->Nat->Rat}{i j:Nat}(hi:i<n)(hj:j<n):fZ (ay n n f) i j=f i j:=by
 rw[z6 (by rw[aI];exact hi) (by simp[ay];exact hj)];simp[ay]
end Go.Am
