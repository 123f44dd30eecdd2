/- Part 5 of 7 of what the laws of layer 1 share: contracts of functions of the program, each for every argument of its description; no condition beyond it. -/
import Derived.Test.YtgnepgenefcnpaaGreatDoorBkD
set_option linter.unusedVariables false
set_option linter.unusedSimpArgs false
namespace Go.Am
theorem nG{σ ρ:Type}{b1 b2:σ->Option (St σ ρ)}(I:σ->Prop)(h:∀s,I s->b1 s=b2 s)(hp:∀s s',I s->b2 s=some (.next s')->I s'):∀k s,I s->j6 b1 k s=j6 b2 k s
 |0,_,_=>rfl
 |k+1,s,hs=>by
  unfold j6;rw[h s hs]
  cases hb:b2 s with
  |none=>rfl
  |some x=>
   cases x with
   |done r=>rfl
   |next s'=>exact nG I h hp k s' (hp s s' hs hb)
theorem y8{σ ρ:Type}{b1 b2:σ->Option (St σ ρ)}(I:σ->Prop)(h:∀s,I s->b1 s=b2 s)(hp:∀s s',I s->b2 s=some (.next s')->I s'){s:σ}(hs:I s):Loop b1 s=Loop b2 s:=by
 apply Option.ext;intro r;rw[kv,kv];exact⟨fun⟨k,hk⟩=>⟨k,by rw[←nG I h hp k s hs];exact hk⟩,fun⟨k,hk⟩=>⟨k,by rw[nG I h hp k s hs];exact hk⟩⟩
variable {n:Nat} {f:Nat->Nat->Rat} {B:Nat}
def e_(k:Nat)(f:Nat->Nat->Rat)(i j:Nat):Rat:=f (k+i) (k+j)
theorem rV{k:Nat}:∀d i,n-k-i=d->cX f k n (k+i)=k+cX (e_ k f) 0 (n-k) i
 |d,i,h=>by
  by_cases hlt:k+i<n
  ·rw[jn hlt,jn (show i<n-k by omega)];have e0:e_ k f i 0=f (k+i) k:=rfl;rw[e0];by_cases h0:f (k+i) k=0
   ·rw[if_pos h0,if_pos h0]
    cases d with
    |zero=>omega
    |succ d=>exact rV d (i+1) (by omega)
   ·rw[if_neg h0,if_neg h0]
  ·rw[ko hlt,ko (by omega)]
theorem Dc(n k i:Int)(c:Rat):kM n k i c=cB k n i c:=rfl
def gb(f:Nat->Nat->Rat)(k i i' j:Nat):Rat:=if k<i'/\i'<i/\k<=j then f i' j-f i' k/f k k*f k j else f i' j
theorem tO{k i:Nat}(hf:ld f B):ld (gb f k i) (4*B+4):=fun i' j=>by
 have h1:=hf i' j;unfold gb
 split
 ·have h2:=hf i' k;have h3:=hf k k;have h4:=hf k j;have h5:=oA (f i' k) (f k k);have h6:=gQ (f i' k/f k k) (f k j);have h7:=rz (f i' j) (f i' k/f k k*f k j);omega
 ·omega
theorem vW{k i j:Nat}:gb f k i k j=f k j:=by unfold gb;rw[if_neg (by omega)]
theorem s_{k i j:Nat}:gb f k i i j=f i j:=by unfold gb;rw[if_neg (by omega)]
theorem EX{body:Int×List (List Rat)->Option (St (Int×List (List Rat)) (List (List Rat)))}{k:Nat}(hbody:∀(i:Nat) g,body ((i:Int),ay n n g)=h_ (n:Int) (k:Int) (i:Int) (ay n n g))(hk:k<n)(hn:n<=6)(hf:ld f B)(hB:4*B+4<=1000000000)(h0:f k k≠0):
  Loop body (((k+1:Nat):Int),ay n n f)=some (ay n n (gb f k n)):=by
 have hL:=tv (body:=body) (k+1) n (fun i=>ay n n (gb f k i)) (ay n n (gb f k n)) hk (fun i hki hi=>by
  rw[hbody];unfold h_;have h1:=hf i k;have h2:=hf k k;have h3:=oA (f i k) (f k k);rw[if_pos (decide_eq_true (by omega)),cj hi,Option.bind_some,eO hk,Option.bind_some,cj hk,Option.bind_some,eO hk,Option.bind_some,s_,vW,
   qP h0 (show dv (f i k)by unfold dv;omega) (show dv (f k k)by unfold dv;omega),Option.bind_some]
  rw[Dc,xk hk hi (by omega) (by omega) (by omega) (tO hf) (by omega) hB,Option.bind_some,Option.bind_some,ct hi (by omega)];rw[dk (g:=gb f k (i+1)) (fun i' j _ _=>by
   rw[s_,vW];unfold gb;by_cases e:i'=i/\k<=j
   ·rw[if_pos e,if_pos (by omega),e.1]
   ·rw[if_neg e];by_cases e2:k<i'/\i'<i/\k<=j
    ·rw[if_pos e2,if_pos (by omega)]
    ·rw[if_neg e2,if_neg (by omega)])]) (by
  rw[hbody];unfold h_;rw[if_neg (by simp)])
 have e0:ay n n f=ay n n (gb f k (k+1)):=dk fun i j _ _=>by unfold gb;rw[if_neg (by omega)]
 rw[e0];exact hL
theorem yK{k i:Nat}{g:Nat->Nat->Rat}:kU (k:Int) (i:Int) (ay n n g)=h_ (n:Int) (k:Int) (i:Int) (ay n n g):=by
 unfold kU h_;rw[aI];have e:∀c:Rat,Loop (fun(s:Int×(List (List Rat)))=>pE (k:Int) (i:Int) c s.1 s.2) ((k:Int),ay n n g)=Loop (fun(s:Int×(List (List Rat)))=>kM (n:Int) (k:Int) (i:Int) c s.1 s.2) ((k:Int),ay n n g):=fun c=>
  y8 (fun s=>s.2.length=n) (fun s hs=>by unfold pE kM;rw[hs]) (fun s s' hs h=>by
   unfold kM at h
   split at h
   ·simp only[Option.bind_eq_some_iff]at h;obtain⟨_,_,_,_,_,_,_,_,_,_,_,_,_,_,_,_,h⟩:=h;injection h with h;injection h with h;subst h;simpa using hs
   ·injection h with h;cases h) (by rw[aI])
 simp only[e]
theorem uj{k:Nat}{g:Nat->Nat->Rat}:(fun s=>nJ (n:Int) (k:Int) (ay n n g) s)=(fun s=>dK (k:Int) (ay n n g) s):=by
 funext s
 unfold nJ dK;rw[aI]
theorem qZ(k:Int)(M:List (List Rat)):uu k M=dK k M:=rfl
theorem y7{a b:Nat}:aY f a b=aY f b a:=by
 funext i j
 unfold aY;by_cases e1:i=b
 ·by_cases e2:i=a
  ·rw[if_pos e1,if_pos e2,←e1,←e2]
  ·rw[if_pos e1,if_neg e2,if_pos e1]
 ·by_cases e2:i=a
  ·rw[if_neg e1,if_pos e2,if_pos e2]
  ·rw[if_neg e1,if_neg e2,if_neg e2,if_neg e1]
theorem xl{k:Nat}{f1:Nat->Nat->Rat}{i j:Nat}(hi:k+1+i<n):e_ (k+1) (gb f1 k n) i j=rY (e_ k f1) i j:=by
 unfold e_ rY gb;rw[if_pos (by omega),show k+1+i=k+(i+1)by omega,show k+1+j=k+(j+1)by omega]
 rfl
theorem xU{k p:Nat}:e_ k (aY f k (k+p))=aY (e_ k f) 0 p:=by
 funext i j
 unfold e_ aY;by_cases e:i=p
 ·rw[if_pos (by omega),if_pos e];rfl
 ·rw[if_neg (by omega),if_neg e];by_cases e2:i=0
  ·rw[if_pos (by omega),if_pos e2]
  ·rw[if_neg (by omega),if_neg e2]
theorem qX{C:Nat}(hC:4<=C)(hCn:C*8^n<=1000000000)(hn:n<=6):∀d k (f:Nat->Nat->Rat) (D:Rat) (M0:List (List Rat)),M0.length=n->n-k=d->k<=n->ld f (C*8^k)->sz D<=C*8^k->
  ∃r,r=D*kh (n-k) (e_ k f)/\sz r<=C*8^n/\
   (Loop (fun(s:Int×(List (List Rat))×Rat)=>dp (n:Int) M0 s.1 s.2.1 s.2.2) ((k:Int),ay n n f,D)=some (Ex.cp r)\/(r=0/\Loop (fun(s:Int×(List (List Rat))×Rat)=>dp (n:Int) M0 s.1 s.2.1 s.2.2) ((k:Int),ay n n f,D)=some (Ex.ret (0,0))))/\
   (Loop (fun(s:Int×(List (List Rat))×Rat)=>cI s.1 s.2.1 s.2.2) ((k:Int),ay n n f,D)=some (Ex.cp r)\/(r=0/\Loop (fun(s:Int×(List (List Rat))×Rat)=>cI s.1 s.2.1 s.2.2) ((k:Int),ay n n f,D)=some (Ex.ret 0)))
 |d,k,f,D,M0,hM0,hd,hk,hf,hD=>by
  by_cases hlt:k<n
  ·have hfind:=za (f:=f) (m:=n) (n:=n) hlt (by omega) (n-k) k rfl hk;have hge:=sY (f:=f) (k:=k) (n:=n) (n-k) k rfl;have hle:=tk (f:=f) (k:=k) (n:=n) (n-k) k rfl hk;have hsh:=rV (f:=f) (n:=n) (k:=k) (n-k) 0 (by omega);rw[Nat.add_zero]at hsh;have hnext:4*(C*8^k)+4<=C*8^(k+1)/\2*(C*8^k)<=C*8^(k+1):=by
    have e:C*8^(k+1)=C*8^k*8:=by rw[Nat.pow_succ,Nat.mul_assoc]
    have:4<=C*8^k:=Nat.le_trans hC (Nat.le_mul_of_pos_right _ (Nat.pow_pos (by decide)));omega
   have hB:4*(C*8^k)+4<=1000000000:=Nat.le_trans hnext.1 (Nat.le_trans (xm (show k+1<=n by omega)) hCn);obtain⟨d,rfl⟩:∃d',d=d'+1:=⟨d-1,by omega⟩;have hnk:n-k=(n-(k+1))+1:=by omega
   by_cases hat:cX f k n k<n
   ·have hne:=pY (f:=f) (k:=k) (n:=n) (n-k) k rfl hat;by_cases hkk:f k k=0
    ·-- an exchange
     have hak:cX f k n k≠k:=fun e=>by rw[e]at hne;exact hne hkk
     obtain⟨p,hp⟩:∃p,cX f k n k=k+p:=⟨cX f k n k-k,by omega⟩;rw[hp]at hfind hat hne hak hsh;have hs:=kI (a:=k) (b:=k+p) hf;have hpv:aY f k (k+p) k k=f (k+p) k:=by unfold aY;rw[if_neg (by omega),if_pos rfl]
     have hD2:sz (-D*f (k+p) k)<=C*8^(k+1):=by
      have:=gQ (-D) (f (k+p) k);have h2:=hf (k+p) k;rw[pK]at this;omega
     have hq:eJ (-D) (f (k+p) k)=some (-D*f (k+p) k):=jL (by unfold dv;rw[pK];omega) (by have:=hf (k+p) k;unfold dv;omega);have hd1:=EX (n:=n) (body:=fun(s:Int×(List (List Rat)))=>h_ (n:Int) (k:Int) s.1 s.2) (fun _ _=>rfl) hlt hn hs (by omega) (by rw[hpv];exact hne);have hd2:=EX (n:=n) (body:=fun(s:Int×(List (List Rat)))=>kU (k:Int) s.1 s.2) (fun _ _=>yK) hlt hn hs (by omega) (by rw[hpv];exact hne);obtain⟨r,hr,hrs,h1,h2⟩:=qX hC hCn hn d (k+1) (gb (aY f k (k+p)) k n) (-D*f (k+p) k) M0 hM0 (by omega) hlt (fun i j=>Nat.le_trans (tO hs i j) hnext.1) hD2;refine⟨r,?_,hrs,?_,?_⟩
     ·rw[hr,hnk];have hpe:cX (e_ k f) 0 (n-(k+1)+1) 0=p:=by
       have:n-k=n-(k+1)+1:=hnk;rw[←this];omega
      rw[pA (f:=e_ (k+1) (gb (aY f k (k+p)) k n)) (g:=rY (e_ k (aY f k (k+p)))) (fun i j hi _=>xl (by omega)),xU]
      conv=>rhs;unfold kh
      rw[if_neg (by simpa [e_]using hkk),hpe,if_pos (by omega),show e_ k f p 0=f (k+p) k from rfl]
      grind
     ·have hb:dp (n:Int) M0 (k:Int) (ay n n f) D=some (.next (((k+1:Nat):Int),ay n n (gb (aY f k (k+p)) k n),-D*f (k+p) k)):=by
       unfold dp;rw[hM0,if_pos (decide_eq_true (by omega)),uj,hfind,Option.bind_some,if_neg (by rw[beq_iff_eq];omega),if_pos (by rw[bne_iff_ne];omega),cj hlt,Option.bind_some,cj hat,Option.bind_some,Option.bind_some,Option.bind_some,show uf D=some (-D)from rfl,Option.bind_some,Option.bind_some];simp only;rw[oE (a:=k+p) (b:=k),y7,cj hlt,Option.bind_some,eO hlt,Option.bind_some,hpv,hq,Option.bind_some,ct hlt (by omega),hd1,Option.bind_some,Option.bind_some]
      rw[eQ (body:=fun(s:Int×(List (List Rat))×Rat)=>dp (n:Int) M0 s.1 s.2.1 s.2.2) hb];exact h1
     ·have hb:cI (k:Int) (ay n n f) D=some (.next (((k+1:Nat):Int),ay n n (gb (aY f k (k+p)) k n),-D*f (k+p) k)):=by
       unfold cI;rw[aI,if_pos (decide_eq_true (by omega)),qZ,hfind,Option.bind_some,if_neg (by rw[beq_iff_eq];omega),if_pos (by rw[bne_iff_ne];omega),cj hat,Option.bind_some,cj hlt,Option.bind_some,Option.bind_some,Option.bind_some,show uf D=some (-D)from rfl,Option.bind_some,Option.bind_some];simp only;rw[oE (a:=k) (b:=k+p),cj hlt,Option.bind_some,eO hlt,Option.bind_some,hpv,hq,Option.bind_some,ct hlt (by omega),hd2,Option.bind_some,Option.bind_some]
      rw[eQ (body:=fun(s:Int×(List (List Rat))×Rat)=>cI s.1 s.2.1 s.2.2) hb];exact h2
    ·have hak:cX f k n k=k:=by rw[jn hlt,if_neg hkk]
     rw[hak]at hfind;have hD2:sz (D*f k k)<=C*8^(k+1):=by
      have:=gQ D (f k k);have h2:=hf k k;omega
     have hq:eJ D (f k k)=some (D*f k k):=jL (by unfold dv;omega) (by have:=hf k k;unfold dv;omega);have hd1:=EX (n:=n) (body:=fun(s:Int×(List (List Rat)))=>h_ (n:Int) (k:Int) s.1 s.2) (fun _ _=>rfl) hlt hn hf (by omega) hkk;have hd2:=EX (n:=n) (body:=fun(s:Int×(List (List Rat)))=>kU (k:Int) s.1 s.2) (fun _ _=>yK) hlt hn hf (by omega) hkk;obtain⟨r,hr,hrs,h1,h2⟩:=qX hC hCn hn d (k+1) (gb f k n) (D*f k k) M0 hM0 (by omega) hlt (fun i j=>Nat.le_trans (tO hf i j) hnext.1) hD2;refine⟨r,?_,hrs,?_,?_⟩
     ·rw[hr,hnk]
      conv=>rhs;unfold kh
      rw[if_pos (show e_ k f 0 0≠0 from hkk),pA (f:=e_ (k+1) (gb f k n)) (g:=rY (e_ k f)) (fun i j hi _=>xl (by omega)),show e_ k f 0 0=f k k from rfl]
      grind
     ·have hb:dp (n:Int) M0 (k:Int) (ay n n f) D=some (.next (((k+1:Nat):Int),ay n n (gb f k n),D*f k k)):=by
       unfold dp;rw[hM0,if_pos (decide_eq_true (by omega)),uj,hfind,Option.bind_some,if_neg (by rw[beq_iff_eq];omega),if_neg (by simp),Option.bind_some];simp only;rw[cj hlt,Option.bind_some,eO hlt,Option.bind_some,hq,Option.bind_some,ct hlt (by omega),hd1,Option.bind_some,Option.bind_some]
      rw[eQ (body:=fun(s:Int×(List (List Rat))×Rat)=>dp (n:Int) M0 s.1 s.2.1 s.2.2) hb];exact h1
     ·have hb:cI (k:Int) (ay n n f) D=some (.next (((k+1:Nat):Int),ay n n (gb f k n),D*f k k)):=by
       unfold cI;rw[aI,if_pos (decide_eq_true (by omega)),qZ,hfind,Option.bind_some,if_neg (by rw[beq_iff_eq];omega),if_neg (by simp),Option.bind_some];simp only;rw[cj hlt,Option.bind_some,eO hlt,Option.bind_some,hq,Option.bind_some,ct hlt (by omega),hd2,Option.bind_some,Option.bind_some]
      rw[eQ (body:=fun(s:Int×(List (List Rat))×Rat)=>cI s.1 s.2.1 s.2.2) hb];exact h2
   ·have hnn:cX f k n k=n:=by omega
    rw[hnn]at hfind;have hall:=oN (f:=f) (k:=k) (n:=n) (n-k) k rfl hat;have hkk:f k k=0:=hall k (Nat.le_refl _) hlt;refine⟨0,?_,by show sz (0:Rat)<=_;have:C*1<=C*8^n:=Nat.mul_le_mul_left _ (Nat.pow_pos (by decide));have e:sz (0:Rat)=1:=rfl;omega,.inr ⟨rfl,?_⟩,.inr ⟨rfl,?_⟩⟩
    ·rw[hnk];unfold kh;rw[if_neg (by simpa [e_]using hkk),if_neg (by rw[←hnk];omega)];grind
    ·refine dQ (body:=fun(s:Int×(List (List Rat))×Rat)=>dp (n:Int) M0 s.1 s.2.1 s.2.2) ?_;show dp (n:Int) M0 (k:Int) (ay n n f) D=_;unfold dp;rw[hM0,if_pos (decide_eq_true (by omega)),uj,hfind,Option.bind_some,if_pos (by simp),Option.bind_some]
     try rfl
    ·refine dQ (body:=fun(s:Int×(List (List Rat))×Rat)=>cI s.1 s.2.1 s.2.2) ?_;show cI (k:Int) (ay n n f) D=_;unfold cI;rw[aI,if_pos (decide_eq_true (by omega)),qZ,hfind,Option.bind_some,if_pos (by simp),Option.bind_some]
     try rfl
  ·have hkn:k=n:=by omega
   subst hkn;refine⟨D,by rw[Nat.sub_self];unfold kh;grind,hD,.inl ?_,.inl ?_⟩
   ·refine dQ (body:=fun(s:Int×(List (List Rat))×Rat)=>dp (k:Int) M0 s.1 s.2.1 s.2.2) ?_;show dp (k:Int) M0 (k:Int) (ay k k f) D=_;unfold dp;rw[hM0,if_neg (by simp)]
   ·refine dQ (body:=fun(s:Int×(List (List Rat))×Rat)=>cI s.1 s.2.1 s.2.2) ?_;show cI (k:Int) (ay k k f) D=_;unfold cI;rw[aI,if_neg (by simp)]
theorem AJ{C:Nat}(hC:4<=C)(hCn:C*8^n<=1000000000)(f:Nat->Nat->Rat)(hn:n<=6)(hf:ld f C):j5 (ay n n f)=some (kh n f,0)/\xf (ay n n f)=some (kh n f)/\sz (kh n f)<=C*8^n:=by
 have hc:aJ (ay n n f)=n:=by
  by_cases h:n=0
  ·subst h;rfl
  ·exact lY (by omega)
 have hrl:∀r∈ay n n f,r.length<=30:=fun r hr=>by rw[oF hr];omega
 obtain⟨r,hr,hs,h1,h2⟩:=qX (n:=n) hC hCn hn n 0 f 1 (ay n n f) aI rfl (Nat.zero_le _) (by simpa using hf) (by rw[Nat.pow_zero];exact Nat.le_trans (show sz (1:Rat)<=1 by decide+kernel) (by omega));have hr:r=kh n f:=by
  rw[hr,Nat.sub_zero];have:e_ 0 f=f:=by funext i j;unfold e_;rw[Nat.zero_add,Nat.zero_add]
  rw[this];grind
 subst hr;refine⟨?_,?_,hs⟩
 ·unfold j5;rw[dO _ (by rw[aI];omega),kA,hc,aI,Option.bind_some];simp only[Bool.not_true,Bool.false_eq_true,if_false];rw[if_neg (by simp),rh _ (by rw[aI];omega) hrl,Option.bind_some,n5,Option.bind_some];rcases h1 with h1|⟨h0,h1⟩
  ·have:Loop (fun(s:Int×(List (List Rat))×Rat)=>dp (n:Int) (ay n n f) s.1 s.2.1 s.2.2) (0,ay n n f,1)=_:=h1;rw[this];rfl
  ·have:Loop (fun(s:Int×(List (List Rat))×Rat)=>dp (n:Int) (ay n n f) s.1 s.2.1 s.2.2) (0,ay n n f,1)=_:=h1;rw[this,h0];rfl
 ·unfold xf;rw[vD _ (by rw[aI];omega) hrl,Option.bind_some,n5,Option.bind_some];rcases h2 with h2|⟨h0,h2⟩
  ·have:Loop (fun(s:Int×(List (List Rat))×Rat)=>cI s.1 s.2.1 s.2.2) (0,ay n n f,1)=_:=h2;rw[this];rfl
  ·have:Loop (fun(s:Int×(List (List Rat))×Rat)=>cI s.1 s.2.1 s.2.2) (0,ay n n f,1)=_:=h2;rw[this,h0];rfl
theorem Cm(f:Nat->Nat->Rat)(hn:n<=6)(hf:ld f 300):j5 (ay n n f)=some (kh n f,0)/\xf (ay n n f)=some (kh n f)/\sz (kh n f)<=300*8^n:=AJ (by decide) (Nat.le_trans (D7 hn) (by decide)) f hn hf
end Go.Am
namespace Go.Am
variable {n:Nat} {f b S A:Nat->Nat->Rat} {B:Nat}
end Go.Am
namespace Go.Am
variable {n:Nat} {f b S A:Nat->Nat->Rat} {B:Nat}
end Go.Am
namespace Go.Am
variable {n:Nat} {f:Nat->Nat->Rat}
end Go.Am
namespace Go.Am
variable {n m:Nat} {f g:Nat->Nat->Rat}
theorem iC{l:List Nat}(hn:l.Nodup){a:Nat}(ha:a∈l){g:Nat->Rat}:bK l g=g a+bK l (fun i=>if i=a then 0 else g i):=by
 have h1:bK l (fun i=>if i=a then g i else 0)=g a:=by
  rw[i6 hn ha (fun j _ hj=>by rw[if_neg hj]),if_pos rfl]
 rw[←h1,←iM];exact bw fun i _=>by by_cases e:i=a<;>simp[e]<;>grind
def indep(n m:Nat)(f:Nat->Nat->Rat):Prop:=∀c:Nat->Rat,(∀j,j<m->bK (List.range n) (fun i=>c i*f i j)=0)->∀i,i<n->c i=0
theorem tG(h:∀c:Nat->Rat,∃c':Nat->Rat,(∀j,j<m->bK (List.range n) (fun i=>c i*g i j)=bK (List.range n) (fun i=>c' i*f i j))/\((∀i,i<n->c' i=0)->∀i,i<n->c i=0))(hf:indep n m f):indep n m g:=fun c hc=>by
 obtain⟨c',h1,h2⟩:=h c;exact h2 (hf c' (fun j hj=>by rw[←h1 j hj];exact hc j hj))
theorem zk{a b:Nat}(ha:a<n)(hb:b<n)(hf:indep n m f):indep n m (aY f a b):=by
 refine tG (fun c=>⟨fun i=>if i=b then c a else if i=a then c b else c i,fun j _=>?_,fun h i hi=>?_⟩) hf
 ·by_cases e:a=b
  ·subst e;refine bw fun i _=>?_;unfold aY;by_cases e1:i=a
   ·simp only[if_pos e1];rw[e1]
   ·simp only[if_neg e1]
  ·have ma:=List.mem_range.2 ha;have mb:=List.mem_range.2 hb;rw[iC List.nodup_range ma,iC List.nodup_range mb (g:=fun i=>if i=a then 0 else c i*aY f a b i j)];rw[iC List.nodup_range ma (g:=fun i=>(if i=b then c a else if i=a then c b else c i)*f i j),iC List.nodup_range mb (g:=fun i=>if i=a then 0 else(if i=b then c a else if i=a then c b else c i)*f i j)];have e1:aY f a b a j=f b j:=by unfold aY;rw[if_neg e,if_pos rfl]
   have e2:aY f a b b j=f a j:=by unfold aY;rw[if_pos rfl]
   rw[bw (g:=fun i=>if i=b then 0 else if i=a then 0 else c i*aY f a b i j) (h:=fun i=>if i=b then 0 else if i=a then 0 else(if i=b then c a else if i=a then c b else c i)*f i j) (fun i _=>by
    by_cases h1:i=b
    ·rw[if_pos h1,if_pos h1]
    ·rw[if_neg h1,if_neg h1];by_cases h2:i=a
     ·rw[if_pos h2,if_pos h2]
     ·rw[if_neg h2,if_neg h2,if_neg h1,if_neg h2];unfold aY;rw[if_neg h1,if_neg h2])]
   simp only[e1,e2,if_pos rfl,if_neg e,if_neg (Ne.symm e)]
   grind
 ·by_cases e1:i=a
  ·have:=h b hb;dsimp only at this;rw[if_pos rfl]at this;rw[e1];exact this
  ·by_cases e2:i=b
   ·have:=h a ha;dsimp only at this;by_cases e:a=b
    ·exact absurd (e2.trans e.symm) e1
    ·rw[if_neg e,if_pos rfl]at this;rw[e2];exact this
   ·have:=h i hi;dsimp only at this;rw[if_neg e2,if_neg e1]at this;exact this
theorem xW{row:Nat}{s:Rat}(hs:s≠0)(hf:indep n m f):indep n m (cu f row s 0):=by
 refine tG (fun c=>⟨fun i=>if i=row then c i*s else c i,fun j _=>bw fun i _=>?_,fun h i hi=>?_⟩) hf
 ·dsimp only;unfold cu;by_cases e:i=row
  ·rw[if_pos ⟨e,Nat.zero_le _⟩,if_pos e,e];grind
  ·rw[if_neg (fun h=>e h.1),if_neg e]
 ·have:=h i hi;dsimp only at this;by_cases e:i=row
  ·rw[if_pos e]at this;exact(Rat.mul_eq_zero.1 this).resolve_right hs
  ·rwa [if_neg e]at this
def elimM(f:Nat->Nat->Rat)(row k i:Nat):Rat:=if i=row then 0 else f i k
theorem pT{row k i j:Nat}:ft f row k 0 i j=f i j-elimM f row k i*f row j:=by
 unfold ft elimM;by_cases e:i=row
 ·rw[if_neg (fun h=>h.1 e),if_pos e];grind
 ·rw[if_neg e];by_cases e2:f i k=0
  ·rw[if_neg (fun h=>h.2.1 e2),e2];grind
  ·rw[if_pos ⟨e,e2,Nat.zero_le _⟩]
theorem zo{row k:Nat}(hr:row<n)(hf:indep n m f):indep n m (ft f row k 0):=by
 refine tG (fun c=>⟨fun i=>c i+(if i=row then-(bK (List.range n) fun i=>c i*elimM f row k i)else 0),fun j _=>?_,fun h=>?_⟩) hf
 ·have e1:bK (List.range n) (fun i=>c i*ft f row k 0 i j)=bK (List.range n) (fun i=>c i*f i j)+-(f row j)*bK (List.range n) (fun i=>c i*elimM f row k i):=by
   rw[←fS,←iM];exact bw fun i _=>by rw[pT];grind
  have e2:bK (List.range n) (fun i=>(c i+(if i=row then-(bK (List.range n) fun i=>c i*elimM f row k i)else 0))*f i j)=bK (List.range n) (fun i=>c i*f i j)+bK (List.range n) (fun i=>(if i=row then-(bK (List.range n) fun i=>c i*elimM f row k i)else 0)*f i j):=by
   rw[←iM];exact bw fun i _=>by grind
  rw[e1,e2,i6 List.nodup_range (List.mem_range.2 hr) (g:=fun i=>(if i=row then-(bK (List.range n) fun i=>c i*elimM f row k i)else 0)*f i j) (fun i _ hi=>by simp only[if_neg hi];grind)];simp only[if_pos rfl]
  grind
 ·have h0:∀i,i<n->i≠row->c i=0:=fun i hi hir=>by
   have:=h i hi;dsimp only at this;rw[if_neg hir]at this
   grind
  have hM:bK (List.range n) (fun i=>c i*elimM f row k i)=0:=gK fun i hi=>by
   by_cases e:i=row
   ·unfold elimM;rw[if_pos e];grind
   ·rw[h0 i (List.mem_range.1 hi) e];grind
  intro i hi;by_cases e:i=row
  ·have:=h i hi;dsimp only at this;rw[if_pos e,hM]at this
   grind
  ·exact h0 i hi e
def mD(n m:Nat)(f:Nat->Nat->Rat)(v:Nat->Rat):Prop:=∀i,i<n->bK (List.range m) (fun j=>f i j*v j)=0
theorem xS{a b:Nat}{v:Nat->Rat}(ha:a<n)(hb:b<n):mD n m (aY f a b) v↔mD n m f v:=by
 have e:∀i,bK (List.range m) (fun j=>aY f a b i j*v j)=bK (List.range m) (fun j=>f (if i=b then a else if i=a then b else i) j*v j):=fun i=>bw fun j _=>by
  unfold aY;by_cases h1:i=b
  ·rw[if_pos h1,if_pos h1]
  ·rw[if_neg h1,if_neg h1];by_cases h2:i=a
   ·rw[if_pos h2,if_pos h2]
   ·rw[if_neg h2,if_neg h2]
 constructor
 ·intro h i hi;by_cases h1:i=a
  ·have:=h b hb;rw[e,if_pos rfl]at this;rw[h1];exact this
  ·by_cases h2:i=b
   ·have:=h a ha;rw[e]at this;by_cases h3:a=b
    ·rw[if_pos h3]at this;rw[h2,←h3];exact this
    ·rw[if_neg h3,if_pos rfl]at this;rw[h2];exact this
   ·have:=h i hi
    rwa [e,if_neg h2,if_neg h1]at this
 ·intro h i hi;rw[e]
  split
  ·exact h a ha
  ·split
   ·exact h b hb
   ·exact h i hi
theorem vL{row:Nat}{s:Rat}{v:Nat->Rat}(hs:s≠0):mD n m (cu f row s 0) v↔mD n m f v:=by
 have e:∀i,bK (List.range m) (fun j=>cu f row s 0 i j*v j)=(if i=row then s else 1)*bK (List.range m) (fun j=>f i j*v j):=fun i=>by
  rw[←fS];refine bw fun j _=>?_;unfold cu;by_cases h:i=row
  ·rw[if_pos ⟨h,Nat.zero_le _⟩,if_pos h,h];grind
  ·rw[if_neg (fun h'=>h h'.1),if_neg h];grind
 constructor
 ·intro h i hi;have:=h i hi;rw[e]at this;refine(Rat.mul_eq_zero.1 this).resolve_left ?_
  split
  ·exact hs
  ·decide
 ·intro h i hi;rw[e,h i hi];grind
theorem xQ{row k:Nat}{v:Nat->Rat}(hr:row<n):mD n m (ft f row k 0) v↔mD n m f v:=by
 have e:∀i,bK (List.range m) (fun j=>ft f row k 0 i j*v j)=bK (List.range m) (fun j=>f i j*v j)+-(elimM f row k i)*bK (List.range m) (fun j=>f row j*v j):=fun i=>by
  rw[←fS,←iM];exact bw fun j _=>by rw[pT];grind
 have hrow:elimM f row k row=0:=by unfold elimM;rw[if_pos rfl]
 constructor
 ·intro h i hi;have h1:=h row hr;rw[e,hrow]at h1;have h2:=h i hi;rw[e]at h2;have h3:bK (List.range m) (fun j=>f row j*v j)=0:=by grind
  rw[h3]at h2
  grind
 ·intro h i hi;rw[e,h i hi,h row hr];grind
theorem sN{row k at':Nat}(hp:f at' k≠0):1/aY f row at' row k≠0:=by
 have e:aY f row at' row k=f at' k:=by
  unfold aY;by_cases h:row=at'
  ·rw[if_pos h,h]
  ·rw[if_neg h,if_pos rfl]
 rw[e];intro h;have:=Rat.div_mul_cancel (a:=1) hp;rw[h]at this
 grind
theorem tI(f0:Nat->Nat->Rat):me n m (fun _ f _=>indep n m f/\∀v,mD n m f v↔mD n m f0 v) where
 step:=fun k f bY at' _ hpl hge hat hp _ hJ=>by
  refine⟨zo hpl (xW (sN hp) (zk hpl hat hJ.1)),fun v=>?_⟩;unfold je;rw[xQ hpl,vL (sN hp),xS hpl hat];exact hJ.2 v
 skip:=fun _ _ _ _ _ _ h=>h
def jj(n:Nat)(f:Nat->Nat->Rat)(i j:Nat):Rat:=if j<n then f i j else if j=n+i then 1 else 0
theorem zF:indep n (n+n) (jj n f):=fun c hc i hi=>by
 have h:=hc (n+i) (by omega);rw[i6 List.nodup_range (List.mem_range.2 hi) (fun i' _ hne=>by
  unfold jj;rw[if_neg (by omega),if_neg (by omega)];grind)]at h
 unfold jj at h;rw[if_neg (by omega),if_pos rfl]at h
 grind
theorem u9{J:Nat->(Nat->Nat->Rat)->List Int->Prop}{pv:List Int}(hi:indep n m g)(hl:pv.length<=n)(h:jr g n pv.length m\/pv.length=n):pv.length=n:=by
 rcases h with h|h
 ·refine Classical.byContradiction fun hne=>?_;have hlt:pv.length<n:=by omega
  have:=hi (fun i=>if i=pv.length then 1 else 0) (fun j hj=>by
   rw[i6 List.nodup_range (List.mem_range.2 hlt) (fun i _ hi=>by simp only[if_neg hi];grind),h pv.length j (Nat.le_refl _) hlt hj];grind) pv.length hlt
  rw[if_pos rfl]at this;exact absurd this (by decide)
 ·exact h
theorem oD{α:Type}(F:Nat->α)(i:Nat)(x:α):((List.range n).map F).set i x=(List.range n).map (fun r=>if r=i then x else F r):=by
 apply List.ext_getElem
 ·simp
 ·intro r h1 h2;by_cases e:r=i
  ·subst e;rw[List.getElem_set_self];simp
  ·rw[List.getElem_set_ne (Ne.symm e)];simp[e]
theorem AW{i:Nat}(hi:i<n):((List.range n).map (f i)++List.replicate n (0:Rat)).set (n+i) 1=(List.range (n+n)).map (jj n f i):=by
 apply List.ext_getElem
 ·simp
 ·intro j h1 h2;rw[List.length_set,List.length_append,List.length_map,List.length_range,List.length_replicate]at h1;simp only[List.getElem_map,List.getElem_range];unfold jj;by_cases e:j=n+i
  ·subst e;rw[List.getElem_set_self,if_neg (by omega),if_pos rfl]
  ·rw[List.getElem_set_ne (Ne.symm e)];by_cases e2:j<n
   ·rw[List.getElem_append_left (by simpa using e2),if_pos e2];simp
   ·rw[List.getElem_append_right (by simpa using e2),if_neg e2,if_neg e];simp
theorem yC{h:Nat->Rat}:((List.range (n+n)).map h).drop n=(List.range n).map fun j=>h (n+j):=by
 apply List.ext_getElem
 ·simp
 ·intro j h1 h2;simp
theorem y4{α:Type}{F:Nat->α}{i:Nat}(hi:i<n):ix ((List.range n).map F) (i:Int)=some (F i):=by
 rw[dT (by simpa using hi)];simp
theorem FO{i:Nat}(hi:i<n)(hn:n<=6):IntKind.i64.wrap ((n:Int)+(i:Int))=((n+i:Nat):Int):=by
 rw[IntKind.wrap_i64];omega
theorem G5(hn:n<=6){M0:List (List Rat)}(hM:M0.length=n):Loop (fun(s:Int×(List (List Rat)))=>fF (n:Int) M0 s.1 s.2) (0,ay n n f)=some (ay n (n+n) (jj n f)):=by
 have hL:=dG (body:=fun(s:Int×(List (List Rat)))=>fF (n:Int) M0 s.1 s.2) n (fun i=>(List.range n).map fun r=>if r<i then(List.range (n+n)).map (jj n f r)else(List.range n).map (f r)) ((List.range n).map fun r=>if r<n then(List.range (n+n)).map (jj n f r)else(List.range n).map (f r)) (fun i hi=>by
  unfold fF;rw[hM,if_pos (decide_eq_true (by omega)),y4 hi,Option.bind_some,if_neg (by omega),aG (by simp;omega),Int.toNat_natCast,Int.toNat_natCast,oD,y4 hi,Option.bind_some,if_pos rfl,n5,Option.bind_some,FO hi hn,dT (by simp;omega),Option.bind_some,Int.toNat_natCast,AW hi,oD,ct hi (by omega)]
  congr 3
  apply List.map_congr_left;intro r _;by_cases e:r=i
  ·rw[if_pos e,if_pos (by omega),e]
  ·rw[if_neg e,if_neg e];by_cases e2:r<i
   ·rw[if_pos e2,if_pos (by omega)]
   ·rw[if_neg e2,if_neg (by omega)]) (by
  unfold fF;rw[hM,if_neg (by simp)])
 have e0:ay n n f=(List.range n).map fun r=>if r<0 then(List.range (n+n)).map (jj n f r)else(List.range n).map (f r):=by
  unfold ay;apply List.map_congr_left;intro r _;rw[if_neg (by omega)]
 have e1:ay n (n+n) (jj n f)=(List.range n).map fun r=>if r<n then(List.range (n+n)).map (jj n f r)else(List.range n).map (f r):=by
  unfold ay;apply List.map_congr_left;intro r hr;rw[if_pos (by simpa using hr)]
 rw[e0,e1];exact hL
theorem Ha(hn:n<=6):Loop (fun(s:Int×(List (List Rat)))=>f_ (ay n n f) s.1 s.2) (0,([]:List (List Rat)))=some (ay n (n+n) (jj n f)):=by
 have hL:=dG (body:=fun(s:Int×(List (List Rat)))=>f_ (ay n n f) s.1 s.2) n (fun i=>ay i (n+n) (jj n f)) (ay n (n+n) (jj n f)) (fun i hi=>by
  unfold f_;rw[aI,if_pos (decide_eq_true (by omega)),cj hi,Option.bind_some,aG (by simp;omega),aG (by simp;omega),n5,Option.bind_some,Int.toNat_natCast,FO hi hn,dT (by simp;omega),Option.bind_some,aG (by rw[aI];omega),Int.toNat_natCast,AW hi,ct hi (by omega),kl]) (by
  unfold f_;rw[aI,if_neg (by simp)])
 exact hL
theorem FK(hn:n<=6){M0:List (List Rat)}(hM:M0.length=n):Loop (fun(s:Int×(List (List Rat)))=>eX (n:Int) M0 s.1 s.2) (0,ay n (n+n) g)=some (ay n n fun i j=>g i (n+j)):=by
 have hL:=dG (body:=fun(s:Int×(List (List Rat)))=>eX (n:Int) M0 s.1 s.2) n (fun i=>(List.range n).map fun r=>if r<i then(List.range n).map (fun j=>g r (n+j))else(List.range (n+n)).map (g r)) ((List.range n).map fun r=>if r<n then(List.range n).map (fun j=>g r (n+j))else(List.range (n+n)).map (g r)) (fun i hi=>by
  unfold eX uc;have e1:((List.range n).map fun r=>if r<i then(List.range n).map (fun j=>g r (n+j))else(List.range (n+n)).map (g r))[i]?=some ((List.range (n+n)).map (g i)):=by
   rw[List.getElem?_eq_getElem (by simpa using hi)];simp
  rw[hM,if_pos (decide_eq_true (by omega)),y4 hi,Option.bind_some,if_neg (by omega),aG (by simp;omega),Int.toNat_natCast,Int.toNat_natCast,e1,Option.bind_some,aG (by simp;omega),Option.bind_some,Option.bind_some,yC,oD,ct hi (by omega)]
  congr 3
  apply List.map_congr_left;intro r _;by_cases e:r=i
  ·rw[if_pos e,if_pos (by omega),e]
  ·rw[if_neg e];by_cases e2:r<i
   ·rw[if_pos e2,if_pos (by omega)]
   ·rw[if_neg e2,if_neg (by omega)]) (by
  unfold eX;rw[hM,if_neg (by simp)])
 have e0:ay n (n+n) g=(List.range n).map fun r=>if r<0 then(List.range n).map (fun j=>g r (n+j))else(List.range (n+n)).map (g r):=by
  unfold ay;apply List.map_congr_left;intro r _;rw[if_neg (by omega)]
 have e1:ay n n (fun i j=>g i (n+j))=(List.range n).map fun r=>if r<n then(List.range n).map (fun j=>g r (n+j))else(List.range (n+n)).map (g r):=by
  unfold ay;apply List.map_congr_left;intro r hr;rw[if_pos (by simpa using hr)]
 rw[e0,e1];exact hL
theorem FY(hn:n<=6):Loop (fun(s:Int×(List (List Rat)))=>fk (ay n n f) (ay n (n+n) g) s.1 s.2) (0,([]:List (List Rat)))=some (ay n n fun i j=>g i (n+j)):=by
 have hL:=dG (body:=fun(s:Int×(List (List Rat)))=>fk (ay n n f) (ay n (n+n) g) s.1 s.2) n (fun i=>ay i n fun i j=>g i (n+j)) (ay n n fun i j=>g i (n+j)) (fun i hi=>by
  unfold fk;rw[aI,aI,if_pos (decide_eq_true (by omega)),cj hi,Option.bind_some,aG (by simp;omega),Int.toNat_natCast,yC,aG (by simp;omega),aG (by rw[aI];omega),ct hi (by omega),kl]) (by
  unfold fk;rw[aI,if_neg (by simp)])
 exact hL
theorem me.and{J J':Nat->(Nat->Nat->Rat)->List Int->Prop}(h:me n m J)(h':me n m J'):me n m (fun k f pv=>J k f pv/\J' k f pv) where
 step:=fun k f bY at' hk hpl hge hat hp hz hJ=>⟨h.step k f bY at' hk hpl hge hat hp hz hJ.1,h'.step k f bY at' hk hpl hge hat hp hz hJ.2⟩
 skip:=fun k f bY hk hpl ha hJ=>⟨h.skip k f bY hk hpl ha hJ.1,h'.skip k f bY hk hpl ha hJ.2⟩
theorem Ec{J:Nat->(Nat->Nat->Rat)->List Int->Prop}(f:Nat->Nat->Rat)(hn:n<=6)(hf:ld f 300)(kp:me n (n+n) J)(hJ0:J 0 (jj n f) []):∃g pv,(∃k',k'<=n+n/\J k' g pv)/\F5 300 n (n+n) g pv/\pv.length=n/\indep n (n+n) g/\(∀v,mD n (n+n) g v↔mD n (n+n) (jj n f) v)/\
  ((gF (ay n n f)=some (ay n n (fun i j=>g i (n+j)),0)/\lg (ay n n f)=some (ay n n (fun i j=>g i (n+j)),true)/\(0<n->pv[n-1]?=some (((n-1:Nat)):Int)))\/
   (gF (ay n n f)=some ([],8)/\lg (ay n n f)=some ([],false)/\0<n/\pv[n-1]?≠some (((n-1:Nat)):Int))):=by
 have hc:aJ (ay n n f)=n:=by
  by_cases h:n=0
  ·subst h;rfl
  ·exact lY (by omega)
 have hrl:∀r∈ay n n f,r.length<=30:=fun r hr=>by rw[oF hr];omega
 obtain⟨g,pv,⟨k',hk',⟨⟨hJ1,hJ2⟩,hJ⟩,hz,hor⟩,e1,e2,hR⟩:=sR n (n+n) (jj n f) ((tI (jj n f)).and kp) ⟨⟨zF,fun _=>Iff.rfl⟩,hJ0⟩ (by decide) (Nat.le_trans (D7 (show n<=6 from hn)) (by decide)) hn (by omega) (fun h=>by omega) (fun i j=>by
  unfold jj
  split
  ·exact hf i j
  ·split<;>exact Nat.le_trans (show sz _<=1 by decide+kernel) (by decide))
 have hlen:pv.length=n:=u9 (J:=fun _ _ _=>True) hJ1 hR.len (hor.elim (fun h=>.inl (h▸hz)) .inr);refine⟨g,pv,⟨k',hk',hJ⟩,hR,hlen,hJ1,hJ2,?_⟩;have hp:∀X,(((if(decide ((n:Int)>0))=true then(ix pv (IntKind.i64.wrap ((n:Int)-1))).bind fun v36=>(if(v36 !=(IntKind.i64.wrap ((n:Int)-1)))=true then some (Ex.ret (([]:List (List Rat)),(8:Int)))else some (Ex.cp (ay n (n+n) g)))else some (Ex.cp (ay n (n+n) g)))).bind fun o30=>(match o30 with|Ex.cp v39=>((Loop (fun(s:Int×(List (List Rat)))=>eX (n:Int) v39 s.1 s.2) (0,v39)).bind fun v56=>some (v56)).bind fun v57=>some (v57,0)|Ex.ret (r58,r59)=>some (r58,r59)))=X->gF (ay n n f)=X:=fun X hX=>by
  unfold gF;rw[dO _ (by rw[aI];omega),kA,hc,aI,Option.bind_some];simp only[Bool.not_true,Bool.false_eq_true,if_false];rw[if_neg (by simp),rh _ (by rw[aI];omega) hrl,Option.bind_some,G5 hn aI,Option.bind_some,Option.bind_some,e1,Option.bind_some];exact hX
 have hr:∀X,(((if(decide ((n:Int)>0))=true then(ix pv (IntKind.i64.wrap ((n:Int)-1))).bind fun v29=>(if(v29 !=(IntKind.i64.wrap ((n:Int)-1)))=true then some (Ex.ret (([]:List (List Rat)),false))else some (Ex.cp ()))else some (Ex.cp ()))).bind fun o25=>(match o25 with|Ex.cp ()=>((Loop (fun(s:Int×(List (List Rat)))=>fk (ay n n f) (ay n (n+n) g) s.1 s.2) (0,([]:List (List Rat)))).bind fun v46=>some (v46)).bind fun v47=>some (v47,true)|Ex.ret (r48,r49)=>some (r48,r49)))=X->lg (ay n n f)=X:=fun X hX=>by
  unfold lg;rw[Ha hn,Option.bind_some,Option.bind_some,e2,Option.bind_some,aI];simp only;rw[hlen,if_neg (by simp)];exact hX
 by_cases h0:n=0
 ·subst h0;refine .inl ⟨hp _ ?_,hr _ ?_,fun h=>by omega⟩
  ·rw[if_neg (by decide),Option.bind_some];simp only;rw[FK hn aI];rfl
  ·rw[if_neg (by decide),Option.bind_some];simp only;rw[FY hn];rfl
 ·have hw:IntKind.i64.wrap ((n:Int)-1)=((n-1:Nat):Int):=by rw[IntKind.wrap_i64];omega
  have hix:ix pv (((n-1:Nat)):Int)=some (pv[n-1]'(by omega)):=dT (by omega);have hg:pv[n-1]?=some (pv[n-1]'(by omega)):=List.getElem?_eq_getElem (by omega);by_cases hq:pv[n-1]'(by omega)=((n-1:Nat):Int)
  ·refine .inl ⟨hp _ ?_,hr _ ?_,fun _=>by rw[hg,hq]⟩
   ·rw[if_pos (decide_eq_true (by omega)),hw,hix,Option.bind_some,if_neg (by simp[hq]),Option.bind_some];simp only;rw[FK hn aI];rfl
   ·rw[if_pos (decide_eq_true (by omega)),hw,hix,Option.bind_some,if_neg (by simp[hq]),Option.bind_some];simp only;rw[FY hn];rfl
  ·refine .inr ⟨hp _ ?_,hr _ ?_,by omega,fun h=>hq (by rw[hg]at h;exact Option.some.inj h)⟩
   ·rw[if_pos (decide_eq_true (by omega)),hw,hix,Option.bind_some,if_pos (by rw[bne_iff_ne];exact hq),Option.bind_some]
   ·rw[if_pos (decide_eq_true (by omega)),hw,hix,Option.bind_some,if_pos (by rw[bne_iff_ne];exact hq),Option.bind_some]
end Go.Am
namespace Go.Am
open Go.RowKit
set_option maxRecDepth 100000
noncomputable section
end
end Go.Am
namespace Go.Am
variable {M:List (List Rat)} {n:Nat}
theorem rK{g:Nat->Rat}:∀{l l':List Nat},bK (l++l') g=bK l g+bK l' g
 |[],l'=>by show bK l' g=0+_;grind
 |a::l,l'=>by
  show g a+bK (l++l') g=g a+bK l g+_;rw[rK];grind
theorem l_{g h:Nat->Rat}:∀n,iq g h n=bK (List.range n) fun j=>g j*h j
 |0=>rfl
 |n+1=>by
  rw[List.range_succ,rK,←l_ n];show iq g h n+g n*h n=_+(g n*h n+0)
  grind
end Go.Am
namespace Go.Am
variable {n m k:Nat} {g:Nat->Nat->Rat} {pv:List Int}
end Go.Am
namespace Go.Am
open Go.RowKit
set_option maxRecDepth 100000
noncomputable section
end
end Go.Am
namespace Go.Am
variable {M:List (List Rat)}
def mK(M:List (List Rat))(b:List Rat)(i j:Nat):Rat:=if j<aJ M then fZ M i j else b.getD i 0
def pD(M:List (List Rat)):Nat:=if M.length=0 then 0 else aJ M+1
theorem E5{b:List Rat}(h:right M=true){i:Nat}(hi:i<M.length):M[i]++[b.getD i 0]=(List.range (aJ M+1)).map (mK M b i):=by
 rw[ml];have h1:M[i]=(List.range (aJ M)).map (mK M b i):=by
  conv=>lhs;rw[wY (r:=M[i])]
  rw[iy h hi];apply List.map_congr_left;intro j hj;unfold mK fZ;rw[if_pos (by simpa using hj),dM hi]
 have h2:mK M b i (aJ M)=b.getD i 0:=by unfold mK;rw[if_neg (by omega)]
 rw[h2,←h1]
theorem HO{b:List Rat}(h:right M=true)(hl:M.length<=6)(hc:aJ M<=20)(hb:b.length=M.length):Loop (fun(s:Int×(List (List Rat)))=>ic M b s.1 s.2) (0,([]:List (List Rat)))=some (ay M.length (aJ M+1) (mK M b)):=by
 have hL:=dG (body:=fun(s:Int×(List (List Rat)))=>ic M b s.1 s.2) M.length (fun i=>ay i (aJ M+1) (mK M b)) (ay M.length (aJ M+1) (mK M b)) (fun i hi=>by
  unfold ic lE;rw[if_pos (decide_eq_true (by omega)),dT hi,Option.bind_some,aG (by rw[iy h hi];omega),Option.bind_some,Ik b 0 i (by omega),Option.bind_some,aG (by rw[iy h hi];simp only[List.length_singleton];omega),aG (by rw[aI];omega),ct hi (by omega),E5 h hi,kl]) (by
  unfold ic;rw[if_neg (by simp)])
 exact hL
end Go.Am
namespace Go.Am
variable {n m k:Nat} {f g:Nat->Nat->Rat} {pv:List Int}
structure Rr(n k:Nat)(g:Nat->Nat->Rat)(pv:List Int):Prop where
 bY:∀p (hp:p<pv.length),∃q:Nat,pv[p]=(q:Int)/\q<k/\(∀i,i<n->g i q=if i=p then 1 else 0)/\∀j,j<q->g p j=0
 D8:pv.Pairwise (·< ·)
theorem ru{row at' j:Nat}(hz:jr f n row k)(h1:row<=at')(h2:at'<n)(hj:j<k){i:Nat}(hi:i<n):je f row k at' 0 i j=f i j:=by
 have hr0:f row j=0:=hz row j (Nat.le_refl _) (by omega) hj;have ha0:f at' j=0:=hz at' j h1 h2 hj;have hs:∀i,aY f row at' i j=f i j:=fun i=>by
  unfold aY;by_cases e1:i=at'
  ·rw[if_pos e1,e1,hr0,ha0]
  ·rw[if_neg e1];by_cases e2:i=row
   ·rw[if_pos e2,e2,hr0,ha0]
   ·rw[if_neg e2]
 have hc:∀i,cu (aY f row at') row (1/aY f row at' row k) 0 i j=f i j:=fun i=>by
  unfold cu;by_cases e:i=row
  ·rw[if_pos ⟨e,Nat.zero_le _⟩,hs,e,hr0];grind
  ·rw[if_neg (fun h=>e h.1),hs]
 unfold je ft;rw[hc,hc,hr0]
 split<;>grind
theorem Ci{row at':Nat}(h1:row<=at')(h2:at'<n)(hp:f at' k≠0){i:Nat}(hi:i<n):je f row k at' 0 i k=if i=row then 1 else 0:=by
 have hpp:aY f row at' row k=f at' k:=by
  unfold aY;by_cases e:row=at'
  ·rw[if_pos e,e]
  ·rw[if_neg e,if_pos rfl]
 have hrk:cu (aY f row at') row (1/aY f row at' row k) 0 row k=1:=by
  unfold cu;rw[if_pos ⟨rfl,Nat.zero_le _⟩,hpp];have:=Rat.div_mul_cancel (a:=1) hp
  grind
 unfold je ft;by_cases e:i=row
 ·rw[if_neg (fun h=>h.1 e),if_pos e,e,hrk]
 ·rw[if_neg e,hrk];by_cases e2:cu (aY f row at') row (1/aY f row at' row k) 0 i k=0
  ·rw[if_neg (fun h=>h.2.1 e2),e2]
  ·rw[if_pos ⟨e,e2,Nat.zero_le _⟩];grind
theorem xy:me n m (fun k f pv=>Rr n k f pv) where
 step:=fun k f bY at' hk hpl hge hat hp hz hJ=>by
  have hl:(bY++[(k:Int)]).length=bY.length+1:=by simp
  refine⟨fun p hpp=>?_,?_⟩
  ·by_cases e:p<bY.length
   ·obtain⟨q,e1,e2,e3,e4⟩:=hJ.bY p e;refine⟨q,by rw[List.getElem_append_left e];exact e1,by omega,fun i hi=>?_,fun j hj=>?_⟩
    ·rw[ru hz hge hat e2 hi];exact e3 i hi
    ·rw[ru hz hge hat (by omega) (by omega)];exact e4 j hj
   ·have ep:p=bY.length:=by omega
    subst ep;refine⟨k,by simp,by omega,fun i hi=>Ci hge hat hp hi,fun j hj=>?_⟩;rw[ru hz hge hat hj hpl];exact hz _ j (Nat.le_refl _) hpl hj
  ·rw[List.pairwise_append];refine⟨hJ.D8,List.pairwise_singleton _ _,fun a ha b hb=>?_⟩;rw[List.mem_singleton]at hb;obtain⟨p,hpp,rfl⟩:=List.getElem_of_mem ha;obtain⟨q,e1,e2,_⟩:=hJ.bY p hpp;omega
 skip:=fun k f bY _ _ _ hJ=>⟨fun p hp=>by
  obtain⟨q,e1,e2,e3⟩:=hJ.bY p hp;exact⟨q,e1,by omega,e3⟩,hJ.D8⟩
theorem Bf(f0:Nat->Nat->Rat):me n m (fun _ f _=>∀v,mD n m f v↔mD n m f0 v) where
 step:=fun k f bY at' _ hpl hge hat hp _ hJ=>fun v=>by
  unfold je;rw[xQ hpl,vL (sN hp),xS hpl hat];exact hJ v
 skip:=fun _ _ _ _ _ _ h=>h
theorem l8(h:pv.Pairwise (·< ·)):pv.Nodup:=h.imp (fun h=>by omega)
theorem Rr.idx(h:Rr n k g pv){p:Nat}(hp:p<pv.length):pv.idxOf pv[p]=p:=(l8 h.D8).idxOf_getElem p hp
def fM(g:Nat->Nat->Rat)(pv:List Int)(q j:Nat):Rat:=if j=q then 1 else if(j:Int)∈pv then-(g (pv.idxOf (j:Int)) q)else 0
theorem mT{q:Nat}:fM g pv q q=1:=if_pos rfl
theorem kN{q j:Nat}(h:(j:Int)∉pv)(hne:j≠q):fM g pv q j=0:=by unfold fM;rw[if_neg hne,if_neg h]
theorem Rr.qW(h:Rr n k g pv){p q j:Nat}(hp:p<pv.length)(e:pv[p]=(j:Int))(hne:j≠q):fM g pv q j=-(g p q):=by
 unfold fM;rw[if_neg hne,if_pos (e▸List.getElem_mem hp),←e,h.idx hp]
def th(n m:Nat)(g:Nat->Nat->Rat)(l:Nat):Prop:=∀i j,l<=i->i<n->j<m->g i j=0
theorem uV(h:Rr n k g pv)(hl:pv.length<=n)(hz:th n m g pv.length){q:Nat}(hq:q<m)(hf:(q:Int)∉pv)(hpm:∀p∈pv,p<(m:Int)):mD n m g (fM g pv q):=by
 intro i hi;by_cases hip:i<pv.length
 ·obtain⟨a,e1,e2,e3,e4⟩:=h.bY i hip;have ham:a<m:=by have:=hpm _ (List.getElem_mem hip);omega
  have haq:a≠q:=fun e=>hf (by rw[←e,←e1];exact List.getElem_mem hip);rw[iC List.nodup_range (List.mem_range.2 hq),mT,i6 List.nodup_range (List.mem_range.2 ham) (fun j hj hja=>?_)]
  ·rw[if_neg haq,h.qW hip e1 haq,e3 i hi,if_pos rfl];grind
  ·by_cases e:j=q
   ·rw[if_pos e]
   ·rw[if_neg e];by_cases hjp:(j:Int)∈pv
    ·obtain⟨p,hp,ep⟩:=List.getElem_of_mem hjp;obtain⟨b,f1,f2,f3,f4⟩:=h.bY p hp;have:b=j:=by omega
     subst this;have hpi:¬i=p:=fun e=>by subst e;omega
     rw[f3 i hi,if_neg hpi];grind
    ·rw[kN hjp e];grind
 ·exact gK fun j hj=>by rw[hz i j (by omega) hi (List.mem_range.1 hj)];grind
theorem yu(h:Rr n k g pv){q j:Nat}(hj:q<j):fM g pv q j=0:=by
 by_cases hjp:(j:Int)∈pv
 ·obtain⟨p,hp,ep⟩:=List.getElem_of_mem hjp;obtain⟨b,f1,f2,f3,f4⟩:=h.bY p hp;rw[h.qW hp ep (by omega),f4 q (by omega)];grind
 ·exact kN hjp (by omega)
theorem AG{n1 n2 k1 k2:Nat}{g1 g2:Nat->Nat->Rat}{pv1 pv2:List Int}(h1:Rr n1 k1 g1 pv1)(l1:pv1.length<=n1)(z1:th n1 m g1 pv1.length)(m1:∀p∈pv1,p<(m:Int))
  (h2:Rr n2 k2 g2 pv2)(l2:pv2.length<=n2)(m2:∀p∈pv2,p<(m:Int))(hn:∀v,mD n1 m g1 v->mD n2 m g2 v){x:Int}(hx:x∈pv2):x∈pv1:=by
 refine Classical.byContradiction fun hc=>?_;obtain⟨p,hp,ep⟩:=List.getElem_of_mem hx;obtain⟨q,e1,e2,e3,e4⟩:=h2.bY p hp;have hqm:q<m:=by have:=m2 x hx;omega
 have hxq:x=(q:Int):=by omega
 subst hxq;have:=hn _ (uV h1 l1 z1 hqm hc m1) p (by omega);rw[i6 List.nodup_range (List.mem_range.2 hqm) (fun j hj hjq=>?_),mT,e3 p (by omega),if_pos rfl]at this
 ·exact absurd this (by decide+kernel)
 ·by_cases e:j<q
  ·rw[e4 j e];grind
  ·rw[yu h1 (by omega)];grind
theorem EE{n1 n2 k1 k2:Nat}{g1 g2:Nat->Nat->Rat}{pv1 pv2:List Int}(h1:Rr n1 k1 g1 pv1)(l1:pv1.length<=n1)(z1:th n1 m g1 pv1.length)(m1:∀p∈pv1,p<(m:Int))
  (h2:Rr n2 k2 g2 pv2)(l2:pv2.length<=n2)(z2:th n2 m g2 pv2.length)(m2:∀p∈pv2,p<(m:Int))(hn:∀v,mD n1 m g1 v↔mD n2 m g2 v):pv1.length=pv2.length:=
 ((List.perm_ext_iff_of_nodup (l8 h1.D8) (l8 h2.D8)).2 fun x=>⟨AG h2 l2 z2 m2 h1 l1 m1 (fun v=>(hn v).2),AG h1 l1 z1 m1 h2 l2 m2 (fun v=>(hn v).1)⟩).length_eq
theorem vo{h:Nat->Nat->Rat}{l':List Nat}:∀{l:List Nat},bK l (fun a=>bK l' fun b=>h a b)=bK l' (fun b=>bK l fun a=>h a b)
 |[]=>(gK fun _ _=>rfl).symm
 |a::l=>by
  have:bK (a::l) (fun a=>bK l' fun b=>h a b)=bK l' (h a)+bK l (fun a=>bK l' fun b=>h a b):=rfl;rw[this,vo,←iM];exact bw fun b _=>rfl
theorem FC(h:Rr n k g pv)(hl:pv.length<=n)(hpm:∀p∈pv,p<(m:Int)){d:Nat->Rat}(hd:mD n m g d){j:Nat}(hj:j<m):
  d j=bK (List.range m) fun q=>(if(q:Int)∈pv then 0 else d q)*fM g pv q j:=by
 by_cases hjp:(j:Int)∈pv
 ·obtain⟨p,hp,ep⟩:=List.getElem_of_mem hjp;obtain⟨b,f1,f2,f3,f4⟩:=h.bY p hp;have hb:b=j:=by omega
  subst hb;have h1:=hd p (by omega);rw[iC List.nodup_range (List.mem_range.2 hj),f3 p (by omega),if_pos rfl]at h1;have h2:bK (List.range m) (fun q=>(if(q:Int)∈pv then 0 else d q)*fM g pv q b)=-1*bK (List.range m) (fun i=>if i=b then 0 else g p i*d i):=by
   rw[←fS];refine bw fun q hq=>?_;by_cases e:q=b
   ·subst e;rw[if_pos hjp,if_pos rfl];grind
   ·rw[if_neg e];by_cases hqp:(q:Int)∈pv
    ·rw[if_pos hqp];obtain⟨r,hr,er⟩:=List.getElem_of_mem hqp;obtain⟨c,g1,g2,g3,g4⟩:=h.bY r hr;have hc:c=q:=by omega
     subst hc;have:¬p=r:=fun e'=>by subst e';omega
     rw[g3 p (by omega),if_neg this];grind
    ·rw[if_neg hqp,h.qW hp ep (Ne.symm e)];grind
  rw[h2];grind
 ·rw[i6 List.nodup_range (List.mem_range.2 hj) (fun q _ hq=>by rw[kN hjp (Ne.symm hq)];grind),if_neg hjp,mT];grind
theorem IM(h:Rr n k g pv)(hl:pv.length<=n)(hpm:∀p∈pv,p<(m:Int)){d w:Nat->Rat}(hd:mD n m g d)(hw:∀q,q<m->(q:Int)∉pv->bK (List.range m) (fun j=>fM g pv q j*w j)=0):bK (List.range m) (fun j=>d j*w j)=0:=by
 rw[bw (h:=fun j=>bK (List.range m) fun q=>(if(q:Int)∈pv then 0 else d q)*(fM g pv q j*w j)) (fun j hj=>by
  rw[FC h hl hpm hd (List.mem_range.1 hj),Rat.mul_comm,←fS];exact bw fun q _=>by grind),vo]
 refine gK fun q hq=>?_;rw[fS];by_cases e:(q:Int)∈pv
 ·rw[if_pos e];grind
 ·rw[hw q (List.mem_range.1 hq) e];grind
theorem uq{g:Nat->Rat}:∀{l l':List Nat},bK (l++l') g=bK l g+bK l' g
 |[],l'=>by show bK l' g=0+bK l' g;grind
 |a::l,l'=>by
  show g a+bK (l++l') g=g a+bK l g+bK l' g;rw[uq];grind
theorem oC{g:Nat->Rat}:bK (List.range (m+1)) g=bK (List.range m) g+g m:=by
 rw[List.range_succ,uq];show _+(g m+0)=_
 grind
def jk(g:Nat->Nat->Rat)(pv:List Int)(c j:Nat):Rat:=if(j:Int)∈pv then g (pv.idxOf (j:Int)) c else 0
theorem B_(h:Rr n k g pv)(hl:pv.length<=n)(hz:th n (m+1) g pv.length)(hpm:∀p∈pv,p<(m:Int)):mD n (m+1) g (fun j=>if j=m then-1 else jk g pv m j):=by
 intro i hi;by_cases hip:i<pv.length
 ·obtain⟨a,e1,e2,e3,e4⟩:=h.bY i hip;have ham:a<m:=by have:=hpm _ (List.getElem_mem hip);omega
  rw[oC];dsimp only;rw[if_pos rfl,i6 List.nodup_range (List.mem_range.2 ham) (fun j hj hja=>?_)]
  ·rw[if_neg (by omega),e3 i hi,if_pos rfl];unfold jk;rw[if_pos (e1▸List.getElem_mem hip),←e1,h.idx hip];grind
  ·have hjm:=List.mem_range.1 hj;rw[if_neg (by omega)];unfold jk;by_cases hjp:(j:Int)∈pv
   ·obtain⟨p,hp,ep⟩:=List.getElem_of_mem hjp;obtain⟨b,f1,f2,f3,f4⟩:=h.bY p hp;have:b=j:=by omega
    subst this;have hpi:¬i=p:=fun e=>by subst e;omega
    rw[f3 i hi,if_neg hpi];grind
   ·rw[if_neg hjp];grind
 ·exact gK fun j hj=>by rw[hz i j (by omega) hi (List.mem_range.1 hj)];grind
theorem B0(h:Rr n k g pv)(hl:pv.length<=n){v:Nat->Rat}(hv:mD n (m+1) g (fun j=>if j=m then-1 else v j)):(m:Int)∉pv:=by
 intro hm;obtain⟨p,hp,ep⟩:=List.getElem_of_mem hm;obtain⟨q,e1,e2,e3,e4⟩:=h.bY p hp;have hq:q=m:=by omega
 subst hq;have:=hv p (by omega);rw[oC]at this;dsimp only at this;rw[if_pos rfl,e3 p (by omega),if_pos rfl,gK (fun j hj=>by rw[e4 j (List.mem_range.1 hj)];grind)]at this;exact absurd this (by decide+kernel)
def bS(pv:List Int)(m:Nat):List Nat:=(List.range m).filter fun q:Nat=>decide ((q:Int)∉pv)
theorem q5{q:Nat}:q∈bS pv m↔q<m/\(q:Int)∉pv:=by unfold bS;simp
theorem xz:(bS pv m).Nodup:=List.nodup_range.filter _
theorem Ba(h:Rr n k g pv)(hpm:∀p∈pv,p<(m:Int)):(bS pv m).length+pv.length=m:=by
 have h1:((List.range m).filter fun q:Nat=>decide ((q:Int)∈pv)).length=pv.length:=by
  rw[←List.length_map (f:=fun q:Nat=>(q:Int))];refine((List.perm_ext_iff_of_nodup ?_ (l8 h.D8)).2 fun x=>?_).length_eq
  ·refine(List.nodup_range.filter _).map (f:=fun q:Nat=>(q:Int)) (fun a b hab=>?_);omega
  ·rw[List.mem_map]
   constructor
   ·rintro⟨q,hq,rfl⟩;simpa using(List.mem_filter.1 hq).2
   ·intro hx;obtain⟨p,hp,ep⟩:=List.getElem_of_mem hx;obtain⟨q,e1,e2,_⟩:=h.bY p hp;have:=hpm x hx;exact⟨q,List.mem_filter.2 ⟨List.mem_range.2 (by omega),by rw[←e1,ep];simpa using hx⟩,by omega⟩
 have h2:∀l:List Nat,(l.filter fun q:Nat=>decide ((q:Int)∉pv)).length+(l.filter fun q:Nat=>decide ((q:Int)∈pv)).length=l.length:=by
  intro l
  induction l with
  |nil=>rfl
  |cons a l ih=>
   by_cases e:(a:Int)∈pv
   ·rw[List.filter_cons_of_neg (by simpa using e),List.filter_cons_of_pos (by simpa using e),List.length_cons,List.length_cons];omega
   ·rw[List.filter_cons_of_pos (by simpa using e),List.filter_cons_of_neg (by simpa using e),List.length_cons,List.length_cons];omega
 have:=h2 (List.range m);rw[h1,List.length_range]at this;exact this
def gP(g:Nat->Nat->Rat)(pv:List Int)(m i j:Nat):Rat:=fM g pv ((bS pv m).getD i 0) j
theorem lh{i:Nat}(hi:i<(bS pv m).length){j:Nat}:gP g pv m i j=fM g pv (bS pv m)[i] j:=by
 unfold gP;rw[List.getD_eq_getElem?_getD,List.getElem?_eq_getElem hi];rfl
theorem Bn:indep (bS pv m).length m (gP g pv m):=fun c hc i hi=>by
 have hm:=q5.1 (List.getElem_mem hi);have:=hc (bS pv m)[i] hm.1;rw[i6 List.nodup_range (List.mem_range.2 hi) (fun i' hi' hne=>by
  have hi':=List.mem_range.1 hi';rw[lh hi',kN hm.2 (fun e=>hne ((List.getElem_inj xz).1 e).symm)];grind),lh hi,mT]at this
 grind
theorem Cw(h:Rr n k g pv)(hl:pv.length<=n)(hpm:∀p∈pv,p<(m:Int)){d:Nat->Rat}(hd:mD n m g d)(w:Nat->Rat):
  mD (bS pv m).length m (gP g pv m) w↔mD ((bS pv m).length+1) m (fun i j=>if i<(bS pv m).length then gP g pv m i j else d j) w:=by
 constructor
 ·intro hw i hi;by_cases e:i<(bS pv m).length
  ·simp only[if_pos e];exact hw i e
  ·simp only[if_neg e];refine IM h hl hpm hd fun q hq hqp=>?_;obtain⟨r,hr,er⟩:=List.getElem_of_mem (q5.2 ⟨hq,hqp⟩);have:=hw r hr;rw[←er];simpa only[lh hr]using this
 ·intro hw i hi;have:=hw i (by omega);simpa only[if_pos hi]using this
end Go.Am
namespace Go.Am
variable {n m k:Nat} {f g:Nat->Nat->Rat} {pv:List Int}
def P2(f:Nat->Nat->Rat)(a b c d:Nat):Rat:=f a c*f b d-f b c*f a d
def P3(f:Nat->Nat->Rat)(a b e c d h:Nat):Rat:=f a c*P2 f b e d h-f b c*P2 f a e d h+f e c*P2 f a b d h
def dg:Nat->(Nat->Nat->Rat)->Rat
 |0,_=>1
 |1,f=>f 0 0
 |2,f=>P2 f 0 1 0 1
 |3,f=>P3 f 0 1 2 0 1 2
 |4,f=>f 0 0*P3 f 1 2 3 1 2 3-f 1 0*P3 f 0 2 3 1 2 3+f 2 0*P3 f 0 1 3 1 2 3-f 3 0*P3 f 0 1 2 1 2 3
 |_,_=>0
theorem kO(hn:n<=4)(h:∀i j,i<n->j<n->f i j=g i j):dg n f=dg n g:=by
 match n,hn with
 |0,_=>rfl
 |1,_=>exact h 0 0 (by decide) (by decide)
 |2,_=>
  simp only[dg,P2];rw[h 0 0 (by decide) (by decide),h 0 1 (by decide) (by decide),h 1 0 (by decide) (by decide),h 1 1 (by decide) (by decide)]
 |3,_=>
  simp only[dg,P3,P2];rw[h 0 0 (by decide) (by decide),h 0 1 (by decide) (by decide),h 1 0 (by decide) (by decide),h 1 1 (by decide) (by decide),h 0 2 (by decide) (by decide),h 1 2 (by decide) (by decide),h 2 0 (by decide) (by decide),h 2 1 (by decide) (by decide),h 2 2 (by decide) (by decide)]
 |4,_=>
  simp only[dg,P3,P2];rw[h 0 0 (by decide) (by decide),h 0 1 (by decide) (by decide),h 1 0 (by decide) (by decide),h 1 1 (by decide) (by decide),h 0 2 (by decide) (by decide),h 1 2 (by decide) (by decide),h 2 0 (by decide) (by decide),h 2 1 (by decide) (by decide),h 2 2 (by decide) (by decide),
   h 0 3 (by decide) (by decide),h 1 3 (by decide) (by decide),h 2 3 (by decide) (by decide),h 3 0 (by decide) (by decide),h 3 1 (by decide) (by decide),h 3 2 (by decide) (by decide),h 3 3 (by decide) (by decide)]
theorem mZ(hn:n<=4){row:Nat}(hr:row<n)(s:Rat):dg n (cu f row s 0)=s*dg n f:=by
 match n,hn with
 |0,_=>omega
 |1,_=>
  obtain rfl:row=0:=by omega
  simp[dg,cu];grind
 |2,_=>rcases(show row=0\/row=1 by omega)with rfl|rfl<;>simp[dg,P2,cu]<;>grind
 |3,_=>rcases(show row=0\/row=1\/row=2 by omega)with rfl|rfl|rfl<;>simp[dg,P2,P3,cu]<;>grind
 |4,_=>rcases(show row=0\/row=1\/row=2\/row=3 by omega)with rfl|rfl|rfl|rfl<;>simp[dg,P2,P3,cu]<;>grind
theorem oH(hn:n<=4){row:Nat}(hr:row<n){M:Nat->Rat}(hM:M row=0):dg n (fun i j=>f i j-M i*f row j)=dg n f:=by
 match n,hn with
 |0,_=>omega
 |1,_=>
  obtain rfl:row=0:=by omega
  simp only[dg,hM];grind
 |2,_=>rcases(show row=0\/row=1 by omega)with rfl|rfl<;>simp only[dg,P2,hM]<;>grind
 |3,_=>rcases(show row=0\/row=1\/row=2 by omega)with rfl|rfl|rfl<;>simp only[dg,P2,P3,hM]<;>grind
 |4,_=>rcases(show row=0\/row=1\/row=2\/row=3 by omega)with rfl|rfl|rfl|rfl<;>simp only[dg,P2,P3,hM]<;>grind
theorem qI(hn:n<=4){a b:Nat}(ha:a<n)(hb:b<n)(hab:a≠b):dg n (aY f a b)=-dg n f:=by
 match n,hn with
 |0,_=>omega
 |1,_=>omega
 |2,_=>rcases(show(a=0/\b=1)\/(a=1/\b=0)by omega)with⟨rfl,rfl⟩|⟨rfl,rfl⟩<;>simp[dg,P2,aY]<;>grind
 |3,_=>rcases(show a=0\/a=1\/a=2 by omega)with rfl|rfl|rfl<;>rcases(show b=0\/b=1\/b=2 by omega)with rfl|rfl|rfl<;>first|exact absurd rfl hab|(simp[dg,P2,P3,aY];grind)
 |4,_=>rcases(show a=0\/a=1\/a=2\/a=3 by omega)with rfl|rfl|rfl|rfl<;>rcases(show b=0\/b=1\/b=2\/b=3 by omega)with rfl|rfl|rfl|rfl<;>first|exact absurd rfl hab|(simp[dg,P2,P3,aY];grind)
theorem BW(hn:n<=4)(h:∀i j,i<n->j<n->f i j=if i=j then 1 else 0):dg n f=1:=by
 rw[kO hn h]
 match n,hn with
 |0,_=>rfl
 |1,_=>rfl
 |2,_=>decide+kernel
 |3,_=>decide+kernel
 |4,_=>decide+kernel
theorem uW(hn:n<=4)(h0:0<n)(h:∀j,j<n->f (n-1) j=0):dg n f=0:=by
 match n,hn with
 |0,_=>omega
 |1,_=>exact h 0 (by decide)
 |2,_=>
  have a:=h 0 (by decide);have b:=h 1 (by decide);simp only[Nat.reduceSub]at a b;simp only[dg,P2];rw[a,b];grind
 |3,_=>
  have a:=h 0 (by decide);have b:=h 1 (by decide);have c:=h 2 (by decide);simp only[Nat.reduceSub]at a b c;simp only[dg,P3,P2];rw[a,b,c];grind
 |4,_=>
  have a:=h 0 (by decide);have b:=h 1 (by decide);have c:=h 2 (by decide);have d:=h 3 (by decide);simp only[Nat.reduceSub]at a b c d;simp only[dg,P3,P2];rw[a,b,c,d];grind
theorem xO(hn:n<4)(h:∀i,i<n->f (i+1) 0=0):dg (n+1) f=f 0 0*dg n (fun i j=>f (i+1) (j+1)):=by
 match n,hn with
 |0,_=>simp only[dg];grind
 |1,_=>
  have a:=h 0 (by decide);simp only[dg,P2];rw[a];grind
 |2,_=>
  have a:=h 0 (by decide);have b:=h 1 (by decide);simp only[dg,P3,P2];rw[a,b];grind
 |3,_=>
  have a:=h 0 (by decide);have b:=h 1 (by decide);have c:=h 2 (by decide);simp only[dg,P3,P2];rw[a,b,c];grind
theorem xL(hn:n<4)(h:f 0 0≠0):dg (n+1) f=f 0 0*dg n (rY f):=by
 rw[←oH (row:=0) (M:=fun i=>if i=0 then 0 else f i 0/f 0 0) (show n+1<=4 by omega) (by omega) (by simp),xO hn (fun i _=>?_)]
 ·have e:(fun i j=>f (i+1) (j+1)-(fun i=>if i=0 then 0 else f i 0/f 0 0) (i+1)*f 0 (j+1))=rY f:=by
   funext i j
   unfold rY;simp
  simp only at e|-;rw[e,if_pos trivial];grind
 ·simp only[Nat.add_one_ne_zero,if_false];rw[Rat.div_mul_cancel h];grind
theorem lX:∀{n:Nat} {f:Nat->Nat->Rat},n<=4->kh n f=dg n f
 |0,_,_=>rfl
 |n+1,f,hn=>by
  unfold kh;by_cases h:f 0 0=0
  ·rw[if_neg (by simpa using h)];by_cases hp:cX f 0 (n+1) 0<n+1
   ·rw[if_pos hp];have hne:=pY (f:=f) (k:=0) (n+1) 0 rfl hp;generalize cX f 0 (n+1) 0=p at*;have hp0:p≠0:=fun e=>hne (e▸h);have e0:aY f 0 p 0 0=f p 0:=by unfold aY;rw[if_neg (Ne.symm hp0),if_pos rfl]
    rw[lX (by omega)];have:=xL (n:=n) (f:=aY f 0 p) (by omega) (by rw[e0];exact hne);rw[e0,qI hn (by omega) hp (Ne.symm hp0)]at this
    grind
   ·rw[if_neg hp];have:=oN (f:=f) (k:=0) (n+1) 0 rfl hp;rw[xO (by omega) (fun i hi=>this (i+1) (Nat.zero_le _) (Nat.succ_lt_succ hi)),h];grind
  ·rw[if_pos h,xL (by omega) h,lX (by omega)]
def lL(n:Nat)(f B:Nat->Nat->Rat)(i j:Nat):Rat:=bK (List.range n) fun l=>f i l*B l j
theorem Bs{a b:Nat}{B:Nat->Nat->Rat}:lL n (aY f a b) B=aY (lL n f B) a b:=by
 funext i j
 unfold lL aY;by_cases e1:i=b
 ·simp only[if_pos e1]
 ·simp only[if_neg e1];by_cases e2:i=a
  ·simp only[if_pos e2]
  ·simp only[if_neg e2]
theorem tP{row:Nat}{s:Rat}{B:Nat->Nat->Rat}:lL n (cu f row s 0) B=cu (lL n f B) row s 0:=by
 funext i j
 unfold lL cu;by_cases e:i=row
 ·simp only[if_pos (And.intro e (Nat.zero_le _)),Nat.zero_le,and_true,if_pos e];rw[Rat.mul_comm,←fS];exact bw fun l _=>by grind
 ·simp only[Nat.zero_le,and_true,if_neg e]
theorem vt{row k:Nat}{B:Nat->Nat->Rat}:lL n (ft f row k 0) B=fun i j=>lL n f B i j-elimM f row k i*lL n f B row j:=by
 funext i j
 unfold lL;have:bK (List.range n) (fun l=>f i l*B l j)-elimM f row k i*bK (List.range n) (fun l=>f row l*B l j)=bK (List.range n) (fun l=>f i l*B l j)+(-(elimM f row k i))*bK (List.range n) (fun l=>f row l*B l j):=by grind
 rw[this,←fS,←iM];exact bw fun l _=>by rw[pT];grind
theorem q8{row k:Nat}:elimM f row k row=0:=by unfold elimM;rw[if_pos rfl]
theorem tH(hn:n<=4){row k:Nat}(hr:row<n):dg n (ft f row k 0)=dg n f:=by
 have e:ft f row k 0=fun i j=>f i j-elimM f row k i*f row j:=by
  funext i j;exact pT
 rw[e,oH hn hr q8]
def A6(n:Nat)(f0 f:Nat->Nat->Rat):Prop:=∃c:Rat,c≠0/\dg n f0=c*dg n f/\∀B,dg n (lL n f0 B)=c*dg n (lL n f B)
theorem Bv(hn:n<=4){f0:Nat->Nat->Rat}{row k at':Nat}(hpl:row<n)(hat:at'<n)(hp:f at' k≠0)(hJ:A6 n f0 f):A6 n f0 (je f row k at' 0):=by
 obtain⟨c,h0,h1,h2⟩:=hJ;have hs:=sN (f:=f) (row:=row) hp;unfold je;generalize 1/aY f row at' row k=s at*;by_cases e:row=at'
 ·have e':aY f row at'=f:=by
   funext i j
   unfold aY;rw[e];by_cases h:i=at'
   ·rw[if_pos h,h]
   ·rw[if_neg h,if_neg h]
  rw[e'];refine⟨c/s,?_,?_,fun B=>?_⟩
  ·intro h;have:=Rat.div_mul_cancel (a:=c) hs;rw[h]at this;grind
  ·rw[tH hn hpl,mZ hn hpl,h1];have:=Rat.div_mul_cancel (a:=c) hs
   grind
  ·rw[vt,oH hn hpl q8,tP,mZ hn hpl,h2];have:=Rat.div_mul_cancel (a:=c) hs
   grind
 ·refine⟨-(c/s),?_,?_,fun B=>?_⟩
  ·intro h;have:=Rat.div_mul_cancel (a:=c) hs;grind
  ·rw[tH hn hpl,mZ hn hpl,qI hn hpl hat e,h1];have:=Rat.div_mul_cancel (a:=c) hs
   grind
  ·rw[vt,oH hn hpl q8,tP,mZ hn hpl,Bs,qI hn hpl hat e,h2];have:=Rat.div_mul_cancel (a:=c) hs
   grind
theorem BJ(hn:n<=4)(f0:Nat->Nat->Rat):me n m (fun _ f _=>A6 n f0 f) where
 step:=fun _ _ _ _ _ hpl _ hat hp _ hJ=>Bv hn hpl hat hp hJ
 skip:=fun _ _ _ _ _ _ h=>h
theorem BL{B:Nat->Nat->Rat}(h:∀i j,i<n->j<n->g i j=if i=j then 1 else 0){i j:Nat}(hi:i<n):lL n g B i j=B i j:=by
 unfold lL;rw[i6 List.nodup_range (List.mem_range.2 hi) (fun l hl hne=>by rw[h i l hi (List.mem_range.1 hl),if_neg (Ne.symm hne)];grind),h i i hi hi,if_pos rfl];grind
theorem BH(hn:n<=4){f0:Nat->Nat->Rat}(hJ:A6 n f0 g)(h:∀i j,i<n->j<n->g i j=if i=j then 1 else 0):dg n f0≠0/\∀B,dg n (lL n f0 B)=dg n f0*dg n B:=by
 obtain⟨c,h0,h1,h2⟩:=hJ;rw[BW hn h]at h1;have h1':dg n f0=c:=by grind
 refine⟨by rw[h1'];exact h0,fun B=>?_⟩;rw[h2 B,h1',kO (g:=B) hn (fun i j hi _=>BL h hi)]
theorem A7(hn:n<=4)(h0:0<n){f0:Nat->Nat->Rat}(hJ:A6 n f0 g)(h:∀j,j<n->g (n-1) j=0):dg n f0=0/\∀B,dg n (lL n f0 B)=dg n f0*dg n B:=by
 obtain⟨c,_,h1,h2⟩:=hJ;rw[uW hn h0 h]at h1;refine⟨by grind,fun B=>?_⟩;rw[h2 B,uW hn h0 (fun j _=>?_)]
 ·grind
 ·unfold lL;exact gK fun l hl=>by rw[h l (List.mem_range.1 hl)];grind
end Go.Am
namespace Go.Am
variable {n m k:Nat} {g:Nat->Nat->Rat} {pv:List Int}
theorem xo(hn:pv.Nodup)(hp:∀p∈pv,0<=p){i:Nat}(hi:i<pv.length)(h z:Nat->Rat):((List.range k).map fun j:Nat=>if(j:Int)∈pv.take i then h (pv.idxOf (j:Int))else z j).set (pv[i]).toNat (h i)=(List.range k).map fun j:Nat=>if(j:Int)∈pv.take (i+1)then h (pv.idxOf (j:Int))else z j:=by
 rw[oD];apply List.map_congr_left;intro j _;have h0:=hp _ (List.getElem_mem hi);have ht:(j:Int)∈pv.take (i+1)↔(j:Int)∈pv.take i\/(j:Int)=pv[i]:=by
  rw[List.take_succ_eq_append_getElem hi,List.mem_append,List.mem_singleton]
 by_cases e:j=pv[i].toNat
 ·have e':(j:Int)=pv[i]:=by omega
  rw[if_pos e,if_pos (ht.2 (.inr e')),e',hn.idxOf_getElem i hi]
 ·have e':(j:Int)≠pv[i]:=by omega
  rw[if_neg e];by_cases e2:(j:Int)∈pv.take i
  ·rw[if_pos e2,if_pos (ht.2 (.inl e2))]
  ·rw[if_neg e2,if_neg (fun h=>(ht.1 h).elim e2 e')]
theorem HT(hn:n<=6)(hk:k<m\/pv=[])(hlen:pv.length<=n)(hnd:pv.Nodup)(hr:∀p∈pv,0<=p/\p<(k:Int)):
  Loop (fun(s:Int×(List Rat))=>ig (k:Int) (ay n m g) pv s.1 s.2) (0,List.replicate k (0:Rat))=some ((List.range k).map (jk g pv k)):=by
 have hL:=dG (body:=fun(s:Int×(List Rat))=>ig (k:Int) (ay n m g) pv s.1 s.2) pv.length (fun i=>(List.range k).map fun j:Nat=>if(j:Int)∈pv.take i then(fun r=>g r k) (pv.idxOf (j:Int))else(fun _=>(0:Rat)) j) ((List.range k).map (jk g pv k)) (fun i hi=>by
  unfold ig;have hkm:k<m:=by
   rcases hk with h|h
   ·exact h
   ·subst h;simp at hi
  obtain⟨h1,h2⟩:=hr pv[i] (List.getElem_mem hi);rw[if_pos (decide_eq_true (by omega)),dT hi,Option.bind_some,cj (show i<n by omega),Option.bind_some,eO hkm,Option.bind_some,pS pv[i].toNat (by omega) (by simp;omega),Option.bind_some,ct hi (by omega),xo hnd (fun p hp=>(hr p hp).1) hi (fun r=>g r k)]) (by
  unfold ig;rw[if_neg (by simp),List.take_length]
  rfl)
 have e0:List.replicate k (0:Rat)=(List.range k).map fun j:Nat=>if(j:Int)∈pv.take 0 then(fun r=>g r k) (pv.idxOf (j:Int))else(fun _=>(0:Rat)) j:=by
  apply List.ext_getElem
  ·simp
  ·intro j h1 h2;simp
 rw[e0];exact hL
theorem H6{c:Nat}(hn:n<=6)(hk:c<m\/pv=[])(hck:c<k)(hlen:pv.length<=n)(hnd:pv.Nodup)(hr:∀p∈pv,0<=p/\p<(k:Int))(hc:(c:Int)∉pv):
  Loop (fun(s:Int×(List Rat))=>ir (ay n m g) pv (c:Int) s.1 s.2) (0,(List.replicate k (0:Rat)).set c 1)=some ((List.range k).map (fM g pv c)):=by
 have hL:=dG (body:=fun(s:Int×(List Rat))=>ir (ay n m g) pv (c:Int) s.1 s.2) pv.length (fun i=>(List.range k).map fun j:Nat=>if(j:Int)∈pv.take i then(fun r=>-(g r c)) (pv.idxOf (j:Int))else(fun j=>if j=c then(1:Rat)else 0) j) ((List.range k).map (fM g pv c)) (fun i hi=>by
  unfold ir;have hkm:c<m:=by
   rcases hk with h|h
   ·exact h
   ·subst h;simp at hi
  obtain⟨h1,h2⟩:=hr pv[i] (List.getElem_mem hi);have en:uf (g i c)=some (-(g i c)):=rfl;rw[if_pos (decide_eq_true (by omega)),dT hi,Option.bind_some,cj (show i<n by omega),Option.bind_some,eO hkm,Option.bind_some,en,Option.bind_some,pS pv[i].toNat (by omega) (by simp;omega),Option.bind_some,ct hi (by omega),xo hnd (fun p hp=>(hr p hp).1) hi (fun r=>-(g r c))]) (by
  unfold ir;rw[if_neg (by simp),List.take_length]
  congr 2
  apply List.map_congr_left;intro j _;unfold fM;by_cases e:j=c
  ·subst e;simp[hc]
  ·rw[if_neg e];by_cases e2:(j:Int)∈pv
   ·rw[if_pos e2,if_pos e2]
   ·simp[e,e2])
 have e0:(List.replicate k (0:Rat)).set c 1=(List.range k).map fun j:Nat=>if(j:Int)∈pv.take 0 then(fun r=>-(g r c)) (pv.idxOf (j:Int))else(fun j=>if j=c then(1:Rat)else 0) j:=by
  apply List.ext_getElem
  ·simp
  ·intro j h1 h2;by_cases e:j=c
   ·subst e;rw[List.getElem_set_self];simp
   ·rw[List.getElem_set_ne (Ne.symm e)];simp[e]
 rw[e0];exact hL
theorem yV{i:Nat}:bS pv (i+1)=bS pv i++(if(i:Int)∈pv then []else [i]):=by
 unfold bS;rw[List.range_succ,List.filter_append]
 congr 1
 by_cases e:(i:Int)∈pv
 ·rw[if_pos e,List.filter_cons_of_neg (by simpa using e)];rfl
 ·rw[if_neg e,List.filter_cons_of_pos (by simpa using e)];rfl
theorem tY{i:Nat}:(bS pv i).length<=i:=by
 unfold bS;exact Nat.le_trans (List.length_filter_le _ _) (by simp)
theorem HF(hn:n<=6)(hk:k<=30)(hkm:k<=m)(hlen:pv.length<=n)(hnd:pv.Nodup)(hr:∀p∈pv,0<=p/\p<(k:Int)):
  Loop (fun(s:Int×(List (List Rat)))=>gC (k:Int) (ay n m g) pv s.1 s.2) (0,([]:List (List Rat)))=some (ay (bS pv k).length k (gP g pv k)):=by
 have hL:=dG (body:=fun(s:Int×(List (List Rat)))=>gC (k:Int) (ay n m g) pv s.1 s.2) k (fun i=>(bS pv i).map fun c=>(List.range k).map (fM g pv c)) ((bS pv k).map fun c=>(List.range k).map (fM g pv c)) (fun i hi=>by
  unfold gC;rw[if_pos (decide_eq_true (by omega)),rP pv _ (by omega),Option.bind_some,yV];by_cases hc:(i:Int)∈pv
  ·rw[if_pos (decide_eq_true hc),Option.bind_some,ct hi (by omega),if_pos hc,List.append_nil]
  ·rw[if_neg (by rw[decide_eq_true_eq];exact hc),aG (show(0:Int)<=(k:Int)/\(56:Int)*(k:Int)<=281474976710656/\((k:Int):Int)<=9223372036854775807 by omega),n5,Option.bind_some];rw[dT (show i<(List.replicate ((k:Int)).toNat (0:Rat)).length by simp;omega),Option.bind_some];have hv:=H6 (n:=n) (m:=m) (g:=g) (k:=k) (c:=i) hn (.inl (by omega)) hi hlen hnd hr hc;have hfl:=tY (pv:=pv) (i:=i);simp only[Int.toNat_natCast];rw[hv,Option.bind_some,Option.bind_some,aG (by simp only[List.length_map,List.length_singleton];omega),Option.bind_some,ct hi (by omega),if_neg hc,List.map_append]
   rfl) (by
  unfold gC;rw[if_neg (by simp)])
 have e1:(bS pv k).map (fun c=>(List.range k).map (fM g pv c))=ay (bS pv k).length k (gP g pv k):=by
  unfold ay;apply List.ext_getElem
  ·simp
  ·intro i h1 h2;rw[List.length_map]at h1;simp only[List.getElem_map,List.getElem_range];apply List.map_congr_left;intro j _;rw[lh h1]
 have:Loop (fun(s:Int×(List (List Rat)))=>gC (k:Int) (ay n m g) pv s.1 s.2) (0,([]:List (List Rat)))=_:=hL;rw[this,e1]
theorem yz{C:Nat}(hg:ld g C)(hC:1<=C)(q j:Nat):sz (fM g pv q j)<=C:=by
 unfold fM
 split
 ·exact Nat.le_trans (show sz (1:Rat)<=1 by decide+kernel) hC
 ·split
  ·rw[pK];exact hg _ _
  ·exact Nat.le_trans (show sz (0:Rat)<=1 by decide+kernel) hC
theorem Ar{C:Nat}(hg:ld g C)(hC:1<=C)(q j:Nat):sz (jk g pv q j)<=C:=by
 unfold jk
 split
 ·exact hg _ _
 ·exact Nat.le_trans (show sz (0:Rat)<=1 by decide+kernel) hC
structure FB(n m:Nat)(f g:Nat->Nat->Rat)(pv:List Int):Prop where
 rr:Rr n m g pv
 le:pv.length<=n
 zr:th n m g pv.length
 pm:∀p∈pv,0<=p/\p<(m:Int)
 mD:∀v,mD n m g v↔mD n m f v
theorem Ef{k':Nat}{f:Nat->Nat->Rat}(hk:k'<=m)(h1:Rr n k' g pv)(h2:∀v,Go.Am.mD n m g v↔Go.Am.mD n m f v)(hz:jr g n pv.length k')(ho:k'=m\/pv.length=n)(hl:pv.length<=n):FB n m f g pv where
 rr:=⟨fun p hp=>by
  obtain⟨q,e1,e2,e3⟩:=h1.bY p hp;exact⟨q,e1,by omega,e3⟩,h1.D8⟩
 le:=hl
 zr:=fun i j hi cY hj=>by
  rcases ho with h|h
  ·subst h;exact hz i j hi cY hj
  ·omega
 pm:=fun p hp=>by
  obtain⟨i,hi,rfl⟩:=List.getElem_of_mem hp;obtain⟨q,e1,e2,_⟩:=h1.bY i hi;omega
 mD:=h2
theorem yG{f:Nat->Nat->Rat}:Rr n 0 f []:=⟨fun p hp=>by simp at hp,List.Pairwise.nil⟩
theorem rS{J:Nat->(Nat->Nat->Rat)->List Int->Prop}(n m:Nat)(f:Nat->Nat->Rat){C:Nat}(kp:me n m J)(hJ:J 0 f [])(hC:2<=C)(hCn:C*8^n<=1000000000)(hn:n<=6)(hm:m<=30)(h0:n=0->m=0)(hf:ld f C):
  ∃g pv,(∃k',J k' g pv)/\eU (ay n m f)=some (ay n m g,pv)/\F5 C n m g pv/\FB n m f g pv:=by
 obtain⟨g,pv,⟨k',hk',⟨⟨hJ1,hJ2⟩,hJ3⟩,hz,hor⟩,e1,_,hR⟩:=sR n m f ((xy.and (Bf f)).and kp) ⟨⟨yG,fun _=>Iff.rfl⟩,hJ⟩ hC hCn hn hm h0 hf;exact⟨g,pv,⟨k',hJ3⟩,e1,hR,Ef hk' hJ1 hJ2 hz hor hR.len⟩
theorem sw{M:List (List Rat)}{b:List Rat}{u:Nat->Rat}:mD n (aJ M+1) (mK M b) u↔∀i,i<n->bK (List.range (aJ M)) (fun j=>fZ M i j*u j)+b.getD i 0*u (aJ M)=0:=by
 have e:∀i,bK (List.range (aJ M+1)) (fun j=>mK M b i j*u j)=bK (List.range (aJ M)) (fun j=>fZ M i j*u j)+b.getD i 0*u (aJ M):=fun i=>by
  rw[oC];have e1:mK M b i (aJ M)=b.getD i 0:=by unfold mK;rw[if_neg (by omega)]
  rw[e1]
  congr 1
  exact bw fun j hj=>by
   have:mK M b i j=fZ M i j:=by unfold mK;rw[if_pos (List.mem_range.1 hj)]
   rw[this]
 unfold mD
 constructor
 ·intro h i hi;rw[←e];exact h i hi
 ·intro h i hi;rw[e];exact h i hi
theorem CT{M:List (List Rat)}{b:List Rat}{v:Nat->Rat}{C:Nat}(h:right M=true)(hl:M.length<=6)(hc:aJ M<=20)(hb:b.length=M.length)(hC:2<=C)(hCn:C*8^M.length<=1000000000)(hf:ld (mK M b) C)
  (hv:∀i,i<M.length->bK (List.range (aJ M)) (fun j=>fZ M i j*v j)=b.getD i 0):
  ∃g pv,oI M b=some ((List.range (aJ M)).map (jk g pv (aJ M)),ay (bS pv (aJ M)).length (aJ M) (gP g pv (aJ M)),0)/\Rr M.length (pD M) g pv/\pv.length<=M.length/\ld g (C*8^pv.length)/\(∀p∈pv,0<=p/\p<(aJ M:Int))/\th M.length (aJ M) g pv.length/\
   (∀i,i<M.length->bK (List.range (aJ M)) (fun j=>fZ M i j*jk g pv (aJ M) j)=b.getD i 0)/\
   (∀q,q<aJ M->(q:Int)∉pv->∀i,i<M.length->bK (List.range (aJ M)) (fun j=>fZ M i j*fM g pv q j)=0)/\
   (∀d:Nat->Rat,(∀i,i<M.length->bK (List.range (aJ M)) (fun j=>fZ M i j*d j)=0)->mD M.length (aJ M) g d):=by
 have hag:ay M.length (aJ M+1) (mK M b)=ay M.length (pD M) (mK M b):=by
  unfold pD;by_cases h0:M.length=0
  ·rw[h0,if_pos rfl];rfl
  ·rw[if_neg h0]
 obtain⟨g,pv,_,e1,hR,hD⟩:=rS (J:=fun _ _ _=>True) M.length (pD M) (mK M b) ⟨fun _ _ _ _ _ _ _ _ _ _ _=>trivial,fun _ _ _ _ _ _ _=>trivial⟩ trivial hC hCn hl (by unfold pD;split<;>omega) (fun h0=>by unfold pD;rw[if_pos h0]) hf;have hpl:=hD.le;have hm:(aJ M:Int)∉pv:=by
  by_cases h0:M.length=0
  ·have:pv=[]:=List.eq_nil_of_length_eq_zero (by omega);rw[this];exact List.not_mem_nil
  ·have ha:pD M=aJ M+1:=by unfold pD;rw[if_neg h0]
   have hrr:=hD.rr;have hnl:=hD.mD;rw[ha]at hrr hnl;refine B0 hrr hpl (v:=v) ((hnl _).2 (sw.2 fun i hi=>?_));rw[if_pos rfl,←hv i hi,bw (h:=fun j=>fZ M i j*v j) (fun j hj=>by rw[if_neg (by have:=List.mem_range.1 hj;omega)])]
   grind
 have hrg:∀p∈pv,0<=p/\p<(aJ M:Int):=fun p hp=>by
  obtain⟨h1,h2⟩:=hR.JI p hp;have h3:p≠(aJ M:Int):=fun e=>hm (e▸hp);refine⟨h1,?_⟩;unfold pD at h2;by_cases h0:M.length=0
  ·rw[if_pos h0]at h2;omega
  ·rw[if_neg h0]at h2;omega
 have hkm:aJ M<pD M\/pv=[]:=by
  unfold pD;by_cases h0:M.length=0
  ·right
   exact List.eq_nil_of_length_eq_zero (by omega)
  ·left;rw[if_neg h0];omega
 have hkm2:aJ M<=pD M:=by
  unfold pD;by_cases h0:M.length=0
  ·rw[if_pos h0];have:aJ M=0:=by unfold aJ;rw[jG (by omega)];rfl
   omega
  ·rw[if_neg h0];omega
 have hnd:=l8 hD.rr.D8;have hS:oI M b=some ((List.range (aJ M)).map (jk g pv (aJ M)),ay (bS pv (aJ M)).length (aJ M) (gP g pv (aJ M)),0):=by
  unfold oI;rw[dO M (by omega),h];simp only[Option.bind_some,Bool.not_true,Bool.false_eq_true,if_false];rw[if_neg (by simp[hb]),HO h hl hc hb];simp only[Option.bind_some];rw[hag,e1];simp only[Option.bind_some];rw[rP pv _ (by omega)];simp only[Option.bind_some];rw[if_neg (by rw[decide_eq_true_eq];exact hm),aG (by omega)];simp only[Int.toNat_natCast];rw[HT hl hkm hpl hnd hrg,Option.bind_some,Option.bind_some,HF hl (by omega) hkm2 hpl hnd hrg]
  rfl
 refine⟨g,pv,hS,hD.rr,hpl,hR.sz,hrg,fun i j hi cY hj=>hD.zr i j hi cY (by omega),?_⟩;by_cases h0:M.length=0
 ·exact⟨fun i hi=>by omega,fun _ _ _ i hi=>by omega,fun _ _ i hi=>by omega⟩
 ·have ha:pD M=aJ M+1:=by unfold pD;rw[if_neg h0]
  have hrr:=hD.rr;have hnl:=hD.mD;have hzr:=hD.zr;rw[ha]at hrr hnl hzr;refine⟨fun i hi=>?_,fun q hq hqp i hi=>?_,fun d hd i hi=>?_⟩
  ·have:=sw.1 ((hnl _).1 (B_ hrr hpl hzr (fun p hp=>(hrg p hp).2))) i hi;rw[if_pos rfl,bw (h:=fun j=>fZ M i j*jk g pv (aJ M) j) (fun j hj=>by rw[if_neg (by have:=List.mem_range.1 hj;omega)])]at this
   grind
  ·have:=sw.1 ((hnl _).1 (uV hrr hpl hzr (q:=q) (by omega) hqp (fun p hp=>by have:=hrg p hp;omega))) i hi;rw[kN hm (by omega)]at this
   grind
  ·have:=(hnl (fun j=>if j=aJ M then 0 else d j)).2 (sw.2 fun i hi=>by
    rw[if_pos rfl,bw (h:=fun j=>fZ M i j*d j) (fun j hj=>by rw[if_neg (by have:=List.mem_range.1 hj;omega)]),hd i hi];grind) i hi
   rw[oC]at this;dsimp only at this;rw[if_pos rfl,bw (h:=fun j=>g i j*d j) (fun j hj=>by rw[if_neg (by have:=List.mem_range.1 hj;omega)])]at this
   grind
theorem rm{J:Nat->(Nat->Nat->Rat)->List Int->Prop}(n m:Nat)(f:Nat->Nat->Rat){C:Nat}(kp:me n m J)(hJ:J 0 f [])(hC:2<=C)(hCn:C*8^n<=1000000000)(hn:n<=6)(hm:m<=30)(h0:n=0->m=0)(hf:ld f C):
  ∃g pv,(∃k',J k' g pv)/\mE (ay n m f)=some (ay n m g,pv,0)/\F5 C n m g pv/\FB n m f g pv:=by
 obtain⟨g,pv,h1,e1,h2⟩:=rS n m f kp hJ hC hCn hn hm h0 hf;refine⟨g,pv,h1,?_,h2⟩;unfold mE;rw[dO _ (by rw[aI];omega),kA];simp only[Option.bind_some,Bool.not_true,Bool.false_eq_true,if_false];rw[rh _ (by rw[aI];omega) (fun r hr=>by rw[oF hr];omega),Option.bind_some,e1]
 rfl
theorem D6{k:Nat}{d:Nat->Rat}{B B2:Nat}(hrr:Rr n k g pv)(hl:pv.length<=n)(hpm:∀p∈pv,p<(m:Int))(hm:m<=5)(hd:mD n m g d)(hB:2<=B)(hB2:2<=B2)(hs:ld (gP g pv m) B)(hBn:B*8^(bS pv m).length<=1000000000)
  (hs2:ld (fun i j=>if i<(bS pv m).length then gP g pv m i j else d j) B2)(hBn2:B2*8^((bS pv m).length+1)<=1000000000):
  ∃A p A' p',mE (ay (bS pv m).length m (gP g pv m))=some (A,p,0)/\mE (ay ((bS pv m).length+1) m (fun i j=>if i<(bS pv m).length then gP g pv m i j else d j))=some (A',p',0)/\p.length=(bS pv m).length/\p'.length=(bS pv m).length:=by
 have hfl:=tY (pv:=pv) (i:=m);have hK:∃g1 p1,mE (ay (bS pv m).length m (gP g pv m))=some (ay (bS pv m).length m g1,p1,0)/\p1.length=(bS pv m).length/\FB (bS pv m).length m (gP g pv m) g1 p1:=by
  by_cases h0:(bS pv m).length=0
  ·have hi:indep 0 m (gP g pv m):=fun c _ i hi=>by omega
   obtain⟨g1,p1,_,e1,hR,hD⟩:=rm (J:=fun _ _ _=>True) 0 0 (gP g pv m) ⟨fun _ _ _ _ _ _ _ _ _ _ _=>trivial,fun _ _ _ _ _ _ _=>trivial⟩ trivial hB (by rw[h0]at hBn;exact hBn) (by omega) (by omega) (fun _=>rfl) hs;have hp1:p1=[]:=List.eq_nil_of_length_eq_zero (by have:=hD.le;omega);rw[h0];refine⟨g1,p1,e1,by rw[hp1];rfl,?_⟩;rw[hp1];exact⟨⟨fun p hp=>by simp at hp,List.Pairwise.nil⟩,Nat.le_refl _,fun i j _ hi _=>by omega,fun p hp=>by simp at hp,fun v=>⟨fun _ i hi=>by omega,fun _ i hi=>by omega⟩⟩
  ·obtain⟨g1,p1,⟨k',hi,_⟩,e1,hR,hD⟩:=rm (J:=fun _ f _=>indep (bS pv m).length m f/\∀v,mD (bS pv m).length m f v↔mD (bS pv m).length m (gP g pv m) v) (bS pv m).length m (gP g pv m) (tI (gP g pv m)) ⟨Bn,fun _=>Iff.rfl⟩ hB hBn (by omega) (by omega) (fun h=>absurd h h0) hs;exact⟨g1,p1,e1,u9 (J:=fun _ _ _=>True) hi hD.le (.inl hD.zr),hD⟩
 obtain⟨g1,p1,e1,hl1,hD1⟩:=hK;obtain⟨g2,p2,_,e2,hR2,hD2⟩:=rm (J:=fun _ _ _=>True) ((bS pv m).length+1) m (fun i j=>if i<(bS pv m).length then gP g pv m i j else d j) ⟨fun _ _ _ _ _ _ _ _ _ _ _=>trivial,fun _ _ _ _ _ _ _=>trivial⟩ trivial hB2 hBn2 (by omega) (by omega) (fun h=>by omega) hs2;refine⟨_,p1,_,p2,e1,e2,hl1,?_⟩;rw[←hl1];exact EE hD2.rr hD2.le hD2.zr (fun p hp=>(hD2.pm p hp).2) hD1.rr hD1.le hD1.zr (fun p hp=>(hD1.pm p hp).2) (fun v=>((hD2.mD v).trans (Cw hrr hl hpm hd v).symm).trans (hD1.mD v).symm)
end Go.Am
namespace Go.Am
open Go.RowKit
section
variable {P:Program} {os:List Oper} {c:Ctx} {T T':List (Nat×D)} {H H':List (Nat×Hp)} {sps:List Spec}
variable {ops:Array Oper} {dst:Option Nat} {ty:TypeId} {pos:String} {aft:Array Edge}
end
end Go.Am
namespace Go.Am
open Go.RowKit
set_option maxRecDepth 100000
noncomputable section
end
end Go.Am
namespace Go.Am
variable {M N:List (List Rat)} {n:Nat}
theorem DZ{f:Nat->Nat->Rat}{i j:Nat}(hi:i<n)(hj:j<n):fZ (ay n n f) i j=f i j:=by
 rw[z8 (by rw[aI];exact hi) (by simp[ay];exact hj)];simp[ay]
end Go.Am
