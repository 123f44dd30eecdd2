/- Part 4 of 7 of what the laws of layer 1 share: contracts of functions of the program, each for every argument of its description; no condition beyond it. -/
import Derived.Test.YtgnepgenefcnpaaGreatDoorBhC
set_option linter.unusedVariables false
set_option linter.unusedSimpArgs false
namespace Go.Am
theorem HN(x:Rat):1<=sz x:=by
 have h:=x.den_nz;have h1:bN 1<=bN x.den:=dI (by omega);rw[nH]at h1;exact Nat.le_trans h1 (Nat.le_max_right _ _)
theorem i4(a b:Rat):sz (a/b)<=sz a+sz b:=by
 by_cases h:b=0
 ·subst h;have e:a/0=0:=by rw[Rat.div_def,Rat.inv_zero,Rat.mul_zero]
  have:=HN a;rw[e];have e2:sz (0:Rat)=1:=rfl;omega
 ·exact Ic a b h
theorem Ka(a:Rat):a<=(((a.num.natAbs:Nat):Int):Rat)/\-a<=(((a.num.natAbs:Nat):Int):Rat):=by
 have hd:(0:Rat)<(((a.den:Nat):Int):Rat):=by
  have:=a.den_nz
  exact_mod_cast (by omega:(0:Int)<((a.den:Nat):Int))
 have key:∀z:Int,z<=((a.num.natAbs:Nat):Int)->(z:Rat)/(((a.den:Nat):Int):Rat)<=(((a.num.natAbs:Nat):Int):Rat):=by
  intro z hz;apply Rat.not_lt.1;intro h;rw[Rat.lt_div_iff hd]at h;have h2:(((a.num.natAbs:Nat):Int)*((a.den:Nat):Int))<z:=by exact_mod_cast h
  have h3:((a.num.natAbs:Nat):Int)*1<=((a.num.natAbs:Nat):Int)*((a.den:Nat):Int):=Int.mul_le_mul_of_nonneg_left (by have:=a.den_nz;omega) (by omega);omega
 have e:=sW a;refine⟨?_,?_⟩
 ·have:=key a.num (by omega);rw[e]at this;exact this
 ·have:=key (-a.num) (by omega);have e2:((-a.num:Int):Rat)/(((a.den:Nat):Int):Rat)=-a:=by
   rw[show((-a.num:Int):Rat)=-(a.num:Rat)by simp];have:-(a.num:Rat)/(((a.den:Nat):Int):Rat)=-((a.num:Rat)/(((a.den:Nat):Int):Rat)):=by grind
   rw[this,e]
  rw[e2]at this;exact this
theorem Cd{a:Rat}{p q most:Int}(hq:0<=q)(hm:q<=most)(h1:a*(q:Rat)-(p:Rat)<=1)(h2:-1<=a*(q:Rat)-(p:Rat)):p.natAbs<=a.num.natAbs*most.toNat+1:=by
 obtain⟨a1,a2⟩:=Ka a;have hqr:(0:Rat)<=(q:Rat):=by exact_mod_cast hq
 generalize a.num.natAbs=N at*;have b1:a*(q:Rat)<=((N:Int):Rat)*(q:Rat):=Rat.mul_le_mul_of_nonneg_right a1 hqr;have b2:-a*(q:Rat)<=((N:Int):Rat)*(q:Rat):=Rat.mul_le_mul_of_nonneg_right a2 hqr;have c1:(p:Rat)<=((N:Int):Rat)*(q:Rat)+1:=by grind
 have c2:-(p:Rat)<=((N:Int):Rat)*(q:Rat)+1:=by grind
 have d1:p<=(N:Int)*q+1:=by exact_mod_cast c1
 have d2:-p<=(N:Int)*q+1:=by exact_mod_cast c2
 have d3:(N:Int)*q<=(N:Int)*most:=Int.mul_le_mul_of_nonneg_left hm (by omega);obtain⟨m,rfl⟩:=Int.eq_ofNat_of_zero_le (show 0<=most by omega);rw[Int.toNat_natCast];have d4:((N*m:Nat):Int)=(N:Int)*(m:Int):=Int.natCast_mul N m;omega
theorem JV{a:Rat}{most:Int}{t:Rat}{p q lp lq:Int}(h:CF a most t p q lp lq)(hq1:1<=q):p.natAbs<=a.num.natAbs*most.toNat+1:=by
 have ht:1<=t:=by
  rcases h.one with⟨e1,_⟩|⟨_,e2⟩
  ·omega
  ·exact e2
 have hqr:(1:Rat)<=(q:Rat):=by exact_mod_cast hq1
 have hlqr:(0:Rat)<=(lq:Rat):=by exact_mod_cast h.Cu
 have hW:1<=t*(q:Rat)+(lq:Rat):=by
  have:=Rat.mul_le_mul_of_nonneg_right ht (show(0:Rat)<=(q:Rat)by grind)
  grind
 have hrel:=h.rel;have f1:(a*q-p)*(t*q+lq)=-((p*lq-lp*q:Int):Rat):=by
  have:((p*lq-lp*q:Int):Rat)=(p:Rat)*lq-lp*q:=by simp
  rw[this];grind
 have hdet:((p*lq-lp*q:Int):Rat)=1\/((p*lq-lp*q:Int):Rat)=-1:=by
  rcases h.Jy with e|e<;>rw[e]<;>simp
 have hu:∀u:Rat,u*(t*q+lq)<=1->u<=1:=fun u hu=>Rat.not_lt.1 (fun hc=>by
  have:=Rat.mul_le_mul_of_nonneg_left hW (show(0:Rat)<=u by grind)
  grind)
 refine Cd h.hq h.mq (hu _ ?_) ?_
 ·rcases hdet with e|e<;>rw[e]at f1<;>grind
 ·have:=hu (-(a*q-p)) (by rcases hdet with e|e<;>rw[e]at f1<;>grind)
  grind
theorem Ge(t:Rat):t-(t.floor:Rat)=mkRat (t.num%(t.den:Int)) t.den:=by
 have hd:(((t.den:Nat):Int):Rat)≠0:=by
  have:=t.den_nz
  exact_mod_cast (by omega:((t.den:Nat):Int)≠0)
 rw[Rat.mkRat_eq_div];have e1:=sW t;have e2:t.floor=t.num/(t.den:Int):=Rat.floor_def t;have e3:((t.num:Int):Rat)=(((t.den:Nat):Int):Rat)*((t.num/(t.den:Int):Int):Rat)+((t.num%(t.den:Int):Int):Rat):=by
  have:=(Int.mul_ediv_add_emod t.num (t.den:Int)).symm
  exact_mod_cast this
 have e4:((t.den:Nat):Rat)=(((t.den:Nat):Int):Rat):=rfl;rw[e2,e4];generalize ((t.num:Int):Rat)=N at*;generalize (((t.den:Nat):Int):Rat)=D at*;generalize ((t.num/(t.den:Int):Int):Rat)=F at*;generalize ((t.num%(t.den:Int):Int):Rat)=R at*;rw[←e1,e3]
 grind
theorem Ed(t:Rat)(h:t-(t.floor:Rat)≠0):(1/(t-(t.floor:Rat))).den<t.den/\sz (1/(t-(t.floor:Rat)))<=sz t:=by
 rw[Ge]at h|-;have hd:=t.den_nz;have hr0:t.num%(t.den:Int)≠0:=fun e=>h (by rw[e];simp);have hr1:=Int.emod_nonneg t.num (show(t.den:Int)≠0 by omega);have hr2:=Int.emod_lt_of_pos t.num (show 0<(t.den:Int)by omega);obtain⟨r,hr⟩:=Int.eq_ofNat_of_zero_le hr1;rw[hr]at h hr0 hr2|-;have e:1/mkRat (r:Int) t.den=mkRat (t.den:Int) r:=by
  rw[Rat.mkRat_eq_div,Rat.mkRat_eq_div];have h1:((r:Nat):Rat)≠0:=by
   have:((r:Nat):Int)≠0:=hr0
   exact_mod_cast this
  have h2:((t.den:Nat):Rat)≠0:=by exact_mod_cast hd
  have e3:(((r:Nat):Int):Rat)=((r:Nat):Rat):=rfl;have e4:(((t.den:Nat):Int):Rat)=((t.den:Nat):Rat):=rfl;rw[e3,e4];grind
 rw[e];have hs:=(iK.1 (Nat.le_refl (sz t))).2;refine⟨Nat.lt_of_le_of_lt (j2 _ _ (by omega)) (by omega),He _ _ _ (by omega) (by rw[Int.natAbs_natCast];exact hs) (Nat.le_trans (dI (by omega)) hs)⟩
theorem Ek(x y:Rat):iL ((x.den:Nat):Rat) ((y.den:Nat):Rat)=fI x.den y.den:=by
 unfold iL fI;have h1:(((x.den:Nat):Rat)<((y.den:Nat):Rat))↔x.den<y.den:=by exact_mod_cast Iff.rfl
 have h2:(((y.den:Nat):Rat)<((x.den:Nat):Rat))↔y.den<x.den:=by exact_mod_cast Iff.rfl
 simp only[h1,h2]
theorem BR(a x y:Rat)(ha:sz a<=100000000000)(hx:sz x<=110000000000)(hy:sz y<=110000000000):∃r,oe a x y=some r/\(r=x\/r=y)/\¬better a x r/\¬better a y r:=by
 have qa:di a:=Nat.le_trans ha (by omega);have qx:di x:=Nat.le_trans hx (by omega);have qy:di y:=Nat.le_trans hy (by omega);have q1:di (jr (x-a)):=by have:=px x a;unfold di;rw[As];omega
 have q2:di (jr (y-a)):=by have:=px y a;unfold di;rw[As];omega
 have q3:di ((x.den:Nat):Rat):=by have:=Ae x;unfold di;omega
 have q4:di ((y.den:Nat):Rat):=by have:=Ae y;unfold di;omega
 have eA:∀v:Rat,Ba v=some (jr v):=fun v=>rfl;have e1:ks x a=some (x-a):=aQ ⟨qx,qa⟩;have e2:ks y a=some (y-a):=aQ ⟨qy,qa⟩;have e3:lJ (jr (x-a)) (jr (y-a))=some (iL (jr (x-a)) (jr (y-a))):=aQ ⟨q1,q2⟩;have e4:uQ x=some (x.den:Rat):=aQ qx;have e5:uQ y=some (y.den:Rat):=aQ qy;have e6:lJ ((x.den:Nat):Rat) ((y.den:Nat):Rat)=some (fI x.den y.den):=by rw[←Ek];exact aQ ⟨q3,q4⟩
 have e7:lJ x y=some (iL x y):=aQ ⟨qx,qy⟩;unfold oe;simp only[e1,e2,eA,e3,e4,e5,e6,e7,Option.bind_some];have t1:∀u v:Rat,(iL u v=-1/\u<v)\/(iL u v=1/\v<u)\/(iL u v=0/\u=v):=by intro u v;unfold iL;grind
 have t2:∀u v:Nat,(fI u v=-1/\u<v)\/(fI u v=1/\v<u)\/(fI u v=0/\u=v):=by intro u v;unfold fI;grind
 have c1:=t1 (jr (x-a)) (jr (y-a));have c2:=t2 x.den y.den;have c3:=t1 x y;clear t1 t2 e1 e2 eA e3 e4 e5 e6 e7 q1 q2 q3 q4 qa qx qy ha hx hy;rcases c1 with⟨h1,k1⟩|⟨h1,k1⟩|⟨h1,k1⟩
 ·rw[h1];exact⟨x,rfl,.inl rfl,by unfold better;grind,by unfold better;grind⟩
 ·rw[h1];exact⟨y,rfl,.inr rfl,by unfold better;grind,by unfold better;grind⟩
 ·rw[h1];rcases c2 with⟨h2,k2⟩|⟨h2,k2⟩|⟨h2,k2⟩
  ·rw[h2];exact⟨x,rfl,.inl rfl,by unfold better;grind,by unfold better;grind⟩
  ·rw[h2];exact⟨y,rfl,.inr rfl,by unfold better;grind,by unfold better;grind⟩
  ·rw[h2];rcases c3 with⟨h3,k3⟩|⟨h3,k3⟩|⟨h3,k3⟩
   ·rw[h3];exact⟨x,rfl,.inl rfl,by unfold better;grind,by unfold better;grind⟩
   ·rw[h3];exact⟨y,rfl,.inr rfl,by unfold better;grind,by unfold better;grind⟩
   ·rw[h3];exact⟨y,rfl,.inr rfl,by unfold better;grind,by unfold better;grind⟩
def nI(a:Rat)(most:Int)(x:Rat×Ns):Prop:=∃p q lp lq:Int,x.2=((p:Rat),(q:Rat),(lp:Rat),(lq:Rat))/\CF a most x.1 p q lp lq/\sz x.1<=sz a/\sz ((p:Int):Rat)<=sz a+80/\sz ((lp:Int):Rat)<=sz a+80
def nQ(a:Rat)(most:Int)(r:Rat×St Ns Ns):Prop:=(Ns.fin r.2).2.1≠0/\(Ns.fin r.2).2.2.2≠0/\sz (Ns.fin r.2).1<=3*sz a+10000/\sz (Ns.fin r.2).2.1<=10000/\sz (Ns.fin r.2).2.2.1<=3*sz a+10000/\sz (Ns.fin r.2).2.2.2<=10000/\
 ∀z,(z=(Ns.fin r.2).1/(Ns.fin r.2).2.1\/z=(Ns.fin r.2).2.2.1/(Ns.fin r.2).2.2.2)->¬better a ((Ns.fin r.2).1/(Ns.fin r.2).2.1) z->¬better a ((Ns.fin r.2).2.2.1/(Ns.fin r.2).2.2.2) z->Al a most.toNat z
theorem qX{q most:Int}(h0:0<=q)(h:q<=most)(hm:fm most):sz ((q:Int):Rat)<=65:=by
 unfold fm at hm;exact Nat.le_trans (q7 q) (Nat.succ_le_succ (eL (n:=64) (by omega)))
theorem J2{a:Rat}{most:Int}(hm:fm most){p:Int}(h:p.natAbs<=a.num.natAbs*most.toNat+1):sz ((p:Int):Rat)<=sz a+80:=by
 unfold fm at hm;have h1:bN most.toNat<=64:=eL (by omega);have h2:=dh (iK.1 (Nat.le_refl (sz a))).1 h1;have h3:bN 1<=sz a+64:=by rw[nH];omega
 have h4:=Nat.le_trans (dI h) (qu h2 h3);have:=q7 p;omega
theorem BS(a:Rat)(most:Int)(ha:sz a<=10000000000)(hm:fm most)(h1:1<=most)(hden:most<(a.den:Int)):
  ∃r,Loop (m6 (mP most)) (a,((1:Rat),(0:Rat),(0:Rat),(1:Rat)))=some r/\nQ a most r:=by
 refine cx (body:=m6 (mP most)) (a,((1:Rat),(0:Rat),(0:Rat),(1:Rat))) (nI a most) (fun x=>x.1.den) (nQ a most) ⟨1,0,0,1,by simp,Dq a most h1,Nat.le_refl _,?_,?_⟩ ?_
 ·have:=q7 1;have e:bN (1:Int).natAbs=1:=rfl;omega
 ·have:=q7 0;have e:bN (0:Int).natAbs=0:=rfl;omega
 rintro⟨t,s⟩ ⟨p,q,lp,lq,rfl,hc,ht,hp,hlp⟩;simp only at hc ht;have hq:=qX hc.hq hc.mq hm;have Cu:=qX hc.Cu hc.J5 hm;have hmm:=qX (show 0<=most by omega) (Int.le_refl most) hm;have hf:=yy t;have qt:di t:=Nat.le_trans ht (by omega);have e1:qo t=some (t.floor:Rat):=aQ qt;have s2:=gW (t.floor:Rat) (q:Rat);have e2:fh (t.floor:Rat) (q:Rat)=some ((t.floor:Rat)*(q:Rat)):=aQ ⟨by unfold di;omega,by unfold di;omega⟩;have s3:=kC ((t.floor:Rat)*(q:Rat)) (lq:Rat);have e3:jj ((t.floor:Rat)*(q:Rat)) (lq:Rat)=some ((t.floor:Rat)*(q:Rat)+(lq:Rat)):=aQ ⟨by unfold di;omega,by unfold di;omega⟩;have e4:fY most=some (most:Rat):=aQ hm;have e5:lJ ((t.floor:Rat)*(q:Rat)+(lq:Rat)) (most:Rat)=some (iL ((t.floor:Rat)*(q:Rat)+(lq:Rat)) (most:Rat)):=aQ ⟨by unfold di;omega,by unfold di;omega⟩;have ei:(t.floor:Rat)*(q:Rat)+(lq:Rat)=((t.floor*q+lq:Int):Rat):=by simp
 unfold m6 mP;simp only[e1,e2,e3,e4,e5,Option.bind_some];by_cases hbig:most<t.floor*q+lq
 ·right
  have hcq:iL ((t.floor:Rat)*(q:Rat)+(lq:Rat)) (most:Rat)=1:=by
   have:(most:Rat)<(t.floor:Rat)*(q:Rat)+(lq:Rat):=by rw[ei];exact_mod_cast hbig
   unfold iL;grind
  obtain⟨k,hk⟩:∃k:Int,k=(((most:Rat)-(lq:Rat))/(q:Rat)).floor:=⟨_,rfl⟩;obtain⟨b1,b2,b3,b4⟩:=DL h1 hc hbig hk;have hq0:(q:Rat)≠0:=by
   have:(0:Rat)<(q:Rat):=by exact_mod_cast (by omega:(0:Int)<q)
   grind
  have u1:=px (most:Rat) (lq:Rat);have u2:=i4 ((most:Rat)-(lq:Rat)) (q:Rat);have u3:=yy (((most:Rat)-(lq:Rat))/(q:Rat));have f1:ks (most:Rat) (lq:Rat)=some ((most:Rat)-(lq:Rat)):=aQ ⟨by unfold di;omega,by unfold di;omega⟩;have f2:fV ((most:Rat)-(lq:Rat)) (q:Rat)=some (((most:Rat)-(lq:Rat))/(q:Rat)):=aQ ⟨hq0,by unfold di;omega,by unfold di;omega⟩;have f3:qo (((most:Rat)-(lq:Rat))/(q:Rat))=some (k:Rat):=by rw[hk];exact aQ (by unfold di;omega)
  rw[←hk]at u3;have u4:=gW (k:Rat) (p:Rat);have u5:=kC ((k:Rat)*(p:Rat)) (lp:Rat);have u6:=gW (k:Rat) (q:Rat);have u7:=kC ((k:Rat)*(q:Rat)) (lq:Rat);have f4:fh (k:Rat) (p:Rat)=some ((k:Rat)*(p:Rat)):=aQ ⟨by unfold di;omega,by unfold di;omega⟩;have f5:jj ((k:Rat)*(p:Rat)) (lp:Rat)=some ((k:Rat)*(p:Rat)+(lp:Rat)):=aQ ⟨by unfold di;omega,by unfold di;omega⟩;have f6:fh (k:Rat) (q:Rat)=some ((k:Rat)*(q:Rat)):=aQ ⟨by unfold di;omega,by unfold di;omega⟩;have f7:jj ((k:Rat)*(q:Rat)) (lq:Rat)=some ((k:Rat)*(q:Rat)+(lq:Rat)):=aQ ⟨by unfold di;omega,by unfold di;omega⟩;refine⟨(t,.done ((k:Rat)*(p:Rat)+(lp:Rat),(k:Rat)*(q:Rat)+(lq:Rat),(p:Rat),(q:Rat))),?_,?_⟩
  ·simp only[hcq,f1,f2,f3,f4,f5,f6,f7,Option.bind_some];rfl
  ·have ex:(k:Rat)*(p:Rat)+(lp:Rat)=((k*p+lp:Int):Rat):=by simp
   have ed:(k:Rat)*(q:Rat)+(lq:Rat)=((k*q+lq:Int):Rat):=by simp
   have hd0:((k*q+lq:Int):Rat)≠0:=by
    have:(0:Rat)<((k*q+lq:Int):Rat):=by exact_mod_cast (by omega:(0:Int)<k*q+lq)
    grind
   refine⟨?_,hq0,?_,?_,?_,?_,?_⟩<;>simp only[Ns.fin]
   ·rw[ed];exact hd0
   ·omega
   ·omega
   ·omega
   ·omega
   ·rw[ex,ed];exact b4
 ·left
  have hcq:(decide (iL ((t.floor:Rat)*(q:Rat)+(lq:Rat)) (most:Rat)>0))=false:=by
   have:(t.floor:Rat)*(q:Rat)+(lq:Rat)<=(most:Rat):=by rw[ei];exact_mod_cast (by omega:t.floor*q+lq<=most)
   rw[decide_eq_false_iff_not];unfold iL;grind
  have hle:t.floor*q+lq<=most:=by omega
  have hne:t-(t.floor:Rat)≠0:=fun e=>by
   have:=H6 hc hle e;omega
  obtain⟨d1,d2⟩:=Ed t hne;have hcn:=Fh hc hle hne;have hq1:1<=t.floor*q+lq:=by
   rcases hcn.one with⟨e,_⟩|⟨e,_⟩
   ·exfalso
    rcases hc.one with⟨e1,e2⟩|⟨e1,e2⟩
    ·rw[e1,e2]at e;omega
    ·have h3:1<=t.floor:=Rat.le_floor_iff.2 (by simpa using e2);have h4:1*q<=t.floor*q:=Int.mul_le_mul_of_nonneg_right h3 hc.hq;have:=hc.Cu;omega
   ·exact e
  have hpn:=J2 hm (JV hcn hq1);have u1:=gW (t.floor:Rat) (p:Rat);have u2:=kC ((t.floor:Rat)*(p:Rat)) (lp:Rat);have u3:=px t (t.floor:Rat);have f1:fh (t.floor:Rat) (p:Rat)=some ((t.floor:Rat)*(p:Rat)):=aQ ⟨by unfold di;omega,by unfold di;omega⟩;have f2:jj ((t.floor:Rat)*(p:Rat)) (lp:Rat)=some ((t.floor:Rat)*(p:Rat)+(lp:Rat)):=aQ ⟨by unfold di;omega,by unfold di;omega⟩;have f3:ks t (t.floor:Rat)=some (t-(t.floor:Rat)):=aQ ⟨qt,by unfold di;omega⟩;have f4:cW (t-(t.floor:Rat))=some 1:=by
   have:=Rat.floor_le t;show some (wJ _)=_;unfold wJ;grind
  have f5:fY 1=some 1:=by decide+kernel
  have f6:fV 1 (t-(t.floor:Rat))=some (1/(t-(t.floor:Rat))):=aQ ⟨hne,by decide,by unfold di;omega⟩;refine⟨(1/(t-(t.floor:Rat)),((t.floor:Rat)*(p:Rat)+(lp:Rat),(t.floor:Rat)*(q:Rat)+(lq:Rat),(p:Rat),(q:Rat))),?_,⟨t.floor*p+lp,t.floor*q+lq,p,q,by simp,hcn,Nat.le_trans d2 ht,hpn,hp⟩,d1⟩;simp only[hcq,f1,f2,f3,f4,f5,f6,Option.bind_some,Bool.false_eq_true,if_false]
  rfl
theorem CV(a:Rat){n:Nat}(h:a.den<=n):Al a n a:=⟨h,fun y _=>by
 by_cases e:y=a
 ·subst e;exact pT _ _
 ·have:a-a=0:=by grind
  unfold better jr;rw[this]
  grind⟩
theorem Fu(a:Rat)(most:Int)(ha:sz a<=10000000000)(hm:fm most):wZ a most=some (if most<1 then(0,3)else(nA a most.toNat,0)):=by
 unfold wZ;by_cases c1:most<1
 ·rw[if_pos (decide_eq_true c1),if_pos c1]
 rw[if_neg (by simpa using c1),if_neg c1];have qa:di a:=Nat.le_trans ha (by omega);have hmm:=qX (show 0<=most by omega) (Int.le_refl most) hm;have sd:=Ae a;have e1:uQ a=some (a.den:Rat):=aQ qa;have e2:fY most=some (most:Rat):=aQ hm;have e3:lJ ((a.den:Nat):Rat) (most:Rat)=some (iL ((a.den:Nat):Rat) (most:Rat)):=aQ ⟨by unfold di;omega,by unfold di;omega⟩;have e4:fY 1=some 1:=by decide+kernel
 have e5:fY 0=some 0:=by decide+kernel
 simp only[e1,e2,e3,e4,e5,Option.bind_some];have hcast:((a.den:Nat):Rat)=(((a.den:Nat):Int):Rat):=rfl;by_cases c2:(a.den:Int)<=most
 ·have:(decide (iL ((a.den:Nat):Rat) (most:Rat)<=0))=true:=by
   have:(((a.den:Nat):Int):Rat)<=(most:Rat):=by exact_mod_cast c2
   rw[decide_eq_true_eq,hcast];unfold iL;grind
  rw[if_pos this];have:=vP (CV a (n:=most.toNat) (by omega)) (t_ a most.toNat (by omega));rw[←this]
 ·have:¬(decide (iL ((a.den:Nat):Rat) (most:Rat)<=0))=true:=by
   have:(most:Rat)<(((a.den:Nat):Int):Rat):=by exact_mod_cast (by omega:most<((a.den:Nat):Int))
   rw[decide_eq_true_eq,hcast];unfold iL;grind
  rw[if_neg this];obtain⟨r,hr,g1,g2,g3,g4,g5,g6,g7⟩:=BS a most ha hm (by omega) (by omega);rw[hr];simp only[Option.bind_some];generalize Ns.fin r.2=s at*;obtain⟨p,q,lp,lq⟩:=s;simp only at g1 g2 g3 g4 g5 g6 g7|-;have f1:fV p q=some (p/q):=aQ ⟨g1,by unfold di;omega,by unfold di;omega⟩;have f2:fV lp lq=some (lp/lq):=aQ ⟨g2,by unfold di;omega,by unfold di;omega⟩;have s1:=i4 p q;have s2:=i4 lp lq;obtain⟨z,hz,k1,k2,k3⟩:=BR a (p/q) (lp/lq) (by omega) (by omega) (by omega);rw[f1];simp only[Option.bind_some];rw[f2];simp only[Option.bind_some];rw[hz];have:=vP (g7 z k1 k2 k3) (t_ a most.toNat (by omega));simp only[Option.bind_some];rw[this]
def D5(a:Rat)(most:Int):Option (Rat×Int):=cj (sz a<=10000000000/\fm most) (some (if most<1 then(0,3)else(nA a most.toNat,0)))
theorem Ip{a1:Rat}{a2:Int}{r3:Rat}{r4:Int}(h:D5 a1 a2=some (r3,r4)):bf PP 28 [] [qD a1,D.int .i64 a2] [] (D.ig [qD r3,D.int .i64 r4]):=by
 obtain⟨⟨h1,h2⟩,h⟩:=av h;have e:=Fu a1 a2 h1 h2;rw[h]at e;exact H9 e
end Go.Am
namespace Go.Am
end Go.Am
namespace Go.Am
open Go.RowKit
set_option maxRecDepth 100000
noncomputable section
def zy(a1:Rat):Option (Rat×Rat):=(fh a1 a1).bind fun v2=>(fY 1).bind fun v4=>(jj v4 v2).bind fun v6=>(fY 1).bind fun v8=>(ks v8 v2).bind fun v10=>(fV v10 v6).bind fun v12=>(jj a1 a1).bind fun v14=>(fV v14 v6).bind fun v16=>some (v12,v16)
theorem HL{a1:Rat}{r18:Rat}{r19:Rat}(h:zy a1=some (r18,r19)):bf PP 61 [] [qD a1] [] (D.agg (qC (r18)++qC (r19))):=by
 unfold zy at h;refine .of Go.Proofs.Tryz.func61 rfl (by kernel_rfl) rfl rfl rfl rfl rfl rfl (fun A w0 L b=>?_);show Ok PP _ [(0,qD a1)] [] _ _;refine .al (.iP rfl rfl<|.fN (qC (0)++qC (0)) n6 ⟨lY,lZ,l4,lY,lZ,l4,trivial⟩ rfl<|.nil) rfl ?_;obtain⟨v2,e3,h⟩:=bind_some h;refine .al (.ck (qC (a1)) rfl rfl ae rfl rfl<|.ck (qC (a1)) rfl rfl ae rfl rfl<|.ag (lE e3) ⟨rfl,rfl,trivial⟩ trivial trivial<|.fN (qC (0)) aI ⟨lY,lZ,l4,trivial⟩ rfl<|.cU (qC (v2)) rfl rfl rfl ae rfl rfl rfl<|.nil) rfl ?_;obtain⟨v4,e5,h⟩:=bind_some h;obtain⟨v6,e7,h⟩:=bind_some h;refine .cZ cf (.ag (kK e5) ⟨rfl,trivial⟩ trivial trivial<|.ck (qC (v2)) rfl rfl ae rfl rfl<|.ag (mL e7) ⟨rfl,rfl,trivial⟩ trivial trivial<|.fN (qC (0)) aI ⟨lY,lZ,l4,trivial⟩ rfl<|.cU (qC (v6)) rfl rfl rfl ae rfl rfl rfl<|.nil) rfl (by kernel_rfl) ?_;obtain⟨v8,e9,h⟩:=bind_some h;obtain⟨v10,e11,h⟩:=bind_some h;obtain⟨v12,e13,h⟩:=bind_some h;obtain⟨v14,e15,h⟩:=bind_some h;obtain⟨v16,e17,h⟩:=bind_some h;refine .cZ cf (.ag (kK e9) ⟨rfl,trivial⟩ trivial trivial<|.ck (qC (v2)) rfl rfl ae rfl rfl<|.ag (rX e11) ⟨rfl,rfl,trivial⟩ trivial trivial<|.ck (qC (v6)) rfl rfl ae rfl rfl<|.ag (lh e13) ⟨rfl,rfl,trivial⟩ trivial trivial<|.ck (qC (a1)) rfl rfl ae rfl rfl<|.ck (qC (a1)) rfl rfl ae rfl rfl<|.ag (mL e15) ⟨rfl,rfl,trivial⟩ trivial trivial<|.ck (qC (v6)) rfl rfl ae rfl rfl<|.ag (lh e17) ⟨rfl,rfl,trivial⟩ trivial trivial<|.n_ (qC (v12)++qC (v16)) [(0,_,qD v12,qC (v12)),(3,_,qD v16,qC (v16))] n6 xu ⟨rfl,rfl,.agg _,rfl,rfl,rfl,.agg _,rfl,trivial⟩ ⟨rfl,rfl,trivial⟩ ⟨.refl _,.refl _,.refl _,.refl _,.refl _,.refl _,trivial⟩<|.cU (qC (v12)++qC (v16)) rfl rfl rfl m1 rfl rfl rfl<|.nil) rfl (by kernel_rfl) ?_;cases h;refine .aO (fun _ _ hb=>hb) rfl (.cons (.agg rfl rfl m1 rfl) .nil) (.refl _) trivial trivial
def jq(a1:List Rat)(a2:List Rat)(v5:Int)(v6:Rat):Option (St (Int×Rat) Rat):=(if(decide (v5<(a1.length:Int)))=true then(ix a1 v5).bind fun v12=>(ix a2 v5).bind fun v14=>(fh v12 v14).bind fun v16=>(jj v6 v16).bind fun v18=>some (St.next ((IntKind.i64.wrap (v5+1)),v18))else some (St.done v6))
def wa(a1:List Rat)(a2:List Rat):Option Rat:=((Loop (fun(s:Int×Rat)=>jq a1 a2 s.1 s.2) (0,0)).bind fun v20=>some (v20)).bind fun v21=>some v21
theorem I0{a1:List Rat}{a2:List Rat}{r22:Rat}(h:wa a1 a2=some r22):bf PP 196 [] [ai ak.rat a1,ai ak.rat a2] [] (qD r22):=by
 unfold wa at h;refine .of Go.Proofs.Tryz.func196 rfl (by kernel_rfl) rfl rfl rfl rfl rfl rfl (fun A w0 L b=>?_);show Ok PP _ [(0,ai ak.rat a1),(1,ai ak.rat a2)] [] _ _;refine .al (.fN (qC (0)) aI ⟨lY,lZ,l4,trivial⟩ rfl<|.nil) rfl ?_;refine .al (.fN (qC (0)) aI ⟨lY,lZ,l4,trivial⟩ rfl<|.nil) rfl ?_;obtain⟨v21,hp4,h⟩:=bind_some h;refine .cc (fun i=>v21=i) (fun(i:Rat)=>[(4,D.ref 4 0),(5,D.ref 5 0)]) (fun(i:Rat)=>[(4,Hp.box 28 (qC (0))),(5,Hp.box 28 (qC (i)))]) ?_ ?_
 ·have ho1:=h;have h:=hp4;refine .al (.mv rfl<|.ec rfl bP<|.mv rfl<|.nil) rfl ?_;obtain⟨o7,hl8,h⟩:=bind_some h;have ho2:=h;refine .block (.bU (fun(s:Int×Rat)=>[(1,ai ak.rat a2),(4,D.ref 4 0),(5,D.ref 5 0),(8,ai ak.rat a1),(9,D.int .i64 (a1.length:Int)),(10,D.int .i64 s.1)]) (fun(s:Int×Rat)=>[(4,Hp.box 28 (qC (0))),(5,Hp.box 28 (qC (s.2)))]) hl8 (.of rfl) (.of rfl) rfl rfl ?_);rintro⟨v5,v6⟩ st9 hb10;have h:jq a1 a2 v5 v6=some st9:=hb10;unfold jq at h
  try dsimp only
  refine .al (.cm rfl rfl rfl<|.nil) rfl ?_;refine .sq ?_;by_cases c11:(decide (v5<(a1.length:Int)))=true
  ·replace h:=ab c11 h;refine .cl rfl c11 ?_;refine .skip (Ok.on ?_);refine .sq ?_;refine .block ?_;obtain⟨v12,e13,h⟩:=bind_some h;refine .al (.mv rfl<|.ll rfl rfl aV (af e13).1 (af e13).2<|.Cy (l:=qC (v12)) rfl ae rfl<|.fN (qC (0)) aI ⟨lY,lZ,l4,trivial⟩ rfl<|.aq rfl<|.cU (qC (v12)) rfl rfl rfl ae rfl rfl rfl<|.nil) rfl ?_;obtain⟨v14,e15,h⟩:=bind_some h;obtain⟨v16,e17,h⟩:=bind_some h;obtain⟨v18,e19,h⟩:=bind_some h;refine .c_ cf (.ck (qC (v6)) rfl rfl ae rfl rfl<|.ck (qC (v12)) rfl rfl ae rfl rfl<|.mv rfl<|.mv rfl<|.ll rfl rfl aV (af e15).1 (af e15).2<|.Cy (l:=qC (v14)) rfl ae rfl<|.ag (lE e17) ⟨rfl,rfl,trivial⟩ trivial trivial<|.ag (mL e19) ⟨rfl,rfl,trivial⟩ trivial trivial<|.cU (qC (v18)) rfl rfl rfl ae rfl rfl rfl<|.nil) rfl (by kernel_rfl) (Ok.on ?_);refine .region (.ar rfl rfl rfl<|.mv rfl<|.nil) rfl (fun _ _ hs=>⟨((IntKind.i64.wrap (v5+1)),v18),(sj h),hs.sub (.of rfl) (.of rfl) rfl rfl⟩)
  ·replace h:=aa c11 h;refine .cq rfl c11 ?_;refine .exit (fun a w hs=>⟨_,(sj h),fun e=>by subst e;have h:=ho2;exact aS (⟨v6,(sj h),hs.sub (.of rfl) (.of rfl) rfl rfl⟩)⟩)
 ·rintro _ rfl
  try dsimp only
  refine .al (.ck (qC (v21)) rfl rfl ae rfl rfl<|.cU (qC (v21)) rfl rfl rfl ae rfl rfl rfl<|.nil) rfl ?_;cases h;refine .aO (fun _ _ hb=>hb) rfl (.cons (.agg rfl rfl ae rfl) .nil) (.refl _) trivial trivial
end
end Go.Am
namespace Go.Am
open Go.RowKit
set_option maxRecDepth 100000
noncomputable section
def pd(a1:List Rat)(a2:List Rat)(v5:Int)(v6:Rat):Option (St (Int×Rat) Rat):=(if(decide (v5<(a1.length:Int)))=true then(ix a1 v5).bind fun v12=>(ix a2 v5).bind fun v14=>(fh v12 v14).bind fun v16=>(jj v6 v16).bind fun v18=>some (St.next ((IntKind.i64.wrap (v5+1)),v18))else some (St.done v6))
def nr(a1:List Rat)(a2:List Rat):Option Rat:=((Loop (fun(s:Int×Rat)=>pd a1 a2 s.1 s.2) (0,0)).bind fun v20=>some (v20)).bind fun v21=>some v21
end
end Go.Am
namespace Go.Am
open Go.RowKit
set_option maxRecDepth 100000
noncomputable section
def km(a3:Int)(v8:Rat)(v11:Rat)(v15:Int)(v16:Rat)(v17:Rat):Option (St (Int×Rat×Rat) (Rat×Rat)):=(if(decide (v15<(Int.tmod a3 4)))=true then(fh v16 v8).bind fun v23=>(fh v17 v11).bind fun v25=>some (St.next ((IntKind.u8.wrap (v15+1)),v23,v25))else some (St.done (v16,v17)))
def oy(a1:Int)(a2:Int)(a3:Int):Option (Rat×Rat):=((if(a2==0)=true then some (1)else some (a2))).bind fun v7=>(Gq a1 v7).bind fun(v8,v9)=>(Fj a1 v7).bind fun v11=>((Loop (fun(s:Int×Rat×Rat)=>km a3 v8 v11 s.1 s.2.1 s.2.2) (0,v8,v11)).bind fun(v27,v28)=>some ((v27,v28))).bind fun(v29,v30)=>some (v29,v30)
theorem C1{a1:Int}{a2:Int}{a3:Int}{r31:Rat}{r32:Rat}(h:oy a1 a2 a3=some (r31,r32)):bf PP 27 [] [D.agg ([D.int .i64 a1,D.int .i64 a2,D.int .u8 a3])] [] (D.ig [qD r31,pZ r32]):=by
 unfold oy at h;refine .of Go.Proofs.Tryz.func27 rfl (by kernel_rfl) rfl rfl rfl rfl rfl rfl (fun A w0 L b=>?_);show Ok PP _ [(0,D.agg ([D.int .i64 a1,D.int .i64 a2,D.int .u8 a3]))] [] _ _;refine .al (.iP rfl rfl<|.fN (qC (0)) aI ⟨lY,lZ,l4,trivial⟩ rfl<|.fN (iq (0)) br ⟨C8,C0,.refl _,EG,trivial⟩ rfl<|.nil) rfl ?_;obtain⟨v7,hp5,h⟩:=bind_some h;refine .cc (fun i=>v7=i) (fun(i:Int)=>[(1,D.ref 1 0),(2,D.ref 2 0),(3,D.ref 3 0)]) (fun(i:Int)=>[(1,Hp.box 43 ([D.int .i64 a1,D.int .i64 i,D.int .u8 a3])),(2,Hp.box 28 (qC (0))),(3,Hp.box 37 (iq (0)))]) ?_ ?_
 ·have ho1:=h;have h:=hp5;refine .al (.fa rfl gr<|.bu (D.int .i64 a2) rfl rfl iQ rfl<|.cm rfl rfl rfl<|.nil) rfl ?_;by_cases c6:(a2==0)=true
  ·replace h:=ab c6 h;refine .cl rfl c6 ?_;refine .region (.fa rfl gr<|.Ad ([D.int .i64 a1,D.int .i64 1,D.int .u8 a3]) rfl rfl rfl iQ rfl rfl rfl<|.nil) rfl (fun _ _ hs=>⟨1,(sj h),hs.sub (.of rfl) (.of rfl) rfl rfl⟩)
  ·replace h:=aa c6 h;refine .cq rfl c6 ?_;refine .skip (fun _ _ hs=>⟨a2,(sj h),hs.sub (.of rfl) (.of rfl) rfl rfl⟩)
 ·rintro _ rfl
  try dsimp only
  obtain⟨⟨v8,v9⟩,e10,h⟩:=bind_some h;refine .al (.fa rfl lz<|.bu (D.int .i64 a1) rfl rfl iQ rfl<|.fa rfl gr<|.bu (D.int .i64 v7) rfl rfl iQ rfl<|.ag (JB e10) ⟨rfl,rfl,trivial⟩ trivial trivial<|.mv rfl<|.ext rfl rfl<|.ext rfl rfl<|.fN (qC (0)) aI ⟨lY,lZ,l4,trivial⟩ rfl<|.cU (qC (v8)) rfl rfl rfl ae rfl rfl rfl<|.aq rfl<|.nil) rfl ?_;obtain⟨v11,e12,h⟩:=bind_some h;refine .al (.fa rfl lz<|.bu (D.int .i64 a1) rfl rfl iQ rfl<|.fa rfl gr<|.bu (D.int .i64 v7) rfl rfl iQ rfl<|.ag (JP e12) ⟨rfl,rfl,trivial⟩ trivial trivial<|.fN (iq (0)) br ⟨C8,C0,.refl _,EG,trivial⟩ rfl<|.cU (iq (v11)) rfl rfl rfl aj rfl rfl rfl<|.nil) rfl ?_;refine .cZ cf (.ck (qC (v8)) rfl rfl ae rfl rfl<|.ck (iq (v11)) rfl rfl aj rfl rfl<|.fN (qC (0)) aI ⟨lY,lZ,l4,trivial⟩ rfl<|.fN (iq (0)) br ⟨C8,C0,.refl _,EG,trivial⟩ rfl<|.cU (qC (v8)) rfl rfl rfl ae rfl rfl rfl<|.cU (iq (v11)) rfl rfl rfl aj rfl rfl rfl<|.nil) rfl (by kernel_rfl) ?_;obtain⟨o13,hp14,h⟩:=bind_some h;refine .cc (fun i=>o13=i) (fun(i:Rat×Rat)=>[(2,D.ref 2 0),(3,D.ref 3 0),(7,D.ref 7 0),(8,D.ref 8 0)]) (fun(i:Rat×Rat)=>[(2,Hp.box 28 (qC (0))),(3,Hp.box 37 (iq (0))),(7,Hp.box 28 (qC (i.1))),(8,Hp.box 37 (iq (i.2)))]) ?_ ?_
  ·have ho1:=h;have h:=hp14;refine .al (.aq rfl<|.nil) rfl ?_;obtain⟨o18,hl19,h⟩:=bind_some h;have ho2:=h;refine .block (.bU (fun(s:Int×Rat×Rat)=>[(1,D.ref 1 0),(2,D.ref 2 0),(3,D.ref 3 0),(4,D.ref 4 0),(6,D.ref 6 0),(7,D.ref 7 0),(8,D.ref 8 0),(9,D.int .u8 s.1)]) (fun(s:Int×Rat×Rat)=>[(1,Hp.box 43 ([D.int .i64 a1,D.int .i64 v7,D.int .u8 a3])),(2,Hp.box 28 (qC (0))),(3,Hp.box 37 (iq (0))),(4,Hp.box 28 (qC (v8))),(6,Hp.box 37 (iq (v11))),(7,Hp.box 28 (qC (s.2.1))),(8,Hp.box 37 (iq (s.2.2)))]) hl19 (.of rfl) (.of rfl) rfl rfl ?_);rintro⟨v15,v16,v17⟩ st20 hb21;have h:km a3 v8 v11 v15 v16 v17=some st20:=hb21;unfold km at h
   try dsimp only
   refine .sq ?_;refine .al (.mv rfl<|.fa rfl pP<|.bu (D.int .u8 a3) rfl rfl nY rfl<|.ar rfl rfl (tN (by decide))<|.cm rfl rfl rfl<|.nil) rfl ?_;by_cases c22:(decide (v15<(Int.tmod a3 4)))=true
   ·replace h:=ab c22 h;refine .cl rfl c22 ?_;refine .skip (Ok.on ?_);refine .sq ?_;refine .block ?_;obtain⟨v23,e24,h⟩:=bind_some h;refine .al (.ck (qC (v16)) rfl rfl ae rfl rfl<|.ck (qC (v8)) rfl rfl ae rfl rfl<|.ag (lE e24) ⟨rfl,rfl,trivial⟩ trivial trivial<|.cU (qC (v23)) rfl rfl rfl ae rfl rfl rfl<|.nil) rfl ?_;obtain⟨v25,e26,h⟩:=bind_some h;refine .region (.ck (iq (v17)) rfl rfl aj rfl rfl<|.ck (iq (v11)) rfl rfl aj rfl rfl<|.ag (yd e26) ⟨rfl,rfl,trivial⟩ trivial trivial<|.cU (iq (v25)) rfl rfl rfl aj rfl rfl rfl<|.nil) rfl (Ok.on ?_);refine .region (.mv rfl<|.ar rfl rfl rfl<|.aq rfl<|.nil) rfl (fun _ _ hs=>⟨((IntKind.u8.wrap (v15+1)),v23,v25),(sj h),hs.sub (.of rfl) (.of rfl) rfl rfl⟩)
   ·replace h:=aa c22 h;refine .cq rfl c22 ?_;refine .exit (fun a w hs=>⟨_,(sj h),fun e=>by subst e;have h:=ho2;exact aS (⟨(v16,v17),(sj h),hs.sub (.of rfl) (.of rfl) rfl rfl⟩)⟩)
  ·rintro⟨v29,v30⟩ rfl
   try dsimp only
   refine .cZ cf (.ck (qC (v29)) rfl rfl ae rfl rfl<|.ck (iq (v30)) rfl rfl aj rfl rfl<|.cU (qC (v29)) rfl rfl rfl ae rfl rfl rfl<|.cU (iq (v30)) rfl rfl rfl aj rfl rfl rfl<|.nil) rfl (by kernel_rfl) ?_;cases h;refine .aO (fun _ _ hb=>hb) rfl (.cons (.agg rfl rfl ae rfl) (.cons (.agg rfl rfl aj rfl) .nil)) (.refl _) trivial trivial
def mH(a1:Rat)(a2:Rat):Option Bool:=(rv a1).bind fun v3=>(rv a2).bind fun v5=>some (v3==v5)
theorem xR{a1:Rat}{a2:Rat}{r7:Bool}(h:mH a1 a2=some r7):bf PP 26 [] [qD a1,pZ a2] [] (D.bool r7):=by
 unfold mH at h;refine .of Go.Proofs.Tryz.func26 rfl (by kernel_rfl) rfl rfl rfl rfl rfl rfl (fun A w0 L b=>?_);show Ok PP _ [(0,qD a1),(1,pZ a2)] [] _ _;refine .al (.iP rfl rfl<|.iP rfl rfl<|.aq rfl<|.nil) rfl ?_;obtain⟨v3,e4,h⟩:=bind_some h;obtain⟨v5,e6,h⟩:=bind_some h;refine .cZ cf (.ck (qC (a1)) rfl rfl ae rfl rfl<|.ag (DQ e4) ⟨rfl,trivial⟩ trivial trivial<|.ck (iq (a2)) rfl rfl aj rfl rfl<|.ag (HW e6) ⟨rfl,trivial⟩ trivial trivial<|.Iz rfl rfl<|.aq rfl<|.nil) rfl (by kernel_rfl) ?_;cases h;refine .aO (fun _ _ hb=>hb) rfl (.t1 (.tmp rfl)) (.refl _) trivial trivial
def kr(a1:List (Int×Int×Int))(v4:Int)(v5:List Rat)(v6:List Rat):Option (St (Int×(List Rat)×(List Rat)) ((List Rat)×(List Rat))):=(if(decide (v4<(a1.length:Int)))=true then(ix a1 v4).bind fun(v12,v13,v14)=>(oy v12 v13 v14).bind fun(v16,v17)=>cj ((v5.length+([v16]).length)*56<=140737488355328/\v5.length+([v16]).length<=9223372036854775807) (cj ((v6.length+([v17]).length)*64<=140737488355328/\v6.length+([v17]).length<=9223372036854775807) (some (St.next ((IntKind.i64.wrap (v4+1)),(v5++[v16]),(v6++[v17])))))else some (St.done (v5,v6)))
def nM(a1:List (Int×Int×Int)):Option ((List Rat)×(List Rat)):=((Loop (fun(s:Int×(List Rat)×(List Rat))=>kr a1 s.1 s.2.1 s.2.2) (0,[],[])).bind fun(v21,v22)=>some ((v21,v22))).bind fun(v23,v24)=>some (v23,v24)
theorem EC{a1:List (Int×Int×Int)}{r25:List Rat}{r26:List Rat}(h:nM a1=some (r25,r26)):bf PP 53 [] [ai (ak.prod (ak.int .i64) (ak.prod (ak.int .i64) (ak.int .u8))) a1] [] (D.ig [ai ak.rat r25,ai ak.rq r26]):=by
 unfold nM at h;refine .of Go.Proofs.Tryz.func53 rfl (by kernel_rfl) rfl rfl rfl rfl rfl rfl (fun A w0 L b=>?_);show Ok PP _ [(0,ai (ak.prod (ak.int .i64) (ak.prod (ak.int .i64) (ak.int .u8))) a1)] [] _ _;refine .al (.aq rfl<|.aq rfl<|.nil) rfl ?_;refine .al (.aq rfl<|.nil) rfl ?_;refine .al (.aq rfl<|.nil) rfl ?_;obtain⟨o2,hp3,h⟩:=bind_some h;refine .cc (fun i=>o2=i) (fun(i:(List Rat)×(List Rat))=>[(4,D.own 2000004),(5,D.own 2000005)]) (fun(i:(List Rat)×(List Rat))=>[(2000004,aY ak.rat 28 i.1),(2000005,aY ak.rq 37 i.2)]) ?_ ?_
 ·have ho1:=h;have h:=hp3;refine .al (.aq rfl<|.nil) rfl ?_;refine .jF ak.rat 4 2000004 28 rfl rfl ?_;refine .jF ak.rq 5 2000005 37 rfl rfl ?_;obtain⟨o7,hl8,h⟩:=bind_some h;have ho2:=h;refine .block (.bU (fun(s:Int×(List Rat)×(List Rat))=>[(0,ai (ak.prod (ak.int .i64) (ak.prod (ak.int .i64) (ak.int .u8))) a1),(4,D.own 2000004),(5,D.own 2000005),(6,D.int .i64 s.1)]) (fun(s:Int×(List Rat)×(List Rat))=>[(2000004,aY ak.rat 28 s.2.1),(2000005,aY ak.rq 37 s.2.2)]) hl8 (.of rfl) (.of rfl) rfl rfl ?_);rintro⟨v4,v5,v6⟩ st9 hb10;have h:kr a1 v4 v5 v6=some st9:=hb10;unfold kr at h
  try dsimp only
  refine .sq ?_;refine .al (.mv rfl<|.mv rfl<|.ec rfl lA<|.cm rfl rfl rfl<|.nil) rfl ?_;by_cases c11:(decide (v4<(a1.length:Int)))=true
  ·replace h:=ab c11 h;refine .cl rfl c11 ?_;refine .skip (Ok.on ?_);refine .sq ?_;refine .block ?_;obtain⟨⟨v12,v13,v14⟩,e15,h⟩:=bind_some h;obtain⟨⟨v16,v17⟩,e18,h⟩:=bind_some h;refine .al (.mv rfl<|.mv rfl<|.ll rfl rfl pC (af e15).1 (af e15).2<|.Cy (l:=[D.int .i64 v12,D.int .i64 v13,D.int .u8 v14]) rfl qY rfl<|.ag (C1 e18) ⟨rfl,trivial⟩ trivial trivial<|.mv rfl<|.ext rfl rfl<|.ext rfl rfl<|.fN (qC (0)) aI ⟨lY,lZ,l4,trivial⟩ rfl<|.fN (iq (0)) br ⟨C8,C0,.refl _,EG,trivial⟩ rfl<|.cU (qC (v16)) rfl rfl rfl ae rfl rfl rfl<|.cU (iq (v17)) rfl rfl rfl aj rfl rfl rfl<|.nil) rfl ?_;refine .sl 4 rfl rfl rfl ?_;obtain⟨k19,h⟩:=av h;refine .al (.mv rfl<|.ck (qC (v16)) rfl rfl ae rfl rfl<|.Cx (e:=ak.rat) [v16] [(0,_,qD v16,qC (v16))] eX rfl rfl rfl ⟨rfl,rfl,.agg _,rfl,trivial⟩ ⟨rfl,trivial⟩ rfl rfl<|.Cg (ys:=[v16]) rfl .sl rfl (.refl _) rfl eX rfl k19.1 k19.2 rfl<|.aq rfl<|.nil) rfl ?_;refine .sl 5 rfl rfl rfl ?_;obtain⟨k20,h⟩:=av h;refine .region (.mv rfl<|.ck (iq (v17)) rfl rfl aj rfl rfl<|.Cx (e:=ak.rq) [v17] [(0,_,pZ v17,iq (v17))] dG rfl rfl rfl ⟨rfl,rfl,.agg _,rfl,trivial⟩ ⟨rfl,trivial⟩ rfl rfl<|.Cg (ys:=[v17]) rfl .sl rfl (.refl _) rfl dG rfl k20.1 k20.2 rfl<|.aq rfl<|.nil) rfl (Ok.on ?_);refine .region (.mv rfl<|.ar rfl rfl rfl<|.aq rfl<|.nil) rfl (fun _ _ hs=>⟨((IntKind.i64.wrap (v4+1)),(v5++[v16]),(v6++[v17])),(sj h),hs.kz (fun r=>match r with|2000004=>26|2000005=>30|r=>r) (.r rfl rfl<|.p rfl (.own (r:=2000004))<|.p rfl (.own (r:=2000005))<|.r rfl rfl<|trivial) (.r rfl rfl<|.r rfl rfl<|trivial) rfl rfl rfl⟩)
  ·replace h:=aa c11 h;refine .cq rfl c11 ?_;refine .exit (fun a w hs=>⟨_,(sj h),fun e=>by subst e;have h:=ho2;exact aS (⟨(v5,v6),(sj h),hs.sub (.of rfl) (.of rfl) rfl rfl⟩)⟩)
 ·rintro⟨v23,v24⟩ rfl
  try dsimp only
  refine .sl 4 rfl rfl rfl ?_;refine .sl 5 rfl rfl rfl ?_;refine .al (.mv rfl<|.mv rfl<|.aq rfl<|.aq rfl<|.nil) rfl ?_;refine .sQ 2 (.own 2000004) rfl .sl ?_;refine .mD 2 rfl rfl rfl ?_;refine .sQ 3 (.own 2000005) rfl .sl ?_;refine .mD 3 rfl rfl rfl ?_;cases h;refine .aO (fun _ _ hb=>hb) rfl (.cons (.tmp rfl) (.t1 (.tmp rfl))) (.refl _) trivial trivial
def iJ(a1:List Rat)(a2:List Rat)(v6:Int):Option (St Int (Ex Unit Bool)):=(if(decide (v6<(a1.length:Int)))=true then(ix a1 v6).bind fun v12=>(ix a2 v6).bind fun v14=>(mH v12 v14).bind fun v16=>(if(!v16)=true then some (St.done (Ex.ret false))else some (St.next (IntKind.i64.wrap (v6+1))))else some (St.done (Ex.cd ())))
def mI(a1:List Rat)(a2:List Rat):Option Bool:=(if((a1.length:Int) !=(a2.length:Int))=true then some false else((Loop (fun(s:Int)=>iJ a1 a2 s) 0).bind fun o7=>(match o7 with|Ex.cd ()=>some (Ex.cd ())|Ex.ret r19=>some (Ex.ret r19))).bind fun o4=>(match o4 with|Ex.cd ()=>some true|Ex.ret r20=>some r20))
theorem Co{a1:List Rat}{a2:List Rat}{r21:Bool}(h:mI a1 a2=some r21):bf PP 112 [] [ai ak.rat a1,ai ak.rq a2] [] (D.bool r21):=by
 unfold mI at h;refine .of Go.Proofs.Tryz.func112 rfl (by kernel_rfl) rfl rfl rfl rfl rfl rfl (fun A w0 L b=>?_);show Ok PP _ [(0,ai ak.rat a1),(1,ai ak.rq a2)] [] _ _;refine .al (.aq rfl<|.nil) rfl ?_;refine .sq ?_;refine .al (.mv rfl<|.ec rfl bP<|.mv rfl<|.ec rfl jU<|.cm rfl rfl rfl<|.nil) rfl ?_;by_cases c3:((a1.length:Int) !=(a2.length:Int))=true
 ·replace h:=ab c3 h;refine .cl rfl c3 ?_;refine .al (.aq rfl<|.nil) rfl ?_;cases h;refine .aO (fun _ _ hb=>hb) rfl (.t1 (.tmp rfl)) (.refl _) trivial trivial
 ·replace h:=aa c3 h;refine .cq rfl c3 ?_;refine .skip (Ok.on ?_);obtain⟨o4,hp5,h⟩:=bind_some h;refine .cc (fun i=>o4=Ex.cd i) (fun(i:Unit)=>[]) (fun(i:Unit)=>[]) ?_ ?_
  ·have ho1:=h;have h:=hp5;refine .al (.aq rfl<|.nil) rfl ?_;obtain⟨o7,hl8,h⟩:=bind_some h;have ho2:=h;refine .block (.bU (fun(s:Int)=>[(0,ai ak.rat a1),(1,ai ak.rq a2),(5,D.int .i64 s)]) (fun(s:Int)=>[]) hl8 (.of rfl) trivial rfl rfl ?_);rintro v6 st9 hb10;have h:iJ a1 a2 v6=some st9:=hb10;unfold iJ at h
   try dsimp only
   refine .sq ?_;refine .al (.mv rfl<|.mv rfl<|.ec rfl bP<|.cm rfl rfl rfl<|.nil) rfl ?_;by_cases c11:(decide (v6<(a1.length:Int)))=true
   ·replace h:=ab c11 h;refine .cl rfl c11 ?_;refine .skip (Ok.on ?_);refine .sq ?_;refine .block ?_;obtain⟨v12,e13,h⟩:=bind_some h;obtain⟨v14,e15,h⟩:=bind_some h;obtain⟨v16,e17,h⟩:=bind_some h;refine .cZ cf (.mv rfl<|.mv rfl<|.ll rfl rfl aV (af e13).1 (af e13).2<|.Cy (l:=qC (v12)) rfl ae rfl<|.mv rfl<|.mv rfl<|.ll rfl rfl bk (af e15).1 (af e15).2<|.Cy (l:=iq (v14)) rfl aj rfl<|.ag (xR e17) ⟨rfl,rfl,trivial⟩ trivial trivial<|.not rfl<|.nil) rfl (by kernel_rfl) ?_;by_cases c18:(!v16)=true
    ·replace h:=ab c18 h;refine .cl rfl c18 ?_;refine .al (.aq rfl<|.nil) rfl ?_;refine .aO (Hi:=[]) (Ho:=[]) (b:=b) (fn:=Go.Proofs.Tryz.f112) (d:=D.bool false) (fun _ _ hb=>by exact⟨_,(sj h),fun e=>by subst e;have h:=ho2;cases h;have h:=ho1;cases h;exact hb⟩) rfl (.t1 (.tmp rfl)) (.refl _) trivial trivial
    ·replace h:=aa c18 h;refine .cq rfl c18 ?_;refine .skip (Ok.on ?_);refine .region (.mv rfl<|.ar rfl rfl rfl<|.aq rfl<|.nil) rfl (fun _ _ hs=>⟨(IntKind.i64.wrap (v6+1)),(sj h),hs.sub (.of rfl) trivial rfl rfl⟩)
   ·replace h:=aa c11 h;refine .cq rfl c11 ?_;refine .exit (fun a w hs=>⟨_,(sj h),fun e=>by subst e;have h:=ho2;exact aS (⟨(),(sj h),hs.sub trivial trivial rfl rfl⟩)⟩)
  ·rintro⟨⟩ rfl
   try dsimp only
   refine .al (.aq rfl<|.nil) rfl ?_;cases h;refine .aO (fun _ _ hb=>hb) rfl (.t1 (.tmp rfl)) (.refl _) trivial trivial
def s_(a1:List UInt8):Option Rat:=(sM a1).bind fun(v2,v3)=>some v2
theorem AV{a1:List UInt8}{r5:Rat}(h:s_ a1=some r5):bf PP 100 [] [cu a1] [] (qD r5):=by
 unfold s_ at h;refine .of Go.Proofs.Tryz.func100 rfl (by kernel_rfl) rfl rfl rfl rfl rfl rfl (fun A w0 L b=>?_);show Ok PP _ [(0,cu a1)] [] _ _;refine .al (.fN (qC (0)) aI ⟨lY,lZ,l4,trivial⟩ rfl<|.nil) rfl ?_;obtain⟨⟨v2,v3⟩,e4,h⟩:=bind_some h;refine .al (.mv rfl<|.ag (wP e4) ⟨rfl,trivial⟩ trivial trivial<|.mv rfl<|.ext rfl rfl<|.ext rfl rfl<|.fN (qC (0)) aI ⟨lY,lZ,l4,trivial⟩ rfl<|.cU (qC (v2)) rfl rfl rfl ae rfl rfl rfl<|.aq rfl<|.nil) rfl ?_;refine .al (.ck (qC (v2)) rfl rfl ae rfl rfl<|.cU (qC (v2)) rfl rfl rfl ae rfl rfl rfl<|.nil) rfl ?_;cases h;refine .aO (fun _ _ hb=>hb) rfl (.cons (.agg rfl rfl ae rfl) .nil) (.refl _) trivial trivial
def mn(a1:Rat)(a2:List UInt8):Option Bool:=(rv a1).bind fun v3=>some (v3==a2)
theorem db{a1:Rat}{a2:List UInt8}{r5:Bool}(h:mn a1 a2=some r5):bf PP 141 [] [qD a1,cu a2] [] (D.bool r5):=by
 unfold mn at h;refine .of Go.Proofs.Tryz.func141 rfl (by kernel_rfl) rfl rfl rfl rfl rfl rfl (fun A w0 L b=>?_);show Ok PP _ [(0,qD a1),(1,cu a2)] [] _ _;refine .al (.iP rfl rfl<|.aq rfl<|.nil) rfl ?_;obtain⟨v3,e4,h⟩:=bind_some h;refine .al (.ck (qC (a1)) rfl rfl ae rfl rfl<|.ag (DQ e4) ⟨rfl,trivial⟩ trivial trivial<|.mv rfl<|.Iz rfl rfl<|.aq rfl<|.nil) rfl ?_;cases h;refine .aO (fun _ _ hb=>hb) rfl (.t1 (.tmp rfl)) (.refl _) trivial trivial
def gT:Option Bool:=(sM ([45,49,46,50,53,48]:List UInt8)).bind fun(v1,v2)=>(sM ([54,47,52]:List UInt8)).bind fun(v4,v5)=>(s_ ([51,53,53,47,49,49,51]:List UInt8)).bind fun v7=>(D5 v7 7).bind fun(v9,v10)=>(fY 2).bind fun v12=>(Cz v12 3).bind fun(v14,v15)=>(s_ ([49,47,50]:List UInt8)).bind fun v17=>(zy v17).bind fun(v19,v20)=>(if(v2==0)=true then(if(v5==0)=true then(if(v10==0)=true then(if(v15==0)=true then(mn v1 ([45,53,47,52]:List UInt8)).bind fun v26=>(if v26=true then(mn v4 ([51,47,50]:List UInt8)).bind fun v29=>(if v29=true then(mn v9 ([50,50,47,55]:List UInt8)).bind fun v32=>(if v32=true then(mn v14 ([49,49,47,56]:List UInt8)).bind fun v35=>(if v35=true then(mn v19 ([51,47,53]:List UInt8)).bind fun v38=>(if v38=true then(mn v20 ([52,47,53]:List UInt8)).bind fun v41=>(if v41=true then(jj v1 v4).bind fun v44=>(mn v44 ([49,47,52]:List UInt8)).bind fun v46=>(if v46=true then(fh v1 v4).bind fun v49=>(mn v49 ([45,49,53,47,56]:List UInt8)).bind fun v51=>some v51 else some false)else some false)else some false)else some false)else some false)else some false)else some false)else some false)else some false)else some false)else some false)
theorem jT{r53:Bool}(h:gT=some r53):bf PP 22 [] [] [] (D.bool r53):=by
 unfold gT at h;refine .of Go.Proofs.Tryz.func22 rfl (by kernel_rfl) rfl rfl rfl rfl rfl rfl (fun A w0 L b=>?_);show Ok PP _ [] [] _ _;refine .al (.aq rfl<|.nil) rfl ?_;obtain⟨⟨v1,v2⟩,e3,h⟩:=bind_some h;refine .al (.ag (wP e3) ⟨rfl,trivial⟩ trivial trivial<|.mv rfl<|.ext rfl rfl<|.ext rfl rfl<|.fN (qC (0)) aI ⟨lY,lZ,l4,trivial⟩ rfl<|.cU (qC (v1)) rfl rfl rfl ae rfl rfl rfl<|.aq rfl<|.nil) rfl ?_;obtain⟨⟨v4,v5⟩,e6,h⟩:=bind_some h;refine .al (.ag (wP e6) ⟨rfl,trivial⟩ trivial trivial<|.mv rfl<|.ext rfl rfl<|.ext rfl rfl<|.fN (qC (0)) aI ⟨lY,lZ,l4,trivial⟩ rfl<|.cU (qC (v4)) rfl rfl rfl ae rfl rfl rfl<|.aq rfl<|.nil) rfl ?_;obtain⟨v7,e8,h⟩:=bind_some h;obtain⟨⟨v9,v10⟩,e11,h⟩:=bind_some h;refine .al (.ag (AV e8) ⟨rfl,trivial⟩ trivial trivial<|.ag (Ip e11) ⟨rfl,rfl,trivial⟩ trivial trivial<|.mv rfl<|.ext rfl rfl<|.ext rfl rfl<|.fN (qC (0)) aI ⟨lY,lZ,l4,trivial⟩ rfl<|.cU (qC (v9)) rfl rfl rfl ae rfl rfl rfl<|.aq rfl<|.nil) rfl ?_;obtain⟨v12,e13,h⟩:=bind_some h;obtain⟨⟨v14,v15⟩,e16,h⟩:=bind_some h;refine .al (.ag (kK e13) ⟨rfl,trivial⟩ trivial trivial<|.ag (Hj e16) ⟨rfl,rfl,trivial⟩ trivial trivial<|.mv rfl<|.ext rfl rfl<|.ext rfl rfl<|.fN (qC (0)) aI ⟨lY,lZ,l4,trivial⟩ rfl<|.cU (qC (v14)) rfl rfl rfl ae rfl rfl rfl<|.aq rfl<|.nil) rfl ?_;obtain⟨v17,e18,h⟩:=bind_some h;obtain⟨⟨v19,v20⟩,e21,h⟩:=bind_some h;refine .al (.ag (AV e18) ⟨rfl,trivial⟩ trivial trivial<|.ag (HL e21) ⟨rfl,trivial⟩ trivial trivial<|.fN (qC (0)++qC (0)) n6 ⟨lY,lZ,l4,lY,lZ,l4,trivial⟩ rfl<|.cU (qC (v19)++qC (v20)) rfl rfl rfl m1 rfl rfl rfl<|.nil) rfl ?_;by_cases c22:(v2==0)=true
 ·replace h:=ab c22 h;by_cases c23:(v5==0)=true
  ·replace h:=ab c23 h;by_cases c24:(v10==0)=true
   ·replace h:=ab c24 h;by_cases c25:(v15==0)=true
    ·replace h:=ab c25 h;obtain⟨v26,e27,h⟩:=bind_some h;by_cases c28:v26=true
     ·replace h:=ab c28 h;obtain⟨v29,e30,h⟩:=bind_some h;by_cases c31:v29=true
      ·replace h:=ab c31 h;obtain⟨v32,e33,h⟩:=bind_some h;by_cases c34:v32=true
       ·replace h:=ab c34 h;obtain⟨v35,e36,h⟩:=bind_some h;by_cases c37:v35=true
        ·replace h:=ab c37 h;obtain⟨v38,e39,h⟩:=bind_some h;by_cases c40:v38=true
         ·replace h:=ab c40 h;obtain⟨v41,e42,h⟩:=bind_some h;by_cases c43:v41=true
          ·replace h:=ab c43 h;obtain⟨v44,e45,h⟩:=bind_some h;obtain⟨v46,e47,h⟩:=bind_some h;by_cases c48:v46=true
           ·replace h:=ab c48 h;obtain⟨v49,e50,h⟩:=bind_some h;obtain⟨v51,e52,h⟩:=bind_some h;refine .al (.mv rfl<|.cm rfl rfl rfl<|.mv rfl<|.gy c22<|.mv rfl<|.gy c22<|.cm rfl rfl rfl<|.aX rfl c22 rfl<|.mv rfl<|.gy c23<|.mv rfl<|.gy c23<|.cm rfl rfl rfl<|.aX rfl c23 rfl<|.mv rfl<|.gy c24<|.mv rfl<|.gy c24<|.cm rfl rfl rfl<|.aX rfl c24 rfl<|.mv rfl<|.gy c25<|.ck (qC (v1)) rfl rfl ae rfl rfl<|.gy c25<|.ag (db e27) ⟨rfl,rfl,trivial⟩ trivial trivial<|.aX rfl c25 rfl<|.mv rfl<|.gy c28<|.ck (qC (v4)) rfl rfl ae rfl rfl<|.gy c28<|.ag (db e30) ⟨rfl,rfl,trivial⟩ trivial trivial<|.aX rfl c28 rfl<|.mv rfl<|.gy c31<|.ck (qC (v9)) rfl rfl ae rfl rfl<|.gy c31<|.ag (db e33) ⟨rfl,rfl,trivial⟩ trivial trivial<|.aX rfl c31 rfl<|.mv rfl<|.gy c34<|.ck (qC (v14)) rfl rfl ae rfl rfl<|.gy c34<|.ag (db e36) ⟨rfl,rfl,trivial⟩ trivial trivial<|.aX rfl c34 rfl<|.mv rfl<|.gy c37<|.fa rfl j8<|.gy c37<|.ck (qC (v19)) rfl rfl ae rfl rfl<|.gy c37<|.ag (db e39) ⟨rfl,rfl,trivial⟩ trivial trivial<|.aX rfl c37 rfl<|.mv rfl<|.gy c40<|.fa rfl mm<|.gy c40<|.ck (qC (v20)) rfl rfl ae rfl rfl<|.gy c40<|.ag (db e42) ⟨rfl,rfl,trivial⟩ trivial trivial<|.aX rfl c40 rfl<|.mv rfl<|.gy c43<|.ck (qC (v1)) rfl rfl ae rfl rfl<|.gy c43<|.ck (qC (v4)) rfl rfl ae rfl rfl<|.gy c43<|.ag (mL e45) ⟨rfl,rfl,trivial⟩ trivial trivial<|.gy c43<|.ag (db e47) ⟨rfl,rfl,trivial⟩ trivial trivial<|.aX rfl c43 rfl<|.mv rfl<|.gy c48<|.ck (qC (v1)) rfl rfl ae rfl rfl<|.gy c48<|.ck (qC (v4)) rfl rfl ae rfl rfl<|.gy c48<|.ag (lE e50) ⟨rfl,rfl,trivial⟩ trivial trivial<|.gy c48<|.ag (db e52) ⟨rfl,rfl,trivial⟩ trivial trivial<|.aX rfl c48 rfl<|.aq rfl<|.nil) rfl ?_;cases h;refine .aO (fun _ _ hb=>hb) rfl (.t1 (.tmp rfl)) (.refl _) trivial trivial
           ·replace h:=aa c48 h;refine .al (.mv rfl<|.cm rfl rfl rfl<|.mv rfl<|.gy c22<|.mv rfl<|.gy c22<|.cm rfl rfl rfl<|.aX rfl c22 rfl<|.mv rfl<|.gy c23<|.mv rfl<|.gy c23<|.cm rfl rfl rfl<|.aX rfl c23 rfl<|.mv rfl<|.gy c24<|.mv rfl<|.gy c24<|.cm rfl rfl rfl<|.aX rfl c24 rfl<|.mv rfl<|.gy c25<|.ck (qC (v1)) rfl rfl ae rfl rfl<|.gy c25<|.ag (db e27) ⟨rfl,rfl,trivial⟩ trivial trivial<|.aX rfl c25 rfl<|.mv rfl<|.gy c28<|.ck (qC (v4)) rfl rfl ae rfl rfl<|.gy c28<|.ag (db e30) ⟨rfl,rfl,trivial⟩ trivial trivial<|.aX rfl c28 rfl<|.mv rfl<|.gy c31<|.ck (qC (v9)) rfl rfl ae rfl rfl<|.gy c31<|.ag (db e33) ⟨rfl,rfl,trivial⟩ trivial trivial<|.aX rfl c31 rfl<|.mv rfl<|.gy c34<|.ck (qC (v14)) rfl rfl ae rfl rfl<|.gy c34<|.ag (db e36) ⟨rfl,rfl,trivial⟩ trivial trivial<|.aX rfl c34 rfl<|.mv rfl<|.gy c37<|.fa rfl j8<|.gy c37<|.ck (qC (v19)) rfl rfl ae rfl rfl<|.gy c37<|.ag (db e39) ⟨rfl,rfl,trivial⟩ trivial trivial<|.aX rfl c37 rfl<|.mv rfl<|.gy c40<|.fa rfl mm<|.gy c40<|.ck (qC (v20)) rfl rfl ae rfl rfl<|.gy c40<|.ag (db e42) ⟨rfl,rfl,trivial⟩ trivial trivial<|.aX rfl c40 rfl<|.mv rfl<|.gy c43<|.ck (qC (v1)) rfl rfl ae rfl rfl<|.gy c43<|.ck (qC (v4)) rfl rfl ae rfl rfl<|.gy c43<|.ag (mL e45) ⟨rfl,rfl,trivial⟩ trivial trivial<|.gy c43<|.ag (db e47) ⟨rfl,rfl,trivial⟩ trivial trivial<|.aX rfl c43 rfl<|.mv rfl<|.gm c48<|.gm c48<|.gm c48<|.gm c48<|.aT rfl c48 rfl<|.aq rfl<|.nil) rfl ?_;cases h;refine .aO (fun _ _ hb=>hb) rfl (.t1 (.tmp rfl)) (.refl _) trivial trivial
          ·replace h:=aa c43 h;refine .al (.mv rfl<|.cm rfl rfl rfl<|.mv rfl<|.gy c22<|.mv rfl<|.gy c22<|.cm rfl rfl rfl<|.aX rfl c22 rfl<|.mv rfl<|.gy c23<|.mv rfl<|.gy c23<|.cm rfl rfl rfl<|.aX rfl c23 rfl<|.mv rfl<|.gy c24<|.mv rfl<|.gy c24<|.cm rfl rfl rfl<|.aX rfl c24 rfl<|.mv rfl<|.gy c25<|.ck (qC (v1)) rfl rfl ae rfl rfl<|.gy c25<|.ag (db e27) ⟨rfl,rfl,trivial⟩ trivial trivial<|.aX rfl c25 rfl<|.mv rfl<|.gy c28<|.ck (qC (v4)) rfl rfl ae rfl rfl<|.gy c28<|.ag (db e30) ⟨rfl,rfl,trivial⟩ trivial trivial<|.aX rfl c28 rfl<|.mv rfl<|.gy c31<|.ck (qC (v9)) rfl rfl ae rfl rfl<|.gy c31<|.ag (db e33) ⟨rfl,rfl,trivial⟩ trivial trivial<|.aX rfl c31 rfl<|.mv rfl<|.gy c34<|.ck (qC (v14)) rfl rfl ae rfl rfl<|.gy c34<|.ag (db e36) ⟨rfl,rfl,trivial⟩ trivial trivial<|.aX rfl c34 rfl<|.mv rfl<|.gy c37<|.fa rfl j8<|.gy c37<|.ck (qC (v19)) rfl rfl ae rfl rfl<|.gy c37<|.ag (db e39) ⟨rfl,rfl,trivial⟩ trivial trivial<|.aX rfl c37 rfl<|.mv rfl<|.gy c40<|.fa rfl mm<|.gy c40<|.ck (qC (v20)) rfl rfl ae rfl rfl<|.gy c40<|.ag (db e42) ⟨rfl,rfl,trivial⟩ trivial trivial<|.aX rfl c40 rfl<|.mv rfl<|.gm c43<|.gm c43<|.gm c43<|.gm c43<|.aT rfl c43 rfl<|.mv rfl<|.bH<|.bH<|.bH<|.bH<|.aT rfl (by decide) rfl<|.aq rfl<|.nil) rfl ?_;cases h;refine .aO (fun _ _ hb=>hb) rfl (.t1 (.tmp rfl)) (.refl _) trivial trivial
         ·replace h:=aa c40 h;refine .al (.mv rfl<|.cm rfl rfl rfl<|.mv rfl<|.gy c22<|.mv rfl<|.gy c22<|.cm rfl rfl rfl<|.aX rfl c22 rfl<|.mv rfl<|.gy c23<|.mv rfl<|.gy c23<|.cm rfl rfl rfl<|.aX rfl c23 rfl<|.mv rfl<|.gy c24<|.mv rfl<|.gy c24<|.cm rfl rfl rfl<|.aX rfl c24 rfl<|.mv rfl<|.gy c25<|.ck (qC (v1)) rfl rfl ae rfl rfl<|.gy c25<|.ag (db e27) ⟨rfl,rfl,trivial⟩ trivial trivial<|.aX rfl c25 rfl<|.mv rfl<|.gy c28<|.ck (qC (v4)) rfl rfl ae rfl rfl<|.gy c28<|.ag (db e30) ⟨rfl,rfl,trivial⟩ trivial trivial<|.aX rfl c28 rfl<|.mv rfl<|.gy c31<|.ck (qC (v9)) rfl rfl ae rfl rfl<|.gy c31<|.ag (db e33) ⟨rfl,rfl,trivial⟩ trivial trivial<|.aX rfl c31 rfl<|.mv rfl<|.gy c34<|.ck (qC (v14)) rfl rfl ae rfl rfl<|.gy c34<|.ag (db e36) ⟨rfl,rfl,trivial⟩ trivial trivial<|.aX rfl c34 rfl<|.mv rfl<|.gy c37<|.fa rfl j8<|.gy c37<|.ck (qC (v19)) rfl rfl ae rfl rfl<|.gy c37<|.ag (db e39) ⟨rfl,rfl,trivial⟩ trivial trivial<|.aX rfl c37 rfl<|.mv rfl<|.gm c40<|.gm c40<|.gm c40<|.aT rfl c40 rfl<|.mv rfl<|.bH<|.bH<|.bH<|.bH<|.aT rfl (by decide) rfl<|.mv rfl<|.bH<|.bH<|.bH<|.bH<|.aT rfl (by decide) rfl<|.aq rfl<|.nil) rfl ?_;cases h;refine .aO (fun _ _ hb=>hb) rfl (.t1 (.tmp rfl)) (.refl _) trivial trivial
        ·replace h:=aa c37 h;refine .al (.mv rfl<|.cm rfl rfl rfl<|.mv rfl<|.gy c22<|.mv rfl<|.gy c22<|.cm rfl rfl rfl<|.aX rfl c22 rfl<|.mv rfl<|.gy c23<|.mv rfl<|.gy c23<|.cm rfl rfl rfl<|.aX rfl c23 rfl<|.mv rfl<|.gy c24<|.mv rfl<|.gy c24<|.cm rfl rfl rfl<|.aX rfl c24 rfl<|.mv rfl<|.gy c25<|.ck (qC (v1)) rfl rfl ae rfl rfl<|.gy c25<|.ag (db e27) ⟨rfl,rfl,trivial⟩ trivial trivial<|.aX rfl c25 rfl<|.mv rfl<|.gy c28<|.ck (qC (v4)) rfl rfl ae rfl rfl<|.gy c28<|.ag (db e30) ⟨rfl,rfl,trivial⟩ trivial trivial<|.aX rfl c28 rfl<|.mv rfl<|.gy c31<|.ck (qC (v9)) rfl rfl ae rfl rfl<|.gy c31<|.ag (db e33) ⟨rfl,rfl,trivial⟩ trivial trivial<|.aX rfl c31 rfl<|.mv rfl<|.gy c34<|.ck (qC (v14)) rfl rfl ae rfl rfl<|.gy c34<|.ag (db e36) ⟨rfl,rfl,trivial⟩ trivial trivial<|.aX rfl c34 rfl<|.mv rfl<|.gm c37<|.gm c37<|.gm c37<|.aT rfl c37 rfl<|.mv rfl<|.bH<|.bH<|.bH<|.aT rfl (by decide) rfl<|.mv rfl<|.bH<|.bH<|.bH<|.bH<|.aT rfl (by decide) rfl<|.mv rfl<|.bH<|.bH<|.bH<|.bH<|.aT rfl (by decide) rfl<|.aq rfl<|.nil) rfl ?_;cases h;refine .aO (fun _ _ hb=>hb) rfl (.t1 (.tmp rfl)) (.refl _) trivial trivial
       ·replace h:=aa c34 h;refine .al (.mv rfl<|.cm rfl rfl rfl<|.mv rfl<|.gy c22<|.mv rfl<|.gy c22<|.cm rfl rfl rfl<|.aX rfl c22 rfl<|.mv rfl<|.gy c23<|.mv rfl<|.gy c23<|.cm rfl rfl rfl<|.aX rfl c23 rfl<|.mv rfl<|.gy c24<|.mv rfl<|.gy c24<|.cm rfl rfl rfl<|.aX rfl c24 rfl<|.mv rfl<|.gy c25<|.ck (qC (v1)) rfl rfl ae rfl rfl<|.gy c25<|.ag (db e27) ⟨rfl,rfl,trivial⟩ trivial trivial<|.aX rfl c25 rfl<|.mv rfl<|.gy c28<|.ck (qC (v4)) rfl rfl ae rfl rfl<|.gy c28<|.ag (db e30) ⟨rfl,rfl,trivial⟩ trivial trivial<|.aX rfl c28 rfl<|.mv rfl<|.gy c31<|.ck (qC (v9)) rfl rfl ae rfl rfl<|.gy c31<|.ag (db e33) ⟨rfl,rfl,trivial⟩ trivial trivial<|.aX rfl c31 rfl<|.mv rfl<|.gm c34<|.gm c34<|.aT rfl c34 rfl<|.mv rfl<|.bH<|.bH<|.bH<|.aT rfl (by decide) rfl<|.mv rfl<|.bH<|.bH<|.bH<|.aT rfl (by decide) rfl<|.mv rfl<|.bH<|.bH<|.bH<|.bH<|.aT rfl (by decide) rfl<|.mv rfl<|.bH<|.bH<|.bH<|.bH<|.aT rfl (by decide) rfl<|.aq rfl<|.nil) rfl ?_;cases h;refine .aO (fun _ _ hb=>hb) rfl (.t1 (.tmp rfl)) (.refl _) trivial trivial
      ·replace h:=aa c31 h;refine .al (.mv rfl<|.cm rfl rfl rfl<|.mv rfl<|.gy c22<|.mv rfl<|.gy c22<|.cm rfl rfl rfl<|.aX rfl c22 rfl<|.mv rfl<|.gy c23<|.mv rfl<|.gy c23<|.cm rfl rfl rfl<|.aX rfl c23 rfl<|.mv rfl<|.gy c24<|.mv rfl<|.gy c24<|.cm rfl rfl rfl<|.aX rfl c24 rfl<|.mv rfl<|.gy c25<|.ck (qC (v1)) rfl rfl ae rfl rfl<|.gy c25<|.ag (db e27) ⟨rfl,rfl,trivial⟩ trivial trivial<|.aX rfl c25 rfl<|.mv rfl<|.gy c28<|.ck (qC (v4)) rfl rfl ae rfl rfl<|.gy c28<|.ag (db e30) ⟨rfl,rfl,trivial⟩ trivial trivial<|.aX rfl c28 rfl<|.mv rfl<|.gm c31<|.gm c31<|.aT rfl c31 rfl<|.mv rfl<|.bH<|.bH<|.aT rfl (by decide) rfl<|.mv rfl<|.bH<|.bH<|.bH<|.aT rfl (by decide) rfl<|.mv rfl<|.bH<|.bH<|.bH<|.aT rfl (by decide) rfl<|.mv rfl<|.bH<|.bH<|.bH<|.bH<|.aT rfl (by decide) rfl<|.mv rfl<|.bH<|.bH<|.bH<|.bH<|.aT rfl (by decide) rfl<|.aq rfl<|.nil) rfl ?_;cases h;refine .aO (fun _ _ hb=>hb) rfl (.t1 (.tmp rfl)) (.refl _) trivial trivial
     ·replace h:=aa c28 h;refine .al (.mv rfl<|.cm rfl rfl rfl<|.mv rfl<|.gy c22<|.mv rfl<|.gy c22<|.cm rfl rfl rfl<|.aX rfl c22 rfl<|.mv rfl<|.gy c23<|.mv rfl<|.gy c23<|.cm rfl rfl rfl<|.aX rfl c23 rfl<|.mv rfl<|.gy c24<|.mv rfl<|.gy c24<|.cm rfl rfl rfl<|.aX rfl c24 rfl<|.mv rfl<|.gy c25<|.ck (qC (v1)) rfl rfl ae rfl rfl<|.gy c25<|.ag (db e27) ⟨rfl,rfl,trivial⟩ trivial trivial<|.aX rfl c25 rfl<|.mv rfl<|.gm c28<|.gm c28<|.aT rfl c28 rfl<|.mv rfl<|.bH<|.bH<|.aT rfl (by decide) rfl<|.mv rfl<|.bH<|.bH<|.aT rfl (by decide) rfl<|.mv rfl<|.bH<|.bH<|.bH<|.aT rfl (by decide) rfl<|.mv rfl<|.bH<|.bH<|.bH<|.aT rfl (by decide) rfl<|.mv rfl<|.bH<|.bH<|.bH<|.bH<|.aT rfl (by decide) rfl<|.mv rfl<|.bH<|.bH<|.bH<|.bH<|.aT rfl (by decide) rfl<|.aq rfl<|.nil) rfl ?_;cases h;refine .aO (fun _ _ hb=>hb) rfl (.t1 (.tmp rfl)) (.refl _) trivial trivial
    ·replace h:=aa c25 h;refine .al (.mv rfl<|.cm rfl rfl rfl<|.mv rfl<|.gy c22<|.mv rfl<|.gy c22<|.cm rfl rfl rfl<|.aX rfl c22 rfl<|.mv rfl<|.gy c23<|.mv rfl<|.gy c23<|.cm rfl rfl rfl<|.aX rfl c23 rfl<|.mv rfl<|.gy c24<|.mv rfl<|.gy c24<|.cm rfl rfl rfl<|.aX rfl c24 rfl<|.mv rfl<|.gm c25<|.gm c25<|.aT rfl c25 rfl<|.mv rfl<|.bH<|.bH<|.aT rfl (by decide) rfl<|.mv rfl<|.bH<|.bH<|.aT rfl (by decide) rfl<|.mv rfl<|.bH<|.bH<|.aT rfl (by decide) rfl<|.mv rfl<|.bH<|.bH<|.bH<|.aT rfl (by decide) rfl<|.mv rfl<|.bH<|.bH<|.bH<|.aT rfl (by decide) rfl<|.mv rfl<|.bH<|.bH<|.bH<|.bH<|.aT rfl (by decide) rfl<|.mv rfl<|.bH<|.bH<|.bH<|.bH<|.aT rfl (by decide) rfl<|.aq rfl<|.nil) rfl ?_;cases h;refine .aO (fun _ _ hb=>hb) rfl (.t1 (.tmp rfl)) (.refl _) trivial trivial
   ·replace h:=aa c24 h;refine .al (.mv rfl<|.cm rfl rfl rfl<|.mv rfl<|.gy c22<|.mv rfl<|.gy c22<|.cm rfl rfl rfl<|.aX rfl c22 rfl<|.mv rfl<|.gy c23<|.mv rfl<|.gy c23<|.cm rfl rfl rfl<|.aX rfl c23 rfl<|.mv rfl<|.gm c24<|.gm c24<|.aT rfl c24 rfl<|.mv rfl<|.bH<|.bH<|.aT rfl (by decide) rfl<|.mv rfl<|.bH<|.bH<|.aT rfl (by decide) rfl<|.mv rfl<|.bH<|.bH<|.aT rfl (by decide) rfl<|.mv rfl<|.bH<|.bH<|.aT rfl (by decide) rfl<|.mv rfl<|.bH<|.bH<|.bH<|.aT rfl (by decide) rfl<|.mv rfl<|.bH<|.bH<|.bH<|.aT rfl (by decide) rfl<|.mv rfl<|.bH<|.bH<|.bH<|.bH<|.aT rfl (by decide) rfl<|.mv rfl<|.bH<|.bH<|.bH<|.bH<|.aT rfl (by decide) rfl<|.aq rfl<|.nil) rfl ?_;cases h;refine .aO (fun _ _ hb=>hb) rfl (.t1 (.tmp rfl)) (.refl _) trivial trivial
  ·replace h:=aa c23 h;refine .al (.mv rfl<|.cm rfl rfl rfl<|.mv rfl<|.gy c22<|.mv rfl<|.gy c22<|.cm rfl rfl rfl<|.aX rfl c22 rfl<|.mv rfl<|.gm c23<|.gm c23<|.aT rfl c23 rfl<|.mv rfl<|.bH<|.bH<|.aT rfl (by decide) rfl<|.mv rfl<|.bH<|.bH<|.aT rfl (by decide) rfl<|.mv rfl<|.bH<|.bH<|.aT rfl (by decide) rfl<|.mv rfl<|.bH<|.bH<|.aT rfl (by decide) rfl<|.mv rfl<|.bH<|.bH<|.aT rfl (by decide) rfl<|.mv rfl<|.bH<|.bH<|.bH<|.aT rfl (by decide) rfl<|.mv rfl<|.bH<|.bH<|.bH<|.aT rfl (by decide) rfl<|.mv rfl<|.bH<|.bH<|.bH<|.bH<|.aT rfl (by decide) rfl<|.mv rfl<|.bH<|.bH<|.bH<|.bH<|.aT rfl (by decide) rfl<|.aq rfl<|.nil) rfl ?_;cases h;refine .aO (fun _ _ hb=>hb) rfl (.t1 (.tmp rfl)) (.refl _) trivial trivial
 ·replace h:=aa c22 h;refine .al (.mv rfl<|.cm rfl rfl rfl<|.mv rfl<|.gm c22<|.gm c22<|.aT rfl c22 rfl<|.mv rfl<|.bH<|.bH<|.aT rfl (by decide) rfl<|.mv rfl<|.bH<|.bH<|.aT rfl (by decide) rfl<|.mv rfl<|.bH<|.bH<|.aT rfl (by decide) rfl<|.mv rfl<|.bH<|.bH<|.aT rfl (by decide) rfl<|.mv rfl<|.bH<|.bH<|.aT rfl (by decide) rfl<|.mv rfl<|.bH<|.bH<|.aT rfl (by decide) rfl<|.mv rfl<|.bH<|.bH<|.bH<|.aT rfl (by decide) rfl<|.mv rfl<|.bH<|.bH<|.bH<|.aT rfl (by decide) rfl<|.mv rfl<|.bH<|.bH<|.bH<|.bH<|.aT rfl (by decide) rfl<|.mv rfl<|.bH<|.bH<|.bH<|.bH<|.aT rfl (by decide) rfl<|.aq rfl<|.nil) rfl ?_;cases h;refine .aO (fun _ _ hb=>hb) rfl (.t1 (.tmp rfl)) (.refl _) trivial trivial
end
end Go.Am
namespace Go.Am
class Bd(x:Rat)(n:outParam Nat):Prop where
 le:sz x<=n
instance Bd.mul{a b:Rat}{i j:Nat}[h:Bd a i][k:Bd b j]:Bd (a*b) (i+j):=⟨by have:=gW a b;have:=h.le;have:=k.le;omega⟩
theorem Bd.qs{x:Rat}{n:Nat}[h:Bd x n](k:n<=400000000000):di x:=Nat.le_trans h.le k
theorem n5{a b:Rat}(h:di a)(k:di b):jj a b=some (a+b):=aQ ⟨h,k⟩
theorem C2{a b:Rat}(h:di a)(k:di b):ks a b=some (a-b):=aQ ⟨h,k⟩
theorem kl{a b:Rat}(h:di a)(k:di b):fh a b=some (a*b):=aQ ⟨h,k⟩
theorem k8{a b:Rat}(h0:b≠0)(h:di a)(k:di b):fV a b=some (a/b):=aQ ⟨h0,h,k⟩
theorem qS{a b:Rat}(h:di a)(k:di b):lJ a b=some (iL a b):=aQ ⟨h,k⟩
theorem B_{a:Rat}(h:di a):rv a=some (ID a):=aQ h
theorem wm{a:Rat}(h:di a):mH a a=some true:=by
 unfold mH;rw[B_ h];simp
def uL(n d p:Int):Rat:=((n:Rat)/(((if d=0 then 1 else d):Int):Rat))^(1+(p%4).toNat)
theorem Ia(n d:Int)(hd:d≠0):(n:Rat)/(d:Rat)=mkRat (if d<0 then-n else n) d.natAbs:=by
 rw[Rat.mkRat_eq_div];by_cases h:d<0
 ·rw[if_pos h];have e:((d.natAbs:Nat):Rat)=-(d:Rat):=by
   have:((d.natAbs:Nat):Int)=-d:=by omega
   have h2:((d.natAbs:Nat):Rat)=(((d.natAbs:Nat):Int):Rat):=rfl;rw[h2,this,Rat.intCast_neg]
  rw[e,Rat.intCast_neg];grind
 ·rw[if_neg h];have e:((d.natAbs:Nat):Rat)=(d:Rat):=by
   have:((d.natAbs:Nat):Int)=d:=by omega
   have h2:((d.natAbs:Nat):Rat)=(((d.natAbs:Nat):Int):Rat):=rfl;rw[h2,this]
  rw[e]
theorem FY{n d:Int}(hn:fm n)(hd:fm d)(h0:d≠0):sz ((n:Rat)/(d:Rat))<=64:=by
 rw[Ia n d h0];unfold fm at hn hd;refine He _ _ _ (by omega) (eL ?_) (eL ?_)
 ·split<;>omega
 ·omega
theorem AU(n d p:Int)(hn:fm n)(hd:fm d)(hp:0<=p/\p<=255):oy n d p=some (uL n d p,uL n d p)/\sz (uL n d p)<=256:=by
 obtain⟨D,hD⟩:∃D,D=if d=0 then 1 else d:=⟨_,rfl⟩;have hD0:D≠0:=by rw[hD];split<;>omega
 have hDr:fm D:=by
  rw[hD];unfold fm at hd|-
  split<;>omega
 have hx:sz ((n:Rat)/(D:Rat))<=64:=FY hn hDr hD0;generalize hX:(n:Rat)/(D:Rat)=X at hx;have hpow:∀i:Nat,sz (X^(1+i))<=64*(1+i):=by
  intro i
  induction i with
  |zero=>simpa using hx
  |succ i ih=>
   rw[show 1+(i+1)=(1+i)+1 by omega,Rat.pow_succ];have:=gW (X^(1+i)) X;omega
 have hm:Int.tmod p 4=p%4:=Int.tmod_eq_emod_of_nonneg hp.1;have hb:uL n d p=X^(1+(p%4).toNat):=by unfold uL;rw[←hD,hX]
 refine⟨?_,by rw[hb];have:=hpow (p%4).toNat;omega⟩;unfold oy;have e1:(if(d==0)=true then some 1 else some d)=some D:=by rw[hD];by_cases h:d=0<;>simp[h]
 have e2:Gq n D=some (X,0):=by
  unfold Gq;rw[aQ ⟨hn,hDr⟩,if_neg hD0,hX]
 have e3:Fj n D=some X:=by
  unfold Fj;rw[aQ ⟨hn,hDr,hD0⟩,hX]
 rw[e1];simp only[Option.bind_some];rw[e2];simp only[Option.bind_some];rw[e3];simp only[Option.bind_some];obtain⟨r,hr,rfl⟩:=cx (body:=fun(s:Int×Rat×Rat)=>km p X X s.1 s.2.1 s.2.2) (0,X,X) (fun s=>∃i:Nat,i<=(p%4).toNat/\s=((i:Int),X^(1+i),X^(1+i))) (fun s=>(4-s.1).toNat) (fun r=>r=(X^(1+(p%4).toNat),X^(1+(p%4).toNat))) ⟨0,Nat.zero_le _,by simp⟩ (by
  rintro s ⟨i,hi,rfl⟩;simp only;unfold km;rw[hm];by_cases h:(i:Int)<p%4
  ·left
   have h1:di (X^(1+i)):=Nat.le_trans (hpow i) (by omega);have h2:di X:=Nat.le_trans hx (by omega);rw[if_pos (decide_eq_true h),kl h1 h2];simp only[Option.bind_some];have h3:IntKind.u8.wrap ((i:Int)+1)=(i:Int)+1:=CC _ (by omega);rw[h3];refine⟨_,rfl,⟨i+1,by omega,?_⟩,by omega⟩;rw[show 1+(i+1)=(1+i)+1 by omega,Rat.pow_succ];rfl
  ·right
   rw[if_neg (by simpa using h)];refine⟨_,rfl,?_⟩;have:i=(p%4).toNat:=by omega
   rw[this])
 rw[hr,hb]
 rfl
end Go.Am
namespace Go.Am
theorem gC:gT=some true:=by decide+kernel
end Go.Am
namespace Go.Am
open Go.RowKit
set_option maxRecDepth 100000
noncomputable section
end
end Go.Am
namespace Go.Am
def vZ(x:Int×Int×Int):Prop:=fm x.1/\fm x.2.1/\0<=x.2.2/\x.2.2<=255
def eh(l:List (Int×Int×Int)):List Rat:=l.map fun x=>uL x.1 x.2.1 x.2.2
theorem h_{α:Type}{l:List α}{d:α}{i:Nat}(h:i<l.length):l.getD i d=l[i]:=by simp[List.getD,h]
theorem kM{α:Type}{l:List α}{d:α}{i:Nat}(h:l.length<=i):l.getD i d=d:=by simp[List.getD,h]
theorem Jx{α:Type}(l:List α)(d:α)(i:Nat)(h:i<l.length):ix l (i:Int)=some (l.getD i d):=by
 rw[fU h,h_ h]
theorem cI{i n:Nat}(h:i<n)(hn:n<=1000):IntKind.i64.wrap ((i:Int)+1)=((i+1:Nat):Int):=by
 rw[i64_in (by omega)];omega
theorem Du{l:List (Int×Int×Int)}(h:∀x∈l,vZ x)(i:Nat):sz ((eh l).getD i 0)<=256:=by
 by_cases hi:i<(eh l).length
 ·rw[h_ hi];have hi':i<l.length:=by simpa [eh]using hi
  simp only[eh,List.getElem_map];have:=h l[i] (List.getElem_mem hi');exact(AU _ _ _ this.1 this.2.1 this.2.2).2
 ·rw[kM (by omega)];decide
theorem Fi(l:List (Int×Int×Int))(h:∀x∈l,vZ x)(hl:l.length<=30):nM l=some (eh l,eh l):=by
 unfold nM;obtain⟨r,hr,rfl⟩:=cx (body:=fun(s:Int×(List Rat)×(List Rat))=>kr l s.1 s.2.1 s.2.2) (0,[],[]) (fun s=>∃i:Nat,i<=l.length/\s=((i:Int),(eh l).take i,(eh l).take i)) (fun s=>(l.length-s.1).toNat) (fun r=>r=(eh l,eh l)) ⟨0,Nat.zero_le _,by simp⟩ (by
  rintro s ⟨i,hi,rfl⟩;simp only;unfold kr;by_cases hlt:i<l.length
  ·left
   have hb:i<(eh l).length:=by simpa [eh]using hlt
   have hm:(eh l).length=l.length:=by simp[eh]
   have hx:ix l (i:Int)=some l[i]:=by
    unfold ix;rw[if_pos (by omega),Int.toNat_natCast,List.getElem?_eq_getElem hlt]
   have ho:=h l[i] (List.getElem_mem hlt);have hB:=(AU _ _ _ ho.1 ho.2.1 ho.2.2).1;rw[if_pos (decide_eq_true (by omega)),hx];simp only[Option.bind_some];rw[hB];simp only[Option.bind_some];have ht:((eh l).take i).length=i:=by rw[List.length_take];omega
   rw[aQ (by rw[ht];simp only[List.length_cons,List.length_nil];omega),aQ (by rw[ht];simp only[List.length_cons,List.length_nil];omega),cI hlt (by omega)];have e:uL l[i].1 l[i].2.1 l[i].2.2=(eh l)[i]:=by simp[eh]
   rw[e];refine⟨_,rfl,⟨i+1,hlt,?_⟩,by simp only;omega⟩;rw[List.take_succ_eq_append_getElem hb]
  ·right
   rw[if_neg (by simp;omega)];refine⟨_,rfl,?_⟩;have:i=(eh l).length:=by simp[eh];omega
   rw[this,List.take_length])
 rw[hr]
 rfl
end Go.Am
namespace Go.Am
theorem H_{a b:Rat}{i j:Nat}[Bd a i][Bd b j](h:i<=400000000000)(k:j<=400000000000):jj a b=some (a+b):=n5 (Bd.qs h) (Bd.qs k)
theorem Ih{a b:Rat}{i j:Nat}[Bd a i][Bd b j](h:i<=400000000000)(k:j<=400000000000):fh a b=some (a*b):=kl (Bd.qs h) (Bd.qs k)
theorem I5:fY 1=some 1:=by decide+kernel
theorem GU(x:Rat):0<=x*x:=by
 by_cases h:0<=x
 ·exact Rat.mul_nonneg h h
 ·have h1:0<=-x:=by grind
  have h2:=Rat.mul_nonneg h1 h1
  grind
theorem oU{x:Rat}:wJ x=0↔x=0:=by unfold wJ;grind
end Go.Am
namespace Go.Am
open Go.RowKit
def D.mr(s k:Nat):D where
 p:=fun ε _ _ v=>v.oneCell'=true/\∃vs:Array Value,ε s=.agg vs/\vs[k]?=some v
 nm:=[s]
 sh:=.one
 mono:=fun h he _=>by rw[he _ (by simp)];exact h
 jQ:=fun h=>h.1
def D.mc(s k off:Nat):D where
 p:=fun ε _ _ v=>∃(vs:Array Value) (u:Value),ε s=.agg vs/\vs[k]?=some u/\v=.pointer (some ⟨j6 u,off,none⟩)
 nm:=[s]
 sh:=.one
 mono:=fun h he _=>by rw[he _ (by simp)];exact h
 jQ:=fun⟨_,_,_,_,e⟩=>by subst e;rfl
def Hp.store{α:Type}(e:ak α)(te:TypeId)(M:List (List α)):Hp where
 p:=fun ε w S b F=>∃(vs:Array Value) (G:Nat->cV),b=.agg vs/\vs.size=M.length/\
  (∀k xs v,M[k]?=some xs->vs[k]?=some v->(aY e te xs).p ε w S v (G k))/\
  (∀k k',k<M.length->k'<M.length->k≠k'->∀i,G k i->¬G k' i)/\(∀i,F i↔∃k,k<M.length/\G k i)
 nm:=[]
 mono:=fun⟨vs,G,h1,h2,h3,h4,h5⟩ he hS hF=>⟨vs,G,h1,h2,fun k xs v hx hv=>(aY e te xs).mono (h3 k xs v hx hv) (fun r hr=>by cases hr) hS (fun i hi=>hF i ((h5 i).2 ⟨k,(List.getElem?_eq_some_iff.1 hx).1,hi⟩)),h4,h5⟩
def lU(m:Nat)(ty:TypeId)(l:List D)(ε:Env)(w:World)(S:cV)(b:Value)(F:cV):Prop:=
 (l=[]/\b=.slice none 0 0/\F=noBlocks)\/
  ∃(g n cap:Nat) (cs rest:List Value),b=.slice (some ⟨g,0,none⟩) n cap/\F=only g/\w.heap[g]?=some (.cells (cs++rest).toArray ty (0,0))/\(∀u∈cs,u.oneCell'=true)/\(cs++rest).length=cap*m/\cap<=maxLen/\l.length=n*m/\cp ε w S l cs
theorem oH{m:Nat}{ty:TypeId}{l:List D}{ε ε':Env}{w w':World}{S S':cV}{b:Value}{F:cV}(h:lU m ty l ε w S b F)(he:∀r∈bV l,ε' r=ε r)(hS:∀k,S k->k<w.heap.size->S' k/\w'.heap[k]?=w.heap[k]?)(hF:∀k,F k->w'.heap[k]?=w.heap[k]?):lU m ty l ε' w' S' b F:=by
 rcases h with h|⟨g,n,cap,cs,rest,h1,h2,h3,h4,h5,h8,h6,h7⟩
 ·exact .inl h
 ·exact .inr ⟨g,n,cap,cs,rest,h1,h2,(hF g (by rw[h2];rfl)).trans h3,h4,h5,h8,h6,b9 hS h7 he⟩
def cO(s n:Nat):List D:=(List.range n).map (D.mr s)
theorem q9{s n r:Nat}(h:r∈bV (cO s n)):r=s:=by
 obtain⟨d,hd,hr⟩:=bZ.1 h;obtain⟨k,_,rfl⟩:=List.mem_map.1 hd;simpa [D.mr]using hr
theorem m4{α:Type}(e:ak α)(X:List (List α)):bV (X.map (ai e))=[]:=by
 induction X with
 |nil=>rfl
 |cons x X ih=>exact ih
def Hp.cb{α:Type}(e:ak α)(te:TypeId)(s:Nat)(X:List (List α)):Hp where
 p:=fun ε w S b F=>∃vs:Array Value,ε s=.agg vs/\lU 1 te (cO s vs.size++X.map (ai e)) ε w S b F
 nm:=[s]
 mono:=fun⟨vs,h1,h2⟩ he hS hF=>⟨vs,by rw[he _ (by simp)];exact h1,oH h2 (fun r hr=>by
  rcases bZ.1 hr with⟨d,hd,hr'⟩;rcases List.mem_append.1 hd with hd|hd
  ·exact he _ (by rw[q9 (bZ.2 ⟨d,hd,hr'⟩)];simp)
  ·have:=bZ.2 ⟨d,hd,hr'⟩;rw[m4]at this;cases this) hS hF⟩
theorem cP.tc{c:Ctx}{T:Nat->Option D}{H:Nat->Option Hp}{a:Act}{w:World}{ε ε':Env}{φ φ':Nat->cV}(h:cP c T H a w ε φ){L:List (Nat×Hp)}
  (hε:∀q,H q≠none->ε' q=ε q)
  (hφ:∀q,ah L q=none->φ' q=φ q)
  (hF:∀q k,ah L q≠none->φ' q k->∃q',H q'≠none/\ah L q'≠none/\φ q' k)
  (hdj:∀q q',ah L q≠none->ah L q'≠none->q≠q'->∀k,φ' q k->¬φ' q' k)
  (hp:∀q x,ah L q=some x->x.p ε' w (al c (bq H L) φ') (ε' q) (φ' q))
  (hn:∀q x,ah L q=some x->∀q'∈x.nm,H q'≠none\/ah L q'≠none):
  cP c T (bq H L) a w ε' φ'/\(∀k,al c H φ k->al c (bq H L) φ' k):=by
 have hU:∀r,bq H L r≠none↔(ah L r≠none\/H r≠none):=by
  intro r;simp only[bq];cases ah L r<;>simp
 have hreg:∀k,al c H φ k->al c (bq H L) φ' k:=by
  intro k hk;refine⟨hk.1,fun r hr hf=>?_⟩;by_cases hL:ah L r=none
  ·rw[hφ r hL]at hf;exact hk.2 r (((hU r).1 hr).resolve_left (fun h=>h hL)) hf
  ·obtain⟨q',h1,_,h3⟩:=hF r k hL hf;exact hk.2 q' h1 h3
 have hS:∀k,al c H φ k->k<w.heap.size->al c (bq H L) φ' k/\w.heap[k]?=w.heap[k]?:=fun k hk _=>⟨hreg k hk,rfl⟩;refine⟨?_,hreg⟩
 constructor
 ·exact fun t d ht=>d.mono (h.t t d ht) (fun r hr=>hε r (h.tn t d ht r hr)) hS
 ·exact fun t d ht r hr=>(hU r).2 (.inr (h.tn t d ht r hr))
 ·intro r x hr;by_cases hL:ah L r=none
  ·have hr0:H r=some x:=by simpa only[bq,hL]using hr
   rw[hφ r hL,hε r (by rw[hr0];simp)];exact x.mono (h.h r x hr0) (fun r2 h2=>hε r2 (h.hn r x hr0 r2 h2)) hS (fun _ _=>rfl)
  ·cases hq:ah L r with
   |none=>exact absurd hq hL
   |some y=>
    have:y=x:=by simp only[bq,hq]at hr;injection hr
    subst this;exact hp r y hq
 ·intro r x hr r' hr';by_cases hL:ah L r=none
  ·have hr0:H r=some x:=by simpa only[bq,hL]using hr
   exact(hU r').2 (.inr (h.hn r x hr0 r' hr'))
  ·cases hq:ah L r with
   |none=>exact absurd hq hL
   |some y=>
    have:y=x:=by simp only[bq,hq]at hr;injection hr
    subst this;exact(hU r').2 ((hn r y hq r' hr').symm)
 ·intro r hr k hk;by_cases hL:ah L r=none
  ·rw[hφ r hL]at hk;exact h.lo r (((hU r).1 hr).resolve_left (fun h=>h hL)) k hk
  ·obtain⟨q',h1,_,h3⟩:=hF r k hL hk;exact h.lo q' h1 k h3
 ·intro r r' hr hr' hne k hk;have old:∀q,bq H L q≠none->ah L q=none->H q≠none:=fun q h1 h2=>((hU q).1 h1).resolve_left (fun h=>h h2);by_cases hL:ah L r=none
  ·have h0:=old r hr hL;rw[hφ r hL]at hk;by_cases hL':ah L r'=none
   ·rw[hφ r' hL'];exact h.dj r r' h0 (old r' hr' hL') hne k hk
   ·intro hk';obtain⟨q',h1,h2,h3⟩:=hF r' k hL' hk';exact h.dj r q' h0 h1 (fun e=>by subst e;exact h2 hL) k hk h3
  ·by_cases hL':ah L r'=none
   ·rw[hφ r' hL'];intro hk';obtain⟨q',h1,h2,h3⟩:=hF r k hL hk;exact h.dj q' r' h1 (old r' hr' hL') (fun e=>by subst e;exact h2 hL') k h3 hk'
   ·exact hdj r r' hL hL' hne k hk
 ·exact h.su
 ·exact h.bs
 ·exact h.sz
 ·exact h.df
end Go.Am
namespace Go.Am
open Go.RowKit
theorem bX(s n:Nat):(cO s n).length=n:=by simp[cO]
theorem s9{m:Nat}{te:TypeId}{l:List D}{n:Nat}{ε:Env}{w:World}{S:cV}{b:Value}{F:cV}(hm:0<m)(hl:l.length=n*m)(h:lU m te l ε w S b F):∃A cap,b=.slice A n cap/\(0<n->A=some ⟨j6 b,0,none⟩):=by
 rcases h with⟨h0,hb,_⟩|⟨g,n',cap,cs,rest,hb,_,_,_,_,_,hln,_⟩
 ·subst h0;have:n=0:=by rcases Nat.mul_eq_zero.1 (show n*m=0 from hl.symm)with h|h<;>omega
  subst this;exact⟨none,0,hb,fun h=>by omega⟩
 ·have:=Nat.eq_of_mul_eq_mul_right hm (hln.symm.trans hl);subst this;exact⟨some ⟨g,0,none⟩,cap,hb,fun _=>by rw[hb];rfl⟩
section
variable {P:Program} {os:List Oper} {c:Ctx} {T T':List (Nat×D)} {H H':List (Nat×Hp)} {sps:List Spec}
variable {ops:Array Oper} {dst:Option Nat} {ty:TypeId} {pos:String} {aft:Array Edge}
variable {α:Type} {e:ak α} {te tr:TypeId} {r s:Nat} {M X:List (List α)}
theorem l_{ε:Env}{w:World}{S:cV}{b:Value}{F F':cV}(h1:(Hp.cb e te s X).p ε w S b F)(h2:(Hp.store e tr M).p ε w S (ε s) F'):lU 1 te (cO s M.length++X.map (ai e)) ε w S b F:=by
 obtain⟨vs,e1,h1⟩:=h1;obtain⟨vs',G,e2,e3,_⟩:=h2;rw[e1]at e2;injection e2 with e2;subst e2
 rwa [e3]at h1
theorem yl{a:Act}{w:World}{ε:Env}{φ:Nat->cV}{t:Nat}{d:D}{K:Nat->Option Hp}(hs:cP c (aW T) K a w ε φ)(hp:d.p ε w (Am.al c K φ) (a.tmps.getD t undef))(hn:∀r∈d.nm,K r≠none):cP c (aW ((t,d)::T)) K a w ε φ:=by
 refine{hs with t:=?_,tn:=?_}
 ·intro t' d' hd;simp only[aW]at hd
  cases hb:Nat.beq t' t with
  |true=>rw[hb]at hd;injection hd with hd;subst hd;rw[Nat.eq_of_beq_eq_true hb];exact hp
  |false=>rw[hb]at hd;exact hs.t t' d' hd
 ·intro t' d' hd r hr;simp only[aW]at hd
  cases hb:Nat.beq t' t with
  |true=>rw[hb]at hd;injection hd with hd;subst hd;exact hn r hr
  |false=>rw[hb]at hd;exact hs.tn t' d' hd r hr
theorem Ok.Hd{x:Code}{Q:Exit->Act->World->Prop}(t:Nat)(ht:aW T t=some (.own r))(hh:ah H r=some (.cb e te s X))(hk:ah H s=some (.store e tr M))
  (h:Ok P c ((t,.sl r (M.length+X.length))::T) H x Q):Ok P c T H x Q:=by
 intro a w ⟨ε,φ,hs⟩;have hv:a.tmps.getD t undef=ε r:=(hs.t t _ ht).1;have hrow:=l_ (hs.h r _ hh) (hs.h s _ hk);obtain⟨A,cap,h1,h2⟩:=s9 (n:=M.length+X.length) (by decide) (by simp[bX]) hrow;refine h a w ⟨ε,φ,yl hs ⟨hv,A,cap,by rw[hv,h1],h2⟩ (fun r' hr'=>?_)⟩;have:r'=r:=by simpa [D.sl]using hr'
 subst this;rw[hh];simp
def GX(xs:List (Operand×D))(r:Nat)(h:Hp)(s:Nat)(k:Hp)(out:D):Spec:={ins:=xs.flatMap fun x=>eQ x.1 x.2,du:=[(r,h),(s,k)],out:=out,dC:=[],news:=[]}
theorem an.Ir{o:Oper}{xs:List (Operand×D)}{h k:Hp}{d:D}(hg:o.guard=none)(he:∀x∈xs,ev T x.1=some x.2)(hh:ah H r=some h)(hk:ah H s=some k)(hnm:∀r'∈d.nm,r'=r\/r'=s)
  (hrun:∀(ε:Env) (w:World) (S:cV) (a:Act) (F F':cV),(∀x∈xs,x.2.p ε w S (a.eval x.1))->h.p ε w S (ε r) F->k.p ε w S (ε s) F'->∃v,(execOp a.eval o).run P w=.ok (.value v) w/\d.p ε w S v)
  (hr:an P ops c os (bw T o.dst d) H sps T' H'):an P ops c (o::os) T H (GX xs r h s k d::sps) T' H':=by
 refine .cons (sp:=GX xs r h s k d) ?_ (fg he) ⟨hh,hk,trivial⟩ trivial hr;intro hd T0 H0 hi du _ a w ⟨ε,φ,hs⟩ Q K hK;rw[if_pos (bm hg _)];have hxs:=dk hi;obtain⟨v,hv,hp⟩:=hrun ε w (Am.al c H0 φ) a (φ r) (φ s) (fun x hx=>(hs.ev (hxs x hx) (ay (he x hx)).2).1) (hs.h r h du.1) (hs.h s k du.2.1);simp only[Oper.wp,hv,Oper.upon];refine hK _ _ ⟨ε,φ,hs.put (d:=d) (dq hd) hp (fun r' hr'=>?_)⟩;rcases hnm r' hr' with rfl|rfl
 ·show H0 _≠none;rw[du.1];simp
 ·show H0 _≠none;rw[du.2.1];simp
theorem yr{t:TypeId}{z m:Nat}{x:Operand}{d:D}(hd:(cO s M.length++X.map (ai e))[z]?=some d)(hm:m=1)(ht:lay P t=some none)(h:ev T x=some (.ref r (z*m)))(hh:ah H r=some (.cb e te s X))(hk:ah H s=some (.store e tr M))(hnm:∀r'∈d.nm,r'=r\/r'=s)
  (hr:an P ops c os (bw T dst d) H sps T' H'):an P ops c (⟨dst,.load t x,ty,pos,aft,none⟩::os) T H (GX [(x,.ref r (z*m))] r (.cb e te s X) s (.store e tr M) d::sps) T' H':=
 .Ir rfl (by simpa using h) hh hk hnm (fun ε w S a F F' ha h1 h2=>by
  subst hm;have hrow:=l_ h1 h2;have hx:a.eval x=.pointer (some ⟨j6 (ε r),z*1,none⟩):=ha (x,.ref r (z*1)) (by simp);rw[Nat.mul_one]at hx;rcases hrow with⟨h,_,_⟩|⟨g,n',cap,cs,rest,hb,_,hg,_,_,_,_,hc⟩
  ·rw[h]at hd;simp at hd
  ·obtain⟨v,hv,hp⟩:=gK hc hd;have hlt:=(List.getElem?_eq_some_iff.1 hv).1;refine⟨v,?_,hp⟩;rw[hb]at hx;simp only[execOp,hx,j6,Instr.loadAt,Instr.sureAddr,Sem.run_bind,Sem.run_pure,Result.andThen_ok,loadVar,(jL ht w).1,Bool.false_eq_true,if_false,run_load,iR hg,List.getElem?_append_left hlt,hv]) hr
theorem an.jl{t:TypeId}{z:Int}{m:Nat}{x:Operand}(hz:z.toNat<M.length)(h:ev T x=some (.ref r (z.toNat*m)))(hh:ah H r=some (.cb e te s X))(hk:ah H s=some (.store e tr M))(hm:m=1)(ht:lay P t=some none)
  (hr:an P ops c os (bw T dst (.mr s z.toNat)) H sps T' H'):an P ops c (⟨dst,.load t x,ty,pos,aft,none⟩::os) T H (GX [(x,.ref r (z.toNat*m))] r (.cb e te s X) s (.store e tr M) (.mr s z.toNat)::sps) T' H':=
 yr (by rw[List.getElem?_append_left (by rw[bX];exact hz)];simp[cO,hz]) hm ht h hh hk (fun r' hr'=>.inr (by simpa [D.mr]using hr')) hr
theorem an.KS{t:TypeId}{z:Int}{m:Nat}{x:Operand}{xs:List α}(hz:M.length<=z.toNat)(hX:X[z.toNat-M.length]?=some xs)(h:ev T x=some (.ref r (z.toNat*m)))(hh:ah H r=some (.cb e te s X))(hk:ah H s=some (.store e tr M))(hm:m=1)(ht:lay P t=some none)
  (hr:an P ops c os (bw T dst (ai e xs)) H sps T' H'):an P ops c (⟨dst,.load t x,ty,pos,aft,none⟩::os) T H (GX [(x,.ref r (z.toNat*m))] r (.cb e te s X) s (.store e tr M) (ai e xs)::sps) T' H':=
 yr (by rw[List.getElem?_append_right (by rw[bX];exact hz),bX,List.getElem?_map,hX];rfl) hm ht h hh hk (fun r' hr'=>by cases hr') hr
theorem oJ{k:Nat}{xs:List α}{ε:Env}{w:World}{S:cV}{F:cV}{v:Value}(hM:M[k]?=some xs)(h:(Hp.store e tr M).p ε w S (ε s) F)(hv:(D.mr s k).p ε w S v):∃G,(aY e tr xs).p ε w S v G:=by
 obtain⟨_,vs,e1,e2⟩:=hv;obtain⟨vs',G,e3,_,e4,_⟩:=h;rw[e1]at e3;injection e3 with e3;subst e3;exact⟨G k,e4 k xs v hM e2⟩
theorem an.lQ{t:TypeId}{x y:Operand}{k m:Nat}{kd:IntKind}{z:Int}{xs:List α}(hx:ev T x=some (.mr s k))(hy:ev T y=some (.int kd z))(hh:ah H s=some (.store e tr M))(hM:M[k]?=some xs)(ht:sle P t=some m)(h0:0<=z)(h1:z<xs.length)(hm:Nat.blt 0 e.n=true)
  (hr:an P ops c os (bw T dst (.mc s k (z.toNat*m))) H sps T' H'):
  an P ops c (⟨dst,.indexAddr t x y,ty,pos,aft,none⟩::os) T H (y7 [(x,.mr s k),(y,.int kd z)] s (.store e tr M) (.mc s k (z.toNat*m))::sps) T' H':=
 .ask rfl (two hx hy) hh (fun r' hr'=>.inl (by simpa [D.mc]using hr')) (fun ε w S a F ha hp=>by
  have h2:=ha (x,.mr s k) (by simp);have h3:a.eval y=.int kd z:=ha (y,.int kd z) (by simp);obtain⟨G,hrow⟩:=oJ hM hp h2;obtain⟨A,cap,hb,hA⟩:=xo (by simpa using hm) hrow;obtain⟨_,vs,e1,e2⟩:=h2;have hA':=hA (by omega);subst hA';dsimp only at hb e2;refine⟨.pointer (some ⟨j6 (a.eval x),z.toNat*m,none⟩),?_,vs,_,e1,e2,rfl⟩;generalize j6 (a.eval x)=g at hb;simp only[execOp,hb,h3,Sem.run_bind,ji ht g 0 xs.length cap kd z h0 h1 w,Result.andThen_ok,Nat.zero_add]
  rfl) hr
theorem an.gJ{t:TypeId}{x:Operand}{k m n:Nat}{z:Int}{xs:List α}{u:α}(h:ev T x=some (.mc s k (z.toNat*m)))(hh:ah H s=some (.store e tr M))(hM:M[k]?=some xs)(hu:xs[z.toNat]?=some u)(ht:lay P t=some (some n))(hm:m=e.n)(hn:n=e.n)
  (hr:an P ops c os (bw T dst (.agg (e.c u))) H sps T' H'):an P ops c (⟨dst,.load t x,ty,pos,aft,none⟩::os) T H (y7 [(x,.mc s k (z.toNat*m))] s (.store e tr M) (.agg (e.c u))::sps) T' H':=
 .ask rfl (by simpa using h) hh (fun r' hr'=>by rw[show(D.agg (e.c u)).nm=bV (e.c u)from rfl,e.nm]at hr';cases hr') (fun ε w S a F ha hp=>by
  subst hm;subst hn;obtain⟨vs,v,e1,e2,e3⟩:=ha (x,.mc s k (z.toNat*e.n)) (by simp);obtain⟨vs',G,e4,_,e5,_⟩:=hp;rw[e1]at e4;injection e4 with e4;subst e4;have hrow:=e5 k xs v hM e2;dsimp only at e3;rcases hrow with⟨h,_,_⟩|⟨g,n',cap,cs,rest,hb,_,hg,h1,_,_,_,hc⟩
  ·have h0:=oh e hu;rw[h]at h0;have h1:(e.c u)=[]:=by rw[←h0];simp
   have h2:e.n=0:=by rw[←e.len u,h1];rfl
   refine⟨.agg #[],?_,[],rfl,(fun u hu=>by cases hu),by rw[h1];trivial⟩;simp only[execOp,e3,Instr.loadAt,Instr.sureAddr,Sem.run_bind,Sem.run_pure,Result.andThen_ok,loadVar,(fA ht w).1,(fA ht w).2,if_true,h2,loadCells,loadCellsFrom]
  ·have hlen:=aR hc;have hlt:=(List.getElem?_eq_some_iff.1 hu).1;have hle:=Nat.mul_le_mul_right e.n (Nat.succ_le_of_lt hlt);rw[bI]at hlen;rw[Nat.succ_mul]at hle;have hq:((cs.drop (z.toNat*e.n)).take e.n).length=e.n:=by simp;omega
   rw[hb]at e3;have hld:=run_loadCells_list (P:=P) w ⟨g,z.toNat*e.n,none⟩ ((cs.drop (z.toNat*e.n)).take e.n) (fun j v hv=>by
    have hj:j<e.n:=by have:=(List.getElem?_eq_some_iff.1 hv).1;omega
    rw[iM,iR hg];rw[List.getElem?_take_of_lt hj,List.getElem?_drop]at hv;rw[List.getElem?_append_left (List.getElem?_eq_some_iff.1 hv).1];exact hv)
   rw[hq]at hld;refine⟨.agg ((cs.drop (z.toNat*e.n)).take e.n).toArray,?_,(cs.drop (z.toNat*e.n)).take e.n,rfl,fun u hu=>h1 u (List.mem_of_mem_drop (List.mem_of_mem_take hu)),?_⟩
   ·simp only[execOp,e3,j6,Instr.loadAt,Instr.sureAddr,Sem.run_bind,Sem.run_pure,Result.andThen_ok,loadVar,(fA ht w).1,(fA ht w).2,if_true,hld]
   ·have:=e_ (n:=e.n) (ft (n:=z.toNat*e.n) hc)
    rwa [oh e hu]at this) hr
theorem Gd{te:TypeId}{w:World}{ε:Env}{S:cV}{b:Value}{F:cV}{xs:List α}{u:α}{j:Nat}{vs:List Value}(hp:(aY e te xs).p ε w S b F)(hj:j<xs.length)(hS:∀k,S k->¬F k)(hv1:∀v∈vs,v.oneCell'=true)(hvs:cp ε w S (e.c u) vs)(hn:0<e.n):
  ∃w',(storeCells (⟨j6 b,j*e.n,none⟩:Addr) vs).run P w=.ok () w'/\w'.heap.size=w.heap.size/\w'.os=w.os/\w'.tape=w.tape/\w'.output=w.output/\(∀k,¬F k->w'.heap[k]?=w.heap[k]?)/\(aY e te (xs.set j u)).p ε w' S b F:=by
 have hvl:vs.length=e.n:=by rw[aR hvs,e.len]
 have hle:=Nat.mul_le_mul_right e.n (Nat.succ_le_of_lt hj);rw[Nat.succ_mul]at hle;rcases hp with⟨e0,_,_⟩|⟨g,n',cap,cs,rest,hb,eF,hg,h1,hcap,hmax,hln,hcs⟩
 ·have:=bI e xs;rw[e0]at this;have h0:xs.length*e.n=0:=this.symm;omega
 ·have hlen:=aR hcs;rw[bI]at hlen;have hst:=run_storeCells_at (P:=P) g (j*e.n) te vs 0 (cs++rest).toArray w hg (by simp;omega) hv1;simp only[Nat.add_zero,hvl]at hst;have hsplit:(cs++rest).take (j*e.n)++vs++(cs++rest).drop (j*e.n+e.n)=(cs.take (j*e.n)++vs++cs.drop (j*e.n+e.n))++rest:=by
   rw[List.take_append_of_le_length (by omega),List.drop_append_of_le_length (by omega)];simp[List.append_assoc]
  rw[hsplit]at hst;have hfar:∀k,¬F k->(w.setRow g ((cs.take (j*e.n)++vs++cs.drop (j*e.n+e.n))++rest).toArray).heap[k]?=w.heap[k]?:=fun k hk=>gp _ _ _ _ (fun e'=>hk (by rw[eF,e'];rfl));refine⟨w.setRow g ((cs.take (j*e.n)++vs++cs.drop (j*e.n+e.n))++rest).toArray,(by rw[hb];exact hst),by simp[World.setRow],rfl,rfl,rfl,hfar,.inr ⟨g,n',cap,cs.take (j*e.n)++vs++cs.drop (j*e.n+e.n),rest,hb,eF,setRow_heap w g (cs++rest).toArray _ te _ hg,?_,?_,hmax,?_,?_⟩⟩
  ·intro u hu;simp only[List.mem_append]at hu;rcases hu with(hu|hu)|hu
   ·exact h1 u (List.mem_of_mem_take hu)
   ·exact hv1 u hu
   ·exact h1 u (List.mem_of_mem_drop hu)
  ·rw[←hcap];simp;omega
  ·rw[bI,List.length_set,←hln,bI]
  ·rw[←yW e hj u];exact b9 (fun k hk _=>⟨hk,hfar k (hS k hk)⟩) (cz (cz (e_ _ hcs) hvs) (ft _ hcs)) (fun _ _=>rfl)
theorem an.xr{t:TypeId}{x y:Operand}{k m n:Nat}{z:Int}{xs:List α}(u:α)(h:ev T x=some (.mc s k (z.toNat*m)))(hy:ev T y=some (.agg (e.c u)))(hh:ah H s=some (.store e tr M))(hM:M[k]?=some xs)(hz:z.toNat<xs.length)(ht:lay P t=some (some n))(hm:m=e.n)(hn:n=e.n)(hn0:Nat.blt 0 e.n=true)
  (hr:an P ops c os (bw T dst .any) ((s,.store e tr (M.set k (xs.set z.toNat u)))::H) sps T' H'):
  an P ops c (⟨dst,.store t x y,ty,pos,aft,none⟩::os) T H (ws x (.mc s k (z.toNat*m)) y (.agg (e.c u)) s (.store e tr M) (.store e tr (M.set k (xs.set z.toNat u)))::sps) T' H':=by
 subst hm;subst hn;refine .cons (sp:=ws x (.mc s k (z.toNat*e.n)) y (.agg (e.c u)) s (.store e tr M) (.store e tr (M.set k (xs.set z.toNat u)))) ?_ (bb.2 ⟨(ay h).1,(ay hy).1⟩) ⟨hh,trivial⟩ trivial hr;intro hdst T0 H0 hi du _ a w ⟨ε,φ,hs⟩ Q K hK;rw[if_pos (bm rfl _)];obtain⟨hi1,hi2⟩:=bb.1 hi;obtain⟨vs,v,e1,e2,hx⟩:=(hs.ev hi1 (ay h).2).1;obtain⟨⟨us,hus,hu1,hua⟩,_⟩:=hs.ev hi2 (ay hy).2;obtain⟨vs',G,e4,e5,e6,e7,e8⟩:=hs.h s _ du.1;rw[e1]at e4;injection e4 with e4;subst e4;have hk:k<M.length:=(List.getElem?_eq_some_iff.1 hM).1;have hSF:∀i,Am.al c H0 φ i->¬φ s i:=fun i hi=>hi.2 s (by simp[du.1]);obtain⟨w',r1,r2,r3,r4,r5,r6,r7⟩:=Gd (P:=P) (u:=u) (e6 k xs v hM e2) hz (fun i hi hg=>hSF i hi ((e8 i).2 ⟨k,hk,hg⟩)) hu1 hua (by simpa using hn0);have hrun:(execOp a.eval ⟨dst,.store t x y,ty,pos,aft,none⟩).run P w=.ok .skip w':=by
  have hsize:(a.eval y).cells.size=e.n:=by rw[hus];simp only[Value.cells];rw[List.size_toArray,aR hua,e.len]
  have hcl:(a.eval y).cells.toList=us:=by rw[hus];simp[Value.cells]
  simp only[execOp,Instr.storeAt,hx,Instr.sureAddr,Sem.run_bind,Sem.run_pure,Result.andThen_ok,storeVar,(fA ht w).2,hsize,ne_eq,not_true_eq_false,if_false,hcl,r1]
 simp only[Oper.wp,hrun,Oper.upon];have hS:=hs.uE (w':=w') (y:=.store e tr (M.set k (xs.set z.toNat u))) du.1 r2 r3 r4 r5 (fun i hi=>r6 i (fun hg=>hi ((e8 i).2 ⟨k,hk,hg⟩)))
  ⟨vs,G,e1,by rw[e5,List.length_set],(fun k' xs' v' hx' hv'=>by
   by_cases hkk:k=k'
   ·subst hkk;rw[List.getElem?_set_self hk]at hx';injection hx' with hx';subst hx';rw[e2]at hv';injection hv' with hv';subst hv';exact r7
   ·rw[List.getElem?_set_ne hkk]at hx';have hk':=(List.getElem?_eq_some_iff.1 hx').1;exact(aY e tr xs').mono (e6 k' xs' v' hx' hv') (fun _ _=>rfl) (fun i hi _=>⟨hi,r6 i (fun hg=>hSF i hi ((e8 i).2 ⟨k,hk,hg⟩))⟩) (fun i hi=>r6 i (fun hg=>e7 k k' hk hk' hkk i hg hi))),by rw[List.length_set];exact e7,by rw[List.length_set];exact e8⟩ (fun r' hr'=>by cases hr')
 exact hK _ _ ⟨ε,φ,hS.put (d:=.any) (dq hdst) trivial (fun _ h=>by cases h)⟩
end
end Go.Am
namespace Go.Am
open Go.RowKit
def Hp.eP(m:Nat)(ty:TypeId)(l:List D):Hp where
 p:=lU m ty l
 nm:=bV l
 mono:=fun h he hS hF=>oH h he hS hF
def cE(vs:List Value):List D:=vs.map D.lit
theorem dU(vs:List Value):bV (cE vs)=[]:=by
 induction vs with
 |nil=>rfl
 |cons v vs ih=>exact ih
theorem ki{ε:Env}{w:World}{S:cV}:∀{vs cs:List Value},cp ε w S (cE vs) cs↔cs=vs
 |[],[]=>by simp[cE,cp]
 |[],_::_=>by simp[cE,cp]
 |_::_,[]=>by simp[cE,cp]
 |v::vs,u::us=>by
  have:=@ki ε w S vs us;simp only[cE,List.map_cons,cp]at this|-;rw[this];simp[D.lit]
theorem tp{s n k:Nat}(h:k<n):(cO s n)[k]?=some (D.mr s k):=by simp[cO,h]
theorem l7{ε:Env}{w:World}{S:cV}{s:Nat}{vs:Array Value}(h:ε s=.agg vs){cs:List Value}(hc:cp ε w S (cO s vs.size) cs):cs=vs.toList:=by
 have hl:=aR hc;rw[bX]at hl;apply List.ext_getElem
 ·simp[hl]
 ·intro k h1 h2;obtain⟨v,hv,hp⟩:=gK hc (tp (s:=s) (show k<vs.size by omega));obtain⟨_,vs',e1,e2⟩:=hp;rw[h]at e1;injection e1 with e1;subst e1;rw[List.getElem?_eq_getElem h1]at hv;injection hv with hv;rw[hv];have:=Array.getElem?_eq_some_iff.1 e2;obtain⟨h3,h4⟩:=this;simp[←h4]
theorem p7{ε:Env}{w:World}{S:cV}{s:Nat}{vs:Array Value}(h:ε s=.agg vs)(h1:∀v∈vs.toList,v.oneCell'=true):cp ε w S (cO s vs.size) vs.toList:=by
 have:∀(n:Nat) (us:List Value),(∀(k:Nat) (v:Value),us[k]?=some v->v.oneCell'=true/\vs[k]?=some v)->us.length=n->cp ε w S (cO s n) us:=by
  intro n
  induction n with
  |zero=>intro us _ hl;have:=List.eq_nil_of_length_eq_zero hl;subst this;exact trivial
  |succ n ih=>
   intro us hk hl;have e:us=us.take n++[us[n]'(by omega)]:=by
    conv=>lhs;rw[←List.take_append_drop n us]
    rw[List.drop_eq_getElem_cons (by omega),List.drop_eq_nil_of_le (by omega)]
   have e2:cO s (n+1)=cO s n++[D.mr s n]:=by simp[cO,List.range_succ]
   rw[e,e2];refine cz (ih _ (fun k v hv=>?_) (by simp;omega)) ⟨?_,trivial⟩
   ·have hlt:=(List.getElem?_eq_some_iff.1 hv).1;rw[List.length_take]at hlt;rw[List.getElem?_take_of_lt (by omega)]at hv;exact hk k v hv
   ·have:=hk n _ (List.getElem?_eq_getElem (by omega));exact⟨this.1,vs,h,this.2⟩
 refine this _ _ (fun k v hv=>⟨h1 v (List.mem_of_getElem? hv),by simpa using hv⟩) (by simp)
theorem ug{ε:Env}{w:World}{S:cV}{l m:List D}{cs:List Value}(h:cp ε w S (l++m) cs):∃us vs,cs=us++vs/\cp ε w S l us/\cp ε w S m vs:=by
 refine⟨cs.take l.length,cs.drop l.length,(List.take_append_drop _ _).symm,?_,?_⟩
 ·have:=e_ l.length h
  rwa [List.take_left]at this
 ·have:=ft l.length h
  rwa [List.drop_left]at this
section
variable {P:Program} {os:List Oper} {c:Ctx} {T T':List (Nat×D)} {H H':List (Nat×Hp)} {sps:List Spec}
variable {ops:Array Oper} {dst:Option Nat} {ty:TypeId} {pos:String} {aft:Array Edge}
variable {α:Type} {e:ak α} {te tr:TypeId} {r s:Nat} {M X:List (List α)}
theorem uI{ε:Env}{w:World}{S:cV}{b:Value}{F:cV}{vs:Array Value}(hv:ε s=.agg vs)(h:(Hp.cb e te s X).p ε w S b F):lU 1 te (cE vs.toList++X.map (ai e)) ε w S b F:=by
 obtain⟨vs',e1,h⟩:=h;rw[hv]at e1;injection e1 with e1;subst e1;rcases h with⟨h0,h1,h2⟩|⟨g,n,cap,cs,rest,h1,h2,h3,h4,h5,h8,h6,h7⟩
 ·rcases List.append_eq_nil_iff.1 h0 with⟨h3,h4⟩;have:vs.size=0:=by have:=congrArg List.length h3;rwa [bX]at this
  refine .inl ⟨?_,h1,h2⟩;have:vs.toList=[]:=List.eq_nil_of_length_eq_zero (by simpa using this);rw[this,h4];rfl
 ·obtain⟨us,xs,rfl,hu,hx⟩:=ug h7;have:=l7 hv hu;subst this;refine .inr ⟨g,n,cap,_,rest,h1,h2,h3,h4,h5,h8,?_,cz (ki.2 rfl) hx⟩;rw[←h6];simp[cE,bX]
theorem y5{ε:Env}{w:World}{S:cV}{b:Value}{F:cV}{vs:Array Value}(hv:ε s=.agg vs)(h:lU 1 te (cE vs.toList++X.map (ai e)) ε w S b F):(Hp.cb e te s X).p ε w S b F:=by
 refine⟨vs,hv,?_⟩;rcases h with⟨h0,h1,h2⟩|⟨g,n,cap,cs,rest,h1,h2,h3,h4,h5,h8,h6,h7⟩
 ·rcases List.append_eq_nil_iff.1 h0 with⟨h3,h4⟩;have:vs.size=0:=by have:=congrArg List.length h3;simpa [cE]using this
  refine .inl ⟨?_,h1,h2⟩;rw[this,h4];rfl
 ·obtain⟨us,xs,rfl,hu,hx⟩:=ug h7;have:=ki.1 hu;subst this;refine .inr ⟨g,n,cap,_,rest,h1,h2,h3,h4,h5,h8,?_,cz (p7 hv (fun v hv=>h4 v (by simp[hv]))) hx⟩;rw[←h6];simp[cE,bX]
theorem BA{K:List Nat}{q:Nat}:ah (K.map fun k=>(k,Hp.dead)) q=if q∈K then some .dead else none:=by
 induction K with
 |nil=>rfl
 |cons k K ih=>
  simp only[List.map_cons,ah]
  cases hb:Nat.beq q k with
  |true=>rw[Nat.eq_of_beq_eq_true hb];simp
  |false=>
   have hne:q≠k:=fun e=>by subst e;simp at hb
   dsimp only;rw[ih];simp[hne]
theorem cP.wQ{T0:Nat->Option D}{H0:Nat->Option Hp}{a:Act}{w:World}{ε:Env}{φ:Nat->cV}(hs:cP c T0 H0 a w ε φ)(K:List Nat)(hK:∀q∈K,H0 q≠none){s2:Nat}(hs2:H0 s2=none)(hr:H0 r≠none)(hrK:r∉K)
  (vs:Array Value)(G:Nat->cV)(hsz:vs.size=M.length)
  (hrows:∀k xs v,M[k]?=some xs->vs[k]?=some v->(aY e tr xs).p ε w (Am.al c H0 φ) v (G k))
  (hdj:∀k k',k<M.length->k'<M.length->k≠k'->∀i,G k i->¬G k' i)
  (hG:∀k,k<M.length->∀i,G k i->∃q∈K,φ q i)
  (dC:lU 1 te (cE vs.toList++X.map (ai e)) ε w (Am.al c H0 φ) (ε r) (φ r)):
  Sat c T0 (bq H0 ((r,.cb e te s2 X)::(s2,.store e tr M)::K.map fun k=>(k,Hp.dead))) a w:=by
 have hr2:r≠s2:=fun e=>hr (e▸hs2);have hK2:∀q∈K,q≠s2:=fun q hq e=>hK q hq (e▸hs2);have hL:∀q,ah ((r,Hp.cb e te s2 X)::(s2,Hp.store e tr M)::K.map fun k=>(k,Hp.dead)) q=if q=r then some (Hp.cb e te s2 X)else if q=s2 then some (Hp.store e tr M)else if q∈K then some .dead else none:=by
  intro q;simp only[ah]
  cases h1:Nat.beq q r with
  |true=>rw[if_pos (Nat.eq_of_beq_eq_true h1)]
  |false=>
   rw[if_neg (fun e=>by subst e;simp at h1)]
   cases h2:Nat.beq q s2 with
   |true=>rw[if_pos (Nat.eq_of_beq_eq_true h2)]
   |false=>rw[if_neg (fun e=>by subst e;simp at h2)];exact BA
 let φ':Nat->cV:=fun q=>if q=s2 then(fun i=>∃k,k<M.length/\G k i)else if q∈K then noBlocks else φ q
 have f1:φ' s2=fun i=>∃k,k<M.length/\G k i:=by simp[φ']
 have f2:∀q∈K,φ' q=noBlocks:=fun q hq=>by simp[φ',hK2 q hq,hq]
 have f3:∀q,q≠s2->q∉K->φ' q=φ q:=fun q h1 h2=>by simp[φ',h1,h2]
 refine⟨dF ε s2 (.agg vs),φ',(hs.tc (fun q hq=>aK _ _ (show q≠s2 from fun e=>hq (e▸hs2))) (fun q hq=>?_) (fun q k hq hk=>?_) (fun q q' hq hq' hne k hk=>?_) (fun q x hq=>?_) (fun q x hq q' hq'=>?_)).1⟩
 ·rw[hL]at hq;refine f3 q (fun e=>?_) (fun h=>?_)
  ·subst e;simp[Ne.symm hr2]at hq
  ·by_cases h1:q=r
   ·subst h1;exact hrK h
   ·simp[h1,hK2 q h,h]at hq
 ·by_cases h2:q=s2
  ·subst h2;rw[f1]at hk;obtain⟨j,hj,hg⟩:=hk;obtain⟨q',h3,h4⟩:=hG j hj k hg;refine⟨q',hK q' h3,?_,h4⟩;rw[hL,if_neg (show q'≠r from fun e=>hrK (e▸h3)),if_neg (hK2 q' h3),if_pos h3];simp
  ·by_cases h3:q∈K
   ·rw[f2 q h3]at hk;exact hk.elim
   ·rw[f3 q h2 h3]at hk;have:q=r:=by
     rw[hL]at hq;by_cases h1:q=r
     ·exact h1
     ·simp[h1,h2,h3]at hq
    subst this;exact⟨q,hr,by rw[hL,if_pos rfl];simp,hk⟩
 ·have cls:∀q,ah ((r,Hp.cb e te s2 X)::(s2,Hp.store e tr M)::K.map fun k=>(k,Hp.dead)) q≠none->q=r\/q=s2\/q∈K:=by
   intro q h;rw[hL]at h;by_cases h1:q=r
   ·exact .inl h1
   ·by_cases h2:q=s2
    ·exact .inr (.inl h2)
    ·by_cases h3:q∈K
     ·exact .inr (.inr h3)
     ·simp[h1,h2,h3]at h
  have notG:∀j,j<M.length->∀i,G j i->¬φ r i:=fun j hj i hg hf=>by
   obtain⟨q',h3,h4⟩:=hG j hj i hg;exact hs.dj q' r (hK q' h3) hr (fun e=>hrK (e▸h3)) i h4 hf
  rcases cls q hq with rfl|rfl|h
  ·rw[f3 q hr2 hrK]at hk;rcases cls q' hq' with rfl|rfl|h'
   ·exact absurd rfl hne
   ·rw[f1];rintro⟨j,hj,hg⟩;exact notG j hj k hg hk
   ·rw[f2 q' h'];exact fun h=>h
  ·rw[f1]at hk;obtain⟨j,hj,hg⟩:=hk;rcases cls q' hq' with rfl|rfl|h'
   ·rw[f3 q' hr2 hrK];exact notG j hj k hg
   ·exact absurd rfl hne
   ·rw[f2 q' h'];exact fun h=>h
  ·rw[f2 q h]at hk;exact hk.elim
 ·have hS:∀k,Am.al c H0 φ k->Am.al c (bq H0 ((r,Hp.cb e te s2 X)::(s2,Hp.store e tr M)::K.map fun k=>(k,Hp.dead))) φ' k:=by
   intro k hk;refine⟨hk.1,fun q' hq' hf=>?_⟩;by_cases h2:q'=s2
   ·subst h2;rw[f1]at hf;obtain⟨j,hj,hg⟩:=hf;obtain⟨q2,h3,h4⟩:=hG j hj k hg;exact hk.2 q2 (hK q2 h3) h4
   ·by_cases h3:q'∈K
    ·rw[f2 q' h3]at hf;exact hf
    ·rw[f3 q' h2 h3]at hf;refine hk.2 q' (fun h0=>hq' ?_) hf;have h1:q'≠r:=fun e=>hr (e▸h0);simp only[bq];rw[hL,if_neg h1,if_neg h2,if_neg h3];exact h0
  have hS':∀k,Am.al c H0 φ k->k<w.heap.size->Am.al c (bq H0 ((r,Hp.cb e te s2 X)::(s2,Hp.store e tr M)::K.map fun k=>(k,Hp.dead))) φ' k/\w.heap[k]?=w.heap[k]?:=fun k hk _=>⟨hS k hk,rfl⟩;rw[hL]at hq;by_cases h1:q=r
  ·subst h1;rw[if_pos rfl]at hq;injection hq with hq;subst hq;rw[aK _ _ hr2,f3 q hr2 hrK];refine y5 (au _ _ _) (oH dC (fun q' hq'=>?_) hS' (fun _ _=>rfl));rw[d_ (dU _) (m4 e X)]at hq';cases hq'
  ·rw[if_neg h1]at hq;by_cases h2:q=s2
   ·subst h2;rw[if_pos rfl]at hq;injection hq with hq;subst hq;rw[f1,au];exact⟨vs,G,rfl,hsz,fun k xs v hx hv=>(aY e tr xs).mono (hrows k xs v hx hv) (fun q' hq'=>by cases hq') hS' (fun _ _=>rfl),hdj,fun i=>Iff.rfl⟩
   ·rw[if_neg h2]at hq;by_cases h3:q∈K
    ·rw[if_pos h3]at hq;injection hq with hq;subst hq;rw[f2 q h3];rfl
    ·rw[if_neg h3]at hq;cases hq
 ·rw[hL]at hq;by_cases h1:q=r
  ·rw[if_pos h1]at hq;injection hq with hq;subst hq;have:q'=s2:=by simpa [Hp.cb]using hq'
   subst this
   right
   rw[hL,if_neg (Ne.symm hr2),if_pos rfl];simp
  ·rw[if_neg h1]at hq;by_cases h2:q=s2
   ·rw[if_pos h2]at hq;injection hq with hq;subst hq;cases hq'
   ·rw[if_neg h2]at hq;by_cases h3:q∈K
    ·rw[if_pos h3]at hq;injection hq with hq;subst hq;cases hq'
    ·rw[if_neg h3]at hq;cases hq
theorem an.KD{t te:TypeId}{r:Nat}{parts:List (Nat×Operand)}{m bt n:Nat}{z:List D}(l:List D)(q:List (Nat×Operand×D×List D))(hm:nF P t=some (te,m,bt,z))(hs:Nat.ble (n*m) 16777216=true)(hn0:Nat.blt 0 n=true)(hq:jH (Ds m 0 n) (n*m) parts q)(he:∀x∈qs q,ev T x.1=some x.2)
  (hle:over (List.replicate n z).flatten q=l)(hln:l.length=n*m)(hnq:∀r'∈bV l,∃x∈qs q,r'∈x.2.nm)(hf:ah H r=none)
  (hr:an P ops c os ((r,.own r)::T) ((r,Hp.eP m te l)::H) sps T' H'):
  an P ops c (⟨some r,.buildSlice t n parts.toArray,ty,pos,aft,none⟩::os) T H (rws (qs q) r (Hp.eP m te l)::sps) T' H':=by
 refine .cons (sp:=rws (qs q) r (Hp.eP m te l)) ?_ (fg he) trivial ⟨hf,trivial⟩ hr;intro hd T0 H0 hi _ hnew a w ⟨ε,φ,hs'⟩ Q K hK;rw[if_pos (bm rfl _)];have hx:∀x∈qs q,ga T0 (eQ x.1 x.2):=dk hi;obtain⟨i,v,hu,hinf,hzv,hsz,_,ez,hv1,hvs,hm0⟩:=iB hm;obtain⟨hpl,hg⟩:=kf hq;have hn1:0<n:=by simpa using hn0
 have hcs:=fB hvs hm0 n;have hz0:cp ε w (al c H0 φ) (List.replicate n z).flatten (madeCells v.cells (n*m)).toList:=by rw[hcs,ez];exact gg (ju _ _ _ _) _
 have hzl:(List.replicate n z).flatten.length=n*m:=by
  have h1:v.cells.toList.length=m:=by rw[Array.length_toList,hvs]
  rw[iz,ez,List.length_map,h1]
 obtain⟨cs',hfl,hA,hO⟩:=my (a:=a) (place:=fun i=>some (i*m,m)) hpl (fun k u x hu' hx=>by
  have:=hg k u x hu' hx;have h2:=sL m 0 n u.1 _ this.2.1;simp only[Prod.mk.injEq,Nat.zero_add]at h2;exact⟨this.1,by rw[h2.1,h2.2],this.2.2.1,by rw[hzl];exact this.2.2.2⟩) hz0 (by
   intro u hu';rw[hcs]at hu';simp only[List.mem_flatten,List.mem_replicate]at hu';obtain⟨l',⟨_,rfl⟩,hu'⟩:=hu';exact hv1 u hu') (fun x hxm=>(hs'.ev (hx (x.2.1,x.2.2.1) (List.mem_map.2 ⟨x,hxm,rfl⟩)) (ay (he (x.2.1,x.2.2.1) (List.mem_map.2 ⟨x,hxm,rfl⟩))).2).1)
 have live:∀r'∈bV l,H0 r'≠none:=fun r' hr'=>by
  obtain⟨x,hxm,hr2⟩:=hnq r' hr';exact(hs'.ev (hx x hxm) (ay (he x hxm)).2).2 r' hr2
 have hlim:¬(n*m>2^24):=by have:=Nat.le_of_ble_eq_true hs;omega
 have hf':Instr.fill (fun i=>some (i*m,m)) (madeCells v.cells (n*m)) (parts.map fun x=>(x.1,a.eval x.2))=some cs':=hfl;have h0:¬(n*m=0):=by
  intro h;rcases Nat.mul_eq_zero.1 h with h|h<;>omega
 have hrun:(execOp a.eval ⟨some r,.buildSlice t n parts.toArray,ty,pos,aft,none⟩).run P w=.ok (.value (.slice (some ⟨w.heap.size,0,none⟩) n n)) (w.alloc (.cells cs' te)):=by
  simp only[execOp,Instr.buildSlice,run_underlying hu,Sem.run_bind,Result.andThen_ok,sizeOf,typeInfo,run_program,hinf,Sem.run_pure,hsz];simp[hlim,h0,zeroValue,typeInfo,hinf,hzv,newRow];rw[show(Array.map (fun x=>v.cells[x%v.cells.size]!) (Array.range (n*m)))=madeCells v.cells (n*m)from rfl,hf'];simp
 simp only[Oper.wp,hrun,Oper.upon];rw[hle]at hA;have hlen:=aR hA;have hmx:n<=maxLen:=by
  have h1:=Nat.le_of_ble_eq_true hs;have h2:n*1<=n*m:=Nat.mul_le_mul_left _ hm0;unfold maxLen;omega
 have hA':cp (dF ε r (.slice (some ⟨w.heap.size,0,none⟩) n n)) (w.alloc (.cells cs' te)) (Am.al c (bq H0 [(r,Hp.eP m te l)]) (dF φ r (only w.heap.size))) (l) cs'.toList:=by
  refine b9 (fun k hk hlt=>⟨⟨hk.1,fun r' hr'=>?_⟩,Below.heap_alloc _ _ _ hlt⟩) hA (fun r' hr'=>aK _ _ (fun e'=>live r' hr' (e'▸hnew.1)));rw[bJ]at hr';by_cases e':r'=r
  ·subst e';rw[au];intro hf';simp only[only]at hf';omega
  ·rw[aK _ _ e']at hr'|-;exact hk.2 r' hr'
 have hN:=hs'.lF (x:=Hp.eP m te l) (b:=.slice (some ⟨w.heap.size,0,none⟩) n n) (F:=only w.heap.size) (w':=w.alloc (.cells cs' te)) (r:=r) hnew.1 ((Below.refl _ _).alloc (Nat.le_refl _) _)
  (fun k hk=>by simp only[only]at hk;subst hk;simp)
  (.inr ⟨w.heap.size,n,n,cs'.toList,[],rfl,rfl,by rw[iY,List.append_nil],hO,by rw[List.append_nil,hlen,hln],hmx,hln,hA'⟩) live
 exact hK _ _ ⟨_,_,hN.put (dst:=some r) (d:=.own r) (dq hd) ⟨(au _ _ _).symm,rfl⟩ (by simp[D.own,bJ,au])⟩
end
end Go.Am
namespace Go.Am
open Go.RowKit
theorem oF{H:Nat->Option Hp}{r:Nat}{y:Hp}{L:List (Nat×Hp)}(h:ah L r≠none):bq (bq H [(r,y)]) L=bq H L:=by
 funext q
 simp only[bq]
 cases hq:ah L q with
 |some _=>rfl
 |none=>
  simp only[ah]
  cases hb:Nat.beq q r with
  |true=>rw[Nat.eq_of_beq_eq_true hb]at hq;exact absurd hq h
  |false=>rfl
theorem nk{α:Type}(e:ak α):∀X:List (List α),flat (ak.slice e) X=X.map (ai e)
 |[]=>rfl
 |x::X=>by
  have ih:=nk e X;show(x::X).flatMap (fun l=>[ai e l])=_;rw[List.flatMap_cons,List.map_cons];show [ai e x]++flat (ak.slice e) X=_;rw[ih];rfl
theorem ni(vs:List Value):(cE vs).length=vs.length:=by simp[cE]
section
variable {P:Program} {os:List Oper} {c:Ctx} {T T':List (Nat×D)} {H H':List (Nat×Hp)} {sps:List Spec}
variable {ops:Array Oper} {dst:Option Nat} {ty:TypeId} {pos:String} {aft:Array Edge}
variable {α:Type} {e:ak α} {te tr:TypeId} {r s:Nat} {M X:List (List α)}
theorem Ok.Fe{α:Type}{x:Code}{Q:Exit->Act->World->Prop}(e:ak α)(t r s:Nat)(te tr:TypeId)(ht:aW T t=some .nil)(hf:ah H r=none)(hf2:ah H s=none)(hne:Nat.beq r s=false)
  (h:Ok P c ((t,.own r)::T) ((r,.cb e te s [])::(s,.store e tr [])::H) x Q):Ok P c T H x Q:=by
 intro a w ⟨ε,φ,hs⟩;have hne':r≠s:=fun e=>by subst e;simp at hne
 have hN:=hs.lF (x:=.store e tr []) (b:=.agg #[]) (F:=noBlocks) (r:=s) hf2 (Below.refl _ _) (fun k hk=>hk.elim)
  ⟨#[],fun _=>noBlocks,rfl,rfl,(fun k xs v hx=>by simp at hx),(fun k k' hk=>by simp at hk),fun i=>⟨fun h=>h.elim,fun⟨k,hk,_⟩=>by simp at hk⟩⟩ (fun r' hr'=>by cases hr')
 have hr0:bq (ah H) [(s,Hp.store e tr [])] r=none:=by rw[bJ,aK _ _ hne'];exact hf
 have hN2:=hN.lF (x:=.cb e te s []) (b:=.slice none 0 0) (F:=noBlocks) (r:=r) hr0 (Below.refl _ _) (fun k hk=>hk.elim)
  ⟨#[],by rw[aK _ _ (Ne.symm hne'),au],.inl ⟨rfl,rfl,rfl⟩⟩ (fun r' hr'=>by
   have:r'=s:=by simpa [Hp.cb]using hr'
   subst this;rw[bJ,au];simp)
 have hv:a.tmps.getD t undef=.slice none 0 0:=hs.t t _ ht;refine h a w ⟨_,_,yl (Sat_ext' hN2 (fun r'=>?_)) ⟨by rw[hv,au],by rw[hv];rfl⟩ (fun r' hr'=>?_)⟩
 ·rw[bC,bC];rfl
 ·have:r'=r:=by simpa [D.own]using hr'
  subst this;simp[ah]
where
 Sat_ext' {c:Ctx} {T:Nat->Option D} {H H':Nat->Option Hp} {a:Act} {w:World} {ε:Env} {φ:Nat->cV} (h:cP c T H a w ε φ) (hH:∀r,H r=H' r):cP c T H' a w ε φ:=by
  have:H=H':=funext hH;subst this;exact h
theorem Ok.Kg{α:Type}{x:Code}{Q:Exit->Act->World->Prop}{e:ak α}{te:TypeId}{X:List (List α)}(r s:Nat)(tr:TypeId)(hh:ah H r=some (aY (ak.slice e) te X))(hf:ah H s=none)
  (h:Ok P c T ((r,.cb e te s X)::(s,.store e tr [])::H) x Q):Ok P c T H x Q:=by
 intro a w ⟨ε,φ,hs⟩;have hne:r≠s:=fun e=>by subst e;rw[hh]at hf;cases hf
 have hN:=hs.lF (x:=.store e tr []) (b:=.agg #[]) (F:=noBlocks) (r:=s) hf (Below.refl _ _) (fun k hk=>hk.elim)
  ⟨#[],fun _=>noBlocks,rfl,rfl,(fun k xs v hx=>by simp at hx),(fun k k' hk=>by simp at hk),fun i=>⟨fun h=>h.elim,fun⟨k,hk,_⟩=>by simp at hk⟩⟩ (fun r' hr'=>by cases hr')
 have hr0:bq (ah H) [(s,Hp.store e tr [])] r=some (aY (ak.slice e) te X):=by rw[bJ,aK _ _ hne];exact hh
 have hrow:=hN.h r _ hr0;have hfl:flat (ak.slice e) X=X.map (ai e):=nk e X;have hT:=hN.tell (y:=.cb e te s X) hr0 ⟨#[],au _ _ _,by
  have h2:lU 1 te (flat (ak.slice e) X) _ _ _ _ _:=hrow;rw[hfl]at h2;exact h2⟩ (fun r' hr'=>by
   have:r'=s:=by simpa [Hp.cb]using hr'
   subst this;rw[bJ,au];simp)
 refine h a w (Sat.ext (T:=aW T) (H:=bq (bq (ah H) [(s,.store e tr [])]) [(r,.cb e te s X)]) ⟨_,_,hT⟩ (fun _=>rfl) (fun r'=>?_));rw[bC,bC];rfl
theorem mK{e:ak α}{te:TypeId}{xs:List α}{ε:Env}{w:World}{S S':cV}{b:Value}{F:cV}(h:(aY e te xs).p ε w S b F)(hm:0<e.n)(hS:∀k,S k->S' k)(hF:∀k,F k->S' k):(ai e xs).p ε w S' b:=by
 rcases h with⟨e0,eb,_⟩|⟨g,n',cap,cs,rest,eb,eF',hg,h1',hcap,_,hln,hcs⟩
 ·have h0:=bI e xs;rw[e0]at h0;have:xs.length=0:=by rcases Nat.mul_eq_zero.1 h0.symm with h|h<;>omega
  exact⟨none,0,by rw[eb,this],by omega,bI e xs,.inl this⟩
 ·have hn':n'=xs.length:=Nat.eq_of_mul_eq_mul_right hm (hln.symm.trans (bI e xs));subst hn';refine⟨some ⟨g,0,none⟩,cap,eb,?_,bI e xs,.inr ⟨g,0,rfl,hF g (by rw[eF'];rfl),(cs++rest).toArray,te,(0,0),cs,hg,fun j u hj=>?_,h1',?_⟩⟩
  ·have hle:xs.length*e.n<=cap*e.n:=by rw[←hcap,List.length_append,aR hcs,bI];omega
   exact Nat.le_of_mul_le_mul_right hle hm
  ·rw[Nat.zero_add];simp only[List.getElem?_toArray];rw[List.getElem?_append_left (List.getElem?_eq_some_iff.1 hj).1];exact hj
  ·exact b9 (fun k hk _=>⟨hS k hk,rfl⟩) hcs (by rw[dK];intro r' hr';cases hr')
theorem Ok.yL{x:Code}{Q:Exit->Act->World->Prop}(t:Nat)(ht:aW T t=some (.own r))(hh:ah H r=some (.cb e te s []))(hk:ah H s=some (.store e tr M))(hm:Nat.blt 0 e.n=true)(hne:Nat.beq r s=false)
  (h:Ok P c ((t,ai (ak.slice e) M)::T) ((r,.dead)::(s,.dead)::H) x Q):Ok P c T H x Q:=by
 intro a w ⟨ε,φ,hs⟩;have hm0:0<e.n:=by simpa using hm
 have hne':r≠s:=fun e=>by subst e;simp at hne
 have hv:a.tmps.getD t undef=ε r:=(hs.t t _ ht).1;have dC:=hs.h r _ hh;have hsto:=hs.h s _ hk;have hrow:=l_ dC hsto
 let φ':Nat->cV:=dF (dF φ r noBlocks) s noBlocks
 have f1:φ' r=noBlocks:=by show dF (dF φ r noBlocks) s noBlocks r=_;rw[aK _ _ hne',au]
 have f2:φ' s=noBlocks:=au _ _ _;have f3:∀q,q≠r->q≠s->φ' q=φ q:=fun q h1 h2=>by show dF (dF φ r noBlocks) s noBlocks q=_;rw[aK _ _ h2,aK _ _ h1]
 have hL:∀q,ah [(r,Hp.dead),(s,Hp.dead)] q=if q=r then some .dead else if q=s then some .dead else none:=by
  intro q;simp only[ah]
  cases h1:Nat.beq q r with
  |true=>rw[if_pos (Nat.eq_of_beq_eq_true h1)]
  |false=>
   rw[if_neg (fun e=>by subst e;simp at h1)]
   cases h2:Nat.beq q s with
   |true=>rw[if_pos (Nat.eq_of_beq_eq_true h2)]
   |false=>rw[if_neg (fun e=>by subst e;simp at h2)]
 have cls:∀q,ah [(r,Hp.dead),(s,Hp.dead)] q≠none->φ' q=noBlocks:=by
  intro q h;rw[hL]at h;by_cases h1:q=r
  ·rw[h1,f1]
  ·by_cases h2:q=s
   ·rw[h2,f2]
   ·simp[h1,h2]at h
 have hR:=hs.tc (L:=[(r,.dead),(s,.dead)]) (ε':=ε) (φ':=φ') (fun _ _=>rfl) (fun q hq=>by
   rw[hL]at hq;by_cases h1:q=r
   ·simp[h1]at hq
   ·by_cases h2:q=s
    ·simp[h1,h2]at hq
    ·exact f3 q h1 h2) (fun q k hq hk=>by rw[cls q hq]at hk;exact hk.elim) (fun q q' hq hq' _ k hk=>by rw[cls q hq]at hk;exact hk.elim)
   (fun q y hq=>by
    have:φ' q=noBlocks:=cls q (by rw[hq];simp);rw[hL]at hq;by_cases h1:q=r
    ·rw[if_pos h1]at hq;injection hq with hq;subst hq;exact this
    ·rw[if_neg h1]at hq;by_cases h2:q=s
     ·rw[if_pos h2]at hq;injection hq with hq;subst hq;exact this
     ·rw[if_neg h2]at hq;cases hq)
   (fun q y hq q' hq'=>by
    rw[hL]at hq;by_cases h1:q=r
    ·rw[if_pos h1]at hq;injection hq with hq;subst hq;cases hq'
    ·rw[if_neg h1]at hq;by_cases h2:q=s
     ·rw[if_pos h2]at hq;injection hq with hq;subst hq;cases hq'
     ·rw[if_neg h2]at hq;cases hq)
 have hSr:∀q,(q=r\/q=s)->∀k,φ q k->Am.al c (bq (ah H) [(r,.dead),(s,.dead)]) φ' k:=by
  intro q hq k hk;have hq0:ah H q≠none:=by rcases hq with rfl|rfl<;>simp[hh,hk]
  have hlo:=hs.lo q hq0 k hk;refine⟨hlo.1.elim (fun h=>.inr (.inl h)) (fun h=>.inr (.inr h)),fun q' hq' hf=>?_⟩;by_cases h1:q'=r
  ·rw[h1,f1]at hf;exact hf
  ·by_cases h2:q'=s
   ·rw[h2,f2]at hf;exact hf
   ·rw[f3 q' h1 h2]at hf;have h0:ah H q'≠none:=by
     intro h0;apply hq';simp only[bq];rw[hL,if_neg h1,if_neg h2];exact h0
    exact hs.dj q q' hq0 h0 (by rcases hq with rfl|rfl<;>exact Ne.symm (by assumption)) k hk hf
 refine h a w ⟨ε,φ',uk (by
  have:=hR.1;rw[bC]at this;exact this) ?_ rfl⟩
 have hreg:∀k,Am.al c (ah H) φ k->Am.al c (ah ([(r,Hp.dead),(s,Hp.dead)]++H)) φ' k:=by rw[←bC];exact hR.2
 rw[bC]at hSr;obtain⟨vs,G,e1,e2,e3,e4,e5⟩:=hsto;rw[List.map_nil,List.append_nil]at hrow;have hfl:flat (ak.slice e) M=M.map (ai e):=nk e M;have hrow2:lU 1 te (M.map (ai e)) ε w (Am.al c (ah ([(r,Hp.dead),(s,Hp.dead)]++H)) φ') (ε r) (φ r):=by
  rcases hrow with⟨h0,h1,h2⟩|⟨g,n,cap,cs,rest,h1,h2,h3,h4,h5,h8,h6,h7⟩
  ·have:M.length=0:=by have:=congrArg List.length h0;rwa [bX]at this
   have:M=[]:=List.eq_nil_of_length_eq_zero this;exact .inl ⟨by rw[this];rfl,h1,h2⟩
  ·refine .inr ⟨g,n,cap,cs,rest,h1,h2,h3,h4,h5,h8,by rw[←h6];simp[bX],?_⟩;have hcl:=aR h7;rw[bX]at hcl;have key:∀(N:List (List α)) (us:List Value),us.length=N.length->(∀(k:Nat) (xs:List α) (v:Value),N[k]?=some xs->us[k]?=some v->(ai e xs).p ε w (Am.al c (ah ([(r,Hp.dead),(s,Hp.dead)]++H)) φ') v)->cp ε w (Am.al c (ah ([(r,Hp.dead),(s,Hp.dead)]++H)) φ') (N.map (ai e)) us:=by
    intro N
    induction N with
    |nil=>intro us hl _;have:=List.eq_nil_of_length_eq_zero hl;subst this;exact trivial
    |cons x N ih=>
     intro us hl hk'
     cases us with
     |nil=>simp at hl
     |cons u us=>
      exact⟨hk' 0 x u rfl rfl,ih us (by simpa using hl) (fun k xs v hx hv=>hk' (k+1) xs v (by simpa using hx) (by simpa using hv))⟩
   refine key M cs hcl (fun k xs v hx hv=>?_);have hkl:k<M.length:=(List.getElem?_eq_some_iff.1 hx).1;have hv2:vs[k]?=some v:=by
    have:=l7 (s:=s) (S:=Am.al c (ah H) φ) (w:=w) e1 (by rw[e2];exact h7);rw[this]at hv;simpa using hv
   exact mK (e3 k xs v hx hv2) hm0 hreg (fun i hi=>hSr s (.inr rfl) i ((e5 i).2 ⟨k,hkl,hi⟩))
 have:=mK (e:=ak.slice e) (te:=te) (xs:=M) (F:=φ r) (S:=Am.al c (ah ([(r,Hp.dead),(s,Hp.dead)]++H)) φ') (by show lU 1 te (flat (ak.slice e) M) _ _ _ _ _;rw[hfl];exact hrow2) (show 0<1 by decide) (fun _ h=>h) (fun i hi=>hSr r (.inl rfl) i hi);rw[hv];exact this
end
end Go.Am
namespace Go.Am
open Go.RowKit
section
variable {P:Program} {os:List Oper} {c:Ctx} {T T':List (Nat×D)} {H H':List (Nat×Hp)} {sps:List Spec}
variable {ops:Array Oper} {dst:Option Nat} {ty:TypeId} {pos:String} {aft:Array Edge}
variable {α:Type} {e:ak α} {te tr:TypeId} {r s:Nat} {M X:List (List α)}
theorem cP.Eb{T0:Nat->Option D}{H0:Nat->Option Hp}{a:Act}{w:World}{ε:Env}{φ:Nat->cV}(hs:cP c T0 H0 a w ε φ){x:Hp}{l:List D}{z:Nat}{d:D}{v:Value}(hr:H0 r=some x)(hx:lU 1 te l ε w (Am.al c H0 φ) (ε r) (φ r))(hz:z<l.length)(hv:v.oneCell'=true)(hd:d.p ε w (Am.al c H0 φ) v)(hnm:∀q∈bV (l.set z d),H0 q≠none):
  ∃w',(storeCells (⟨j6 (ε r),z,none⟩:Addr) [v]).run P w=.ok () w'/\cP c T0 (bq H0 [(r,.eP 1 te (l.set z d))]) a w' ε φ:=by
 rcases hx with⟨e0,_,_⟩|⟨g,n',cap,cs,rest,hb,eF,hg,h1,hcap,hmax,hln,hcs⟩
 ·subst e0;simp at hz
 ·have hlen:=aR hcs;have hst:=run_storeCells_at (P:=P) g z te [v] 0 (cs++rest).toArray w hg (by simp;omega) (by simpa using hv);simp only[Nat.add_zero,List.length_singleton]at hst;have hsplit:(cs++rest).take z++[v]++(cs++rest).drop (z+1)=cs.set z v++rest:=by
   rw[List.take_append_of_le_length (by omega),List.drop_append_of_le_length (by omega),List.set_eq_take_append_cons_drop,if_pos (by omega)];simp[List.append_assoc]
  rw[hsplit]at hst;have hfar:∀k,¬φ r k->(w.setRow g (cs.set z v++rest).toArray).heap[k]?=w.heap[k]?:=fun k hk=>gp _ _ _ _ (fun e'=>hk (by rw[eF,e'];rfl));refine⟨w.setRow g (cs.set z v++rest).toArray,(by rw[hb];exact hst),hs.uE hr (by simp[World.setRow]) rfl rfl rfl hfar (.inr ⟨g,n',cap,cs.set z v,rest,hb,eF,setRow_heap w g (cs++rest).toArray _ te _ hg,?_,?_,hmax,?_,?_⟩) hnm⟩
  ·intro u hu;rcases List.mem_or_eq_of_mem_set hu with h|rfl
   ·exact h1 u h
   ·exact hv
  ·rw[←hcap];simp
  ·rw[List.length_set];exact hln
  ·exact b9 (fun k hk _=>⟨hk,hfar k (hk.2 r (by simp[hr]))⟩) (ua hd z hcs) (fun _ _=>rfl)
theorem EH{l:List D}{x d:D}{Y:List D}{n:Nat}(h:l.length=n):(l++x::Y).set n d=(l++[d])++Y:=by
 subst h;rw[List.set_append_right _ _ (Nat.le_refl _),Nat.sub_self,List.set_cons_zero,List.append_assoc];rfl
theorem rZ(vs:Array Value)(v:Value):cE (vs.push v).toList=cE vs.toList++[D.lit v]:=by simp[cE]
theorem uV(vs:Array Value)(v:Value)(k:Nat)(h:k<vs.size):cE (vs.set k v h).toList=(cE vs.toList).set k (D.lit v):=by simp[cE,List.map_set]
theorem vr{ε:Env}{w:World}{S:cV}{F1:cV}{xs:List α}{vs:Array Value}{G:Nat->cV}{v:Value}(h1:vs.size=M.length)(h2:∀k xs v,M[k]?=some xs->vs[k]?=some v->(aY e tr xs).p ε w S v (G k))(h3:∀k k',k<M.length->k'<M.length->k≠k'->∀i,G k i->¬G k' i)(hx:(aY e tr xs).p ε w S v F1)(hd:∀k,k<M.length->∀i,G k i->¬F1 i):
  ((vs.push v).size=(M++[xs]).length)/\(∀k ys u,(M++[xs])[k]?=some ys->(vs.push v)[k]?=some u->(aY e tr ys).p ε w S u (dF G M.length F1 k))/\(∀k k',k<(M++[xs]).length->k'<(M++[xs]).length->k≠k'->∀i,dF G M.length F1 k i->¬dF G M.length F1 k' i)/\(∀k,k<(M++[xs]).length->∀i,dF G M.length F1 k i->(k<M.length/\G k i)\/F1 i):=by
 have gn:dF G M.length F1 M.length=F1:=au _ _ _;have gk:∀k,k<M.length->dF G M.length F1 k=G k:=fun k hk=>aK _ _ (by omega);refine⟨by simp[h1],fun k ys u hy hu=>?_,fun k k' hk hk' hne i hi=>?_,fun k hk i hi=>?_⟩
 ·by_cases hk:k<M.length
  ·rw[List.getElem?_append_left hk]at hy;rw[Array.getElem?_push_lt (by omega)]at hu;rw[gk k hk];exact h2 k ys u hy (by rw[←hu];simp[h1,hk])
  ·have hlt:=(List.getElem?_eq_some_iff.1 hy).1;simp only[List.length_append,List.length_singleton]at hlt;have:k=M.length:=by omega
   subst this;rw[gn];simp at hy;subst hy;rw[←h1]at hu;simp at hu;subst hu;exact hx
 ·simp only[List.length_append,List.length_singleton]at hk hk';by_cases a1:k<M.length
  ·rw[gk k a1]at hi;by_cases a2:k'<M.length
   ·rw[gk k' a2];exact h3 k k' a1 a2 hne i hi
   ·have:k'=M.length:=by omega
    subst this;rw[gn];exact hd k a1 i hi
  ·have:k=M.length:=by omega
   subst this;rw[gn]at hi;have a2:k'<M.length:=by omega
   rw[gk k' a2];exact fun h=>hd k' a2 i h hi
 ·simp only[List.length_append,List.length_singleton]at hk;by_cases a1:k<M.length
  ·rw[gk k a1]at hi;exact .inl ⟨a1,hi⟩
  ·have:k=M.length:=by omega
   subst this;rw[gn]at hi;exact .inr hi
def CO(x:Operand)(d:D)(y:Operand)(d':D)(Hi Ho:List (Nat×Hp))(nw:List Nat):Spec:={ins:=eQ x d++eQ y d',du:=Hi,out:=.any,dC:=Ho,news:=nw}
theorem an.J1{t:TypeId}{x y:Operand}{r1 s2 m:Nat}{z:Int}{x0 xs:List α}(hz:z.toNat=M.length)(h:ev T x=some (.ref r (z.toNat*m)))(hy:ev T y=some (.own r1))(hh:ah H r=some (.cb e te s (x0::X)))(hk:ah H s=some (.store e tr M))(h1:ah H r1=some (aY e tr xs))(hf:ah H s2=none)
  (hne:r≠s/\r≠r1/\s≠r1)(hm:m=1)(ht:lay P t=some none)
  (hr:an P ops c os (bw T dst .any) ((r,.cb e te s2 X)::(s2,.store e tr (M++[xs]))::(s,.dead)::(r1,.dead)::H) sps T' H'):
  an P ops c (⟨dst,.store t x y,ty,pos,aft,none⟩::os) T H (CO x (.ref r (z.toNat*m)) y (.own r1) [(r,.cb e te s (x0::X)),(s,.store e tr M),(r1,aY e tr xs)] [(r,.cb e te s2 X),(s2,.store e tr (M++[xs])),(s,.dead),(r1,.dead)] [s2]::sps) T' H':=by
 subst hm;refine .cons (sp:=CO x (.ref r (z.toNat*1)) y (.own r1) [(r,.cb e te s (x0::X)),(s,.store e tr M),(r1,aY e tr xs)] [(r,.cb e te s2 X),(s2,.store e tr (M++[xs])),(s,.dead),(r1,.dead)] [s2]) ?_ (bb.2 ⟨(ay h).1,(ay hy).1⟩) ⟨hh,hk,h1,trivial⟩ ⟨hf,trivial⟩ hr;intro hdst T0 H0 hi du hnew a w ⟨ε,φ,hs⟩ Q K hK;rw[if_pos (bm rfl _)];obtain⟨hi1,hi2⟩:=bb.1 hi;have hx:a.eval x=.pointer (some ⟨j6 (ε r),z.toNat*1,none⟩):=(hs.ev hi1 (ay h).2).1;obtain⟨hye,hyo⟩:=(hs.ev hi2 (ay hy).2).1;obtain⟨hr0,hs0,hr10,_⟩:=du;obtain⟨vs,G,e1,e2,_⟩:=hs.h s _ hs0;have hrow:=uI e1 (hs.h r _ hr0);have hl1:(cE vs.toList).length=M.length:=by rw[ni];simpa using e2
 have hset:(cE vs.toList++(x0::X).map (ai e)).set M.length (D.lit (ε r1))=cE (vs.push (ε r1)).toList++X.map (ai e):=by
  rw[List.map_cons,EH hl1,rZ]
 obtain⟨w',hst,hS⟩:=hs.Eb (P:=P) (z:=M.length) (d:=D.lit (ε r1)) (v:=ε r1) hr0 hrow (by simp[hl1]) (hye▸hyo) rfl (fun q hq=>by
  rw[hset,d_ (dU _) (m4 e X)]at hq;cases hq)
 have hrun:(execOp a.eval ⟨dst,.store t x y,ty,pos,aft,none⟩).run P w=.ok .skip w':=by
  have hcl:(a.eval y).cells=#[ε r1]:=by
   have:(ε r1).oneCell'=true:=hye▸hyo;rw[hye];cases hq:ε r1<;>simp_all [Value.cells,Value.oneCell']
  rw[hz,Nat.mul_one]at hx;simp only[execOp,Instr.storeAt,hx,Instr.sureAddr,Sem.run_bind,Sem.run_pure,Result.andThen_ok,storeVar,(jL ht w).2,hcl];simp[hst]
 simp only[Oper.wp,hrun,Oper.upon];rw[hset]at hS;have u1:bq H0 [(r,.eP 1 te (cE (vs.push (ε r1)).toList++X.map (ai e)))] s=some (.store e tr M):=by rw[bJ,aK _ _ (Ne.symm hne.1)];exact hs0
 have u2:bq H0 [(r,.eP 1 te (cE (vs.push (ε r1)).toList++X.map (ai e)))] r1=some (aY e tr xs):=by rw[bJ,aK _ _ (Ne.symm hne.2.1)];exact hr10
 have u3:bq H0 [(r,.eP 1 te (cE (vs.push (ε r1)).toList++X.map (ai e)))] r=some (.eP 1 te (cE (vs.push (ε r1)).toList++X.map (ai e))):=by rw[bJ,au]
 have u4:bq H0 [(r,.eP 1 te (cE (vs.push (ε r1)).toList++X.map (ai e)))] s2=none:=by
  rw[bJ,aK _ _ (fun e=>by rw[←e,hnew.1]at hr0;cases hr0)];exact hnew.1
 obtain⟨vs',G',f1,f2,f3,f4,f5⟩:=hS.h s _ u1;rw[e1]at f1;injection f1 with f1;subst f1;obtain⟨g1,g2,g3,g4⟩:=vr f2 f3 f4 (hS.h r1 _ u2) (fun k hk i hi hi'=>hS.dj s r1 (by rw[u1];simp) (by rw[u2];simp) hne.2.2 i ((f5 i).2 ⟨k,hk,hi⟩) hi');have hG:=hS.wQ (r:=r) (te:=te) (X:=X) [s,r1] (fun q hq=>by
   simp only[List.mem_cons,List.not_mem_nil,or_false]at hq;rcases hq with rfl|rfl
   ·rw[u1];simp
   ·rw[u2];simp) u4 (by rw[u3];simp) (by simp[hne.1,hne.2.1]) (vs.push (ε r1)) _ g1 g2 g3 (fun k hk i hi=>(g4 k hk i hi).elim (fun h=>⟨s,by simp,(f5 i).2 ⟨k,h.1,h.2⟩⟩) (fun h=>⟨r1,by simp,h⟩)) (hS.h r _ u3)
 rw[oF (by simp[ah])]at hG;obtain⟨ε2,φ2,hG⟩:=hG;exact hK _ _ ⟨ε2,φ2,hG.put (d:=.any) (dq hdst) trivial (fun _ h=>by cases h)⟩
end
end Go.Am
namespace Go.Am
open Go.RowKit
section
variable {P:Program} {os:List Oper} {c:Ctx} {T T':List (Nat×D)} {H H':List (Nat×Hp)} {sps:List Spec}
variable {ops:Array Oper} {dst:Option Nat} {ty:TypeId} {pos:String} {aft:Array Edge}
variable {α:Type} {e:ak α} {te tr:TypeId} {r s:Nat} {M X:List (List α)}
theorem an.Jo{t:TypeId}{x y:Operand}{rl r1 r2 s2 bt:Nat}{z:List D}{dx:D}{xs:List α}(hx:ev T x=some dx)(hle:Le dx (.own r))(hy:ev T y=some (.own rl))(hh:ah H r=some (.cb e te s []))(hk:ah H s=some (.store e tr M))(hl:ah H rl=some (.eP 1 te [.own r1]))(h1:ah H r1=some (aY e tr xs))
  (hm:nF P t=some (te,1,bt,z))(hb:(M.length+1)*bt<=140737488355328)(hmax:M.length+1<=9223372036854775807)(hf:ah H r2=none)(hf2:ah H s2=none)(hne:r≠s/\r≠r1/\s≠r1/\r≠rl/\s≠rl/\r1≠rl/\r2≠s2)
  (hr:an P ops c os ((r2,.own r2)::T) ((r2,.cb e te s2 [])::(s2,.store e tr (M++[xs]))::(s,.dead)::(r1,.dead)::(rl,.dead)::(r,.dead)::H) sps T' H'):
  an P ops c (⟨some r2,.call {callee:=.builtin .append,args:=#[x,y],argTypes:=#[t,t]},ty,pos,aft,none⟩::os) T H
   ({ins:=eQ x dx++eQ y (.own rl),du:=[(r,.cb e te s []),(s,.store e tr M),(rl,.eP 1 te [.own r1]),(r1,aY e tr xs)],out:=.own r2,dC:=[(r2,.cb e te s2 []),(s2,.store e tr (M++[xs])),(s,.dead),(r1,.dead),(rl,.dead),(r,.dead)],news:=[r2,s2]}::sps) T' H':=by
 refine .cons (sp:={ins:=eQ x dx++eQ y (.own rl),du:=[(r,.cb e te s []),(s,.store e tr M),(rl,.eP 1 te [.own r1]),(r1,aY e tr xs)],out:=.own r2,dC:=[(r2,.cb e te s2 []),(s2,.store e tr (M++[xs])),(s,.dead),(r1,.dead),(rl,.dead),(r,.dead)],news:=[r2,s2]}) ?_ (bb.2 ⟨(ay hx).1,(ay hy).1⟩) ⟨hh,hk,hl,h1,trivial⟩ ⟨hf,hf2,trivial⟩ hr;intro hdst T0 H0 hi du hnew a w ⟨ε,φ,hs⟩ Q K hK;rw[if_pos (bm rfl _)];obtain⟨hi1,hi2⟩:=bb.1 hi;have hxe:a.eval x=ε r:=(hle.1 _ _ _ _ (hs.ev hi1 (ay hx).2).1).1;have hye:a.eval y=ε rl:=(hs.ev hi2 (ay hy).2).1.1;obtain⟨hr0,hs0,hl0,hr10,_⟩:=du;obtain⟨hn1,hn2,_⟩:=hnew;have live:∀q y,H0 q=some y->q≠r2/\q≠s2:=fun q y hq=>⟨fun(e':q=r2)=>(by rw[e',hn1]at hq;cases hq),fun(e':q=s2)=>(by rw[e',hn2]at hq;cases hq)⟩;obtain⟨vs,G,e1,e2,_⟩:=hs.h s _ hs0;have hrow:=uI e1 (hs.h r _ hr0);rw[List.map_nil,List.append_nil]at hrow;have hT:=hs.tell (y:=.row 1 te (cE vs.toList) (dU _)) hr0 hrow (fun q hq=>by cases hq);have q1:bq H0 [(r,Hp.row 1 te (cE vs.toList) (dU _))] r=some (.row 1 te (cE vs.toList) (dU _)):=by rw[bJ,au]
 have qn:∀q,q≠r->bq H0 [(r,Hp.row 1 te (cE vs.toList) (dU _))] q=H0 q:=fun q hq=>by rw[bJ,aK _ _ hq]
 -- the literal
 rcases hs.h rl _ hl0 with⟨h0,_,_⟩|⟨g,n',cap,cs,rest,hb',eF,hg,hc1,hcap,hmaxc,hln,hcs⟩
 ·cases h0
 have hn':n'=1:=by simpa using hln.symm
 subst hn';have hcs1:cs=[ε r1]:=by
  match cs,hcs with
  |[v],h=>rw[h.1.1]
 subst hcs1;have hv1:(ε r1).oneCell'=true:=hc1 _ (by simp);obtain⟨v',w',ε',φ',hrun,hS,ev',ho,hεε⟩:=hT.Ja (P:=P) (ty:=ty) hm (r:=r2) (n1:=M.length) (n2:=1) (l2:=[D.lit (ε r1)]) (l:=cE (vs.push (ε r1)).toList) (hl:=dU _) q1 (by rw[qn _ (Ne.symm (live r _ hr0).1)];exact hn1) (by rw[ni];simpa using e2) rfl rfl (rZ vs (ε r1)).symm
  (A:=some ⟨g,0,none⟩) (cap2:=cap) (vs:=[ε r1]) (.inr ⟨g,0,rfl,fun j u hj=>by
   rw[Nat.zero_add,iR hg];rw[List.getElem?_append_left (List.getElem?_eq_some_iff.1 hj).1];exact hj⟩) (by simpa using hv1) ⟨rfl,trivial⟩ hb hmax
 have hrun':(Builtin.append_ #[t,t] ty #[a.eval x,a.eval y]).run P w=.ok v' w':=by rw[hxe,hye,hb'];exact hrun
 simp only[Oper.wp,lO a w w' hrun',Oper.upon];have n1:=live r _ hr0;have n2:=live s _ hs0;have n3:=live r1 _ hr10;have n4:=live rl _ hl0;have hUU:bq (bq H0 [(r,Hp.row 1 te (cE vs.toList) (dU _))]) [(r,.dead),(r2,.row 1 te (cE (vs.push (ε r1)).toList) (dU _))]=bq H0 [(r,.dead),(r2,.row 1 te (cE (vs.push (ε r1)).toList) (dU _))]:=oF (by simp[ah]);have hcast:cP c T0 (bq H0 [(r,.dead),(r2,.row 1 te (cE (vs.push (ε r1)).toList) (dU _))]) a w' ε' φ':=by rw[←hUU];exact hS
 clear hS;replace hcast:=hcast.put (dst:=some r2) (d:=.own r2) (dq hdst) ⟨ev'.symm,ho⟩ (fun q hq=>by
  have:q=r2:=by simpa [D.own]using hq
  subst this;rw[fO,aK _ _ (Ne.symm (live r _ hr0).1),au];simp)
 have U:∀q,q≠r->q≠r2->bq H0 [(r,.dead),(r2,.row 1 te (cE (vs.push (ε r1)).toList) (dU _))] q=H0 q:=fun q h1 h2=>by rw[fO,aK _ _ h1,aK _ _ h2]
 have u1:=(U s (Ne.symm hne.1) n2.1).trans hs0;have u2:=(U r1 (Ne.symm hne.2.1) n3.1).trans hr10;have u5:=(U rl (Ne.symm hne.2.2.2.1) n4.1).trans hl0;have u3:bq H0 [(r,.dead),(r2,.row 1 te (cE (vs.push (ε r1)).toList) (dU _))] r2=some (.row 1 te (cE (vs.push (ε r1)).toList) (dU _)):=by rw[fO,aK _ _ (Ne.symm n1.1),au]
 have u4:=(U s2 (Ne.symm n1.2) (Ne.symm hne.2.2.2.2.2.2)).trans hn2;obtain⟨vs',G',f1,f2,f3,f4,f5⟩:=hcast.h s _ u1;rw[hεε s n2.1,e1]at f1;injection f1 with f1;subst f1;have hx1:=hcast.h r1 _ u2;rw[hεε r1 n3.1]at hx1;obtain⟨g1,g2,g3,g4⟩:=vr f2 f3 f4 hx1 (fun k hk i hi hi'=>hcast.dj s r1 (by rw[u1];simp) (by rw[u2];simp) hne.2.2.1 i ((f5 i).2 ⟨k,hk,hi⟩) hi');have hG:=hcast.wQ (r:=r2) (te:=te) (X:=[]) (e:=e) [s,r1,rl] (fun q hq=>by
   simp only[List.mem_cons,List.not_mem_nil,or_false]at hq;rcases hq with rfl|rfl|rfl
   ·rw[u1];simp
   ·rw[u2];simp
   ·rw[u5];simp) u4 (by rw[u3];simp) (by simp[Ne.symm n2.1,Ne.symm n3.1,Ne.symm n4.1]) (vs.push (ε r1)) _ g1 g2 g3 (fun k hk i hi=>(g4 k hk i hi).elim (fun h=>⟨s,by simp,(f5 i).2 ⟨k,h.1,h.2⟩⟩) (fun h=>⟨r1,by simp,h⟩)) (by
    rw[List.map_nil,List.append_nil];exact hcast.h r2 _ u3)
 have hfin:bq (bq H0 [(r,.dead),(r2,.row 1 te (cE (vs.push (ε r1)).toList) (dU _))]) ((r2,Hp.cb e te s2 [])::(s2,Hp.store e tr (M++[xs]))::[s,r1,rl].map fun k=>(k,Hp.dead))=bq H0 [(r2,.cb e te s2 []),(s2,.store e tr (M++[xs])),(s,.dead),(r1,.dead),(rl,.dead),(r,.dead)]:=by
  funext q
  simp only[bq,ah,List.map_cons,List.map_nil];cases Nat.beq q r2<;>cases Nat.beq q s2<;>cases Nat.beq q s<;>cases Nat.beq q r1<;>cases Nat.beq q rl<;>cases Nat.beq q r<;>rfl
 rw[hfin]at hG;exact hK _ _ hG
end
end Go.Am
namespace Go.Am
open Go.RowKit
section
variable {P:Program} {os:List Oper} {c:Ctx} {T T':List (Nat×D)} {H H':List (Nat×Hp)} {sps:List Spec}
variable {ops:Array Oper} {dst:Option Nat} {ty:TypeId} {pos:String} {aft:Array Edge}
variable {α:Type} {e:ak α} {te tr:TypeId} {r s:Nat} {M X:List (List α)}
theorem uh{v:Value}(h:v.oneCell'=true):v.cells=#[v]:=by cases v<;>simp_all [Value.cells,Value.oneCell']
theorem CG{js:List Nat}{q:Nat}(h:q∈bV (js.map (D.mr s))):q=s:=by
 obtain⟨d,hd,hr⟩:=bZ.1 h;obtain⟨k,_,rfl⟩:=List.mem_map.1 hd;simpa [D.mr]using hr
theorem AF{t:TypeId}{x y:Operand}{k m:Nat}{z:Int}{js:List Nat}{hp:Hp}{F:List (List α)}(hrow:∀ε w S A A',hp.p ε w S (ε r) A->(Hp.store e tr F).p ε w S (ε s) A'->lU 1 te (js.map (D.mr s)) ε w S (ε r) A)(hz:z.toNat<js.length)(h:ev T x=some (.ref r (z.toNat*m)))(hy:ev T y=some (.mr s k))(hh:ah H r=some hp)(hk:ah H s=some (.store e tr F))(hm:m=1)(ht:lay P t=some none)
  (hr:an P ops c os (bw T dst .any) ((r,.eP 1 te ((js.set z.toNat k).map (D.mr s)))::H) sps T' H'):
  an P ops c (⟨dst,.store t x y,ty,pos,aft,none⟩::os) T H (CO x (.ref r (z.toNat*m)) y (.mr s k) [(r,hp),(s,.store e tr F)] [(r,.eP 1 te ((js.set z.toNat k).map (D.mr s)))] []::sps) T' H':=by
 subst hm;refine .cons (sp:=CO x (.ref r (z.toNat*1)) y (.mr s k) [(r,hp),(s,.store e tr F)] [(r,.eP 1 te ((js.set z.toNat k).map (D.mr s)))] []) ?_ (bb.2 ⟨(ay h).1,(ay hy).1⟩) ⟨hh,hk,trivial⟩ trivial hr;intro hdst T0 H0 hi du _ a w ⟨ε,φ,hs⟩ Q K hK;rw[if_pos (bm rfl _)];obtain⟨hi1,hi2⟩:=bb.1 hi;have hx:a.eval x=.pointer (some ⟨j6 (ε r),z.toNat*1,none⟩):=(hs.ev hi1 (ay h).2).1;have hyv:=(hs.ev hi2 (ay hy).2).1;obtain⟨hr0,hs0,_⟩:=du;have hro:=hrow ε w _ _ _ (hs.h r _ hr0) (hs.h s _ hs0);have hset:(js.map (D.mr s)).set z.toNat (D.mr s k)=(js.set z.toNat k).map (D.mr s):=by rw[List.map_set]
 obtain⟨w',hst,hS⟩:=hs.Eb (P:=P) (z:=z.toNat) (d:=D.mr s k) (v:=a.eval y) hr0 hro (by simpa using hz) hyv.1 hyv (fun q hq=>by
  rw[hset]at hq;rw[CG hq,hs0];simp)
 have hrun:(execOp a.eval ⟨dst,.store t x y,ty,pos,aft,none⟩).run P w=.ok .skip w':=by
  have hcl:(a.eval y).cells=#[a.eval y]:=uh hyv.1;rw[Nat.mul_one]at hx;simp only[execOp,Instr.storeAt,hx,Instr.sureAddr,Sem.run_bind,Sem.run_pure,Result.andThen_ok,storeVar,(jL ht w).2,hcl];simp[hst]
 simp only[Oper.wp,hrun,Oper.upon];rw[hset]at hS;exact hK _ _ ⟨ε,φ,hS.put (d:=.any) (dq hdst) trivial (fun _ h=>by cases h)⟩
theorem an.Jp{t:TypeId}{x y:Operand}{k m:Nat}{z:Int}(hz:z.toNat<M.length)(h:ev T x=some (.ref r (z.toNat*m)))(hy:ev T y=some (.mr s k))(hh:ah H r=some (.cb e te s []))(hk:ah H s=some (.store e tr M))(hm:m=1)(ht:lay P t=some none)
  (hr:an P ops c os (bw T dst .any) ((r,.eP 1 te (((List.range M.length).set z.toNat k).map (D.mr s)))::H) sps T' H'):
  an P ops c (⟨dst,.store t x y,ty,pos,aft,none⟩::os) T H (CO x (.ref r (z.toNat*m)) y (.mr s k) [(r,.cb e te s []),(s,.store e tr M)] [(r,.eP 1 te (((List.range M.length).set z.toNat k).map (D.mr s)))] []::sps) T' H':=
 AF (fun ε w S A A' h1 h2=>by
  have:=l_ h1 h2
  rwa [List.map_nil,List.append_nil]at this) (by simpa using hz) h hy hh hk hm ht hr
theorem an.Jv{t:TypeId}{x y:Operand}{k m:Nat}{z:Int}{js:List Nat}(hz:z.toNat<js.length)(h:ev T x=some (.ref r (z.toNat*m)))(hy:ev T y=some (.mr s k))(hh:ah H r=some (.eP 1 te (js.map (D.mr s))))(hk:ah H s=some (.store e tr M))(hm:m=1)(ht:lay P t=some none)
  (hr:an P ops c os (bw T dst .any) ((r,.eP 1 te ((js.set z.toNat k).map (D.mr s)))::H) sps T' H'):
  an P ops c (⟨dst,.store t x y,ty,pos,aft,none⟩::os) T H (CO x (.ref r (z.toNat*m)) y (.mr s k) [(r,.eP 1 te (js.map (D.mr s))),(s,.store e tr M)] [(r,.eP 1 te ((js.set z.toNat k).map (D.mr s)))] []::sps) T' H':=
 AF (fun _ _ _ _ _ h1 _=>h1) hz h hy hh hk hm ht hr
theorem Dp{ε:Env}{w:World}{S:cV}{vs:Array Value}(h:ε s=.agg vs):∀{js:List Nat} {cs:List Value},cp ε w S (js.map (D.mr s)) cs->cs.length=js.length/\∀(i j:Nat) (v:Value),js[i]?=some j->cs[i]?=some v->vs[j]?=some v:=by
 intro js cs hc;refine⟨by rw[aR hc,List.length_map],fun i j v hj hv=>?_⟩;obtain⟨u,hu,_,vs',e1,e2⟩:=gK hc (show(js.map (D.mr s))[i]?=some (D.mr s j)by rw[List.getElem?_map,hj];rfl);rw[h]at e1;injection e1 with e1;subst e1;rw[hv]at hu;injection hu with hu;subst hu;exact e2
theorem Ok.Hb{x:Code}{Q:Exit->Act->World->Prop}{js:List Nat}{M2:List (List α)}(s2:Nat)(hh:ah H r=some (.eP 1 te (js.map (D.mr s))))(hk:ah H s=some (.store e tr M))(hf:ah H s2=none)(hne:Nat.beq r s=false)(hnd:js.Nodup)(hl:M2.length=js.length)(hM:∀(i j:Nat),js[i]?=some j->M2[i]?=M[j]?/\j<M.length)
  (h:Ok P c T ((r,.cb e te s2 [])::(s2,.store e tr M2)::(s,.dead)::H) x Q):Ok P c T H x Q:=by
 intro a w ⟨ε,φ,hs⟩;have hne':r≠s:=fun e=>by subst e;simp at hne
 obtain⟨vs,G,e1,e2,e3,e4,e5⟩:=hs.h s _ hk;have hrow:lU 1 te (js.map (D.mr s)) ε w (Am.al c (ah H) φ) (ε r) (φ r):=hs.h r _ hh;have hG:∃cs:List Value,cs.length=js.length/\(∀(i j:Nat) (v:Value),js[i]?=some j->cs[i]?=some v->vs[j]?=some v)/\lU 1 te (cE cs) ε w (Am.al c (ah H) φ) (ε r) (φ r):=by
  rcases hrow with⟨h0,h1,h2⟩|⟨g,n,cap,cs,rest,h1,h2,h3,h4,h5,h8,h6,h7⟩
  ·have:js=[]:=by simpa using h0
   subst this;exact⟨[],rfl,fun i j v hj=>by simp at hj,.inl ⟨rfl,h1,h2⟩⟩
  ·obtain⟨f1,f2⟩:=Dp e1 h7;exact⟨cs,f1,f2,.inr ⟨g,n,cap,cs,rest,h1,h2,h3,h4,h5,h8,by rw[ni,f1,←h6,List.length_map],ki.2 rfl⟩⟩
 obtain⟨cs,f1,f2,f3⟩:=hG;have inj:∀i i' j,js[i]?=some j->js[i']?=some j->i=i':=fun i i' j h1 h2=>by
  have hi:=(List.getElem?_eq_some_iff.1 h1).1;exact(List.getElem?_inj hi hnd).1 (h1.trans h2.symm)
 have hS:=hs.wQ (r:=r) (te:=te) (X:=[]) (e:=e) (tr:=tr) (M:=M2) (s2:=s2) [s] (fun q hq=>by
   simp only[List.mem_cons,List.not_mem_nil,or_false]at hq;subst hq;rw[hk];simp) hf (by rw[hh];simp) (by simpa using hne') cs.toArray (fun i=>G (js.getD i 0)) (by rw[hl,←f1];simp)
   (fun k xs v hx hv=>by
    have hkl:k<js.length:=by rw[←hl];exact(List.getElem?_eq_some_iff.1 hx).1
    have hj:js[k]?=some js[k]:=List.getElem?_eq_getElem hkl;have hv2:cs[k]?=some v:=by simpa using hv
    have:=f2 k _ v hj hv2;have hd:js.getD k 0=js[k]:=by simp[List.getD,hj]
    rw[hd];exact e3 _ xs v (by rw[←(hM k _ hj).1];exact hx) this)
   (fun k k' hk1 hk2 hne2 i hi hi'=>by
    rw[hl]at hk1 hk2;have hj:js[k]?=some js[k]:=List.getElem?_eq_getElem hk1;have hj':js[k']?=some js[k']:=List.getElem?_eq_getElem hk2;have hd:js.getD k 0=js[k]:=by simp[List.getD,hj]
    have hd':js.getD k' 0=js[k']:=by simp[List.getD,hj']
    rw[hd]at hi;rw[hd']at hi';exact e4 _ _ (hM k _ hj).2 (hM k' _ hj').2 (fun e=>hne2 (inj k k' _ hj (by rw[hj',e]))) i hi hi')
   (fun k hk1 i hi=>by
    rw[hl]at hk1;have hj:js[k]?=some js[k]:=List.getElem?_eq_getElem hk1;have hd:js.getD k 0=js[k]:=by simp[List.getD,hj]
    rw[hd]at hi;exact⟨s,by simp,(e5 i).2 ⟨_,(hM k _ hj).2,hi⟩⟩)
   (by rw[List.map_nil,List.append_nil];exact f3)
 refine h a w (Sat.ext hS (fun _=>rfl) (fun q=>?_));rw[bC];rfl
theorem Ok.Be{x:Code}{Q:Exit->Act->World->Prop}{i k:Int}{vi vk:List α}(s2:Nat)(hh:ah H r=some (.eP 1 te ((((List.range M.length).set i.toNat k.toNat).set k.toNat i.toNat).map (D.mr s))))(hk:ah H s=some (.store e tr M))(hf:ah H s2=none)(hne:Nat.beq r s=false)(hi:M[i.toNat]?=some vi)(hkk:M[k.toNat]?=some vk)
  (h:Ok P c T ((r,.cb e te s2 [])::(s2,.store e tr ((M.set i.toNat vk).set k.toNat vi))::(s,.dead)::H) x Q):Ok P c T H x Q:=by
 have h1:=(List.getElem?_eq_some_iff.1 hi).1;have h2:=(List.getElem?_eq_some_iff.1 hkk).1;generalize i.toNat=i at*;generalize k.toNat=k at*;have hjs:∀n j:Nat,(((List.range M.length).set i k).set k i)[n]?=some j↔n<M.length/\j=(if n=k then i else if n=i then k else n):=by
  intro n j;by_cases hn:n<M.length
  ·by_cases e1:n=k
   ·subst e1;rw[List.getElem?_set_self (by simpa using hn)];simp[hn,eq_comm]
   ·rw[List.getElem?_set_ne (Ne.symm e1)];by_cases e2:n=i
    ·subst e2;rw[List.getElem?_set_self (by simpa using hn)];simp[hn,e1,eq_comm]
    ·rw[List.getElem?_set_ne (Ne.symm e2)];simp[hn,e1,e2,eq_comm]
  ·rw[List.getElem?_eq_none (by simp;omega)];simp[hn]
 refine .Hb s2 hh hk hf hne ?_ (by simp) (fun n j hj=>?_) h
 ·rw[List.nodup_iff_pairwise_ne,List.pairwise_iff_getElem];intro a b ha hb hab e;have ha':=(hjs a _).1 (List.getElem?_eq_getElem ha);have hb':=(hjs b _).1 (List.getElem?_eq_getElem hb);rw[ha'.2,hb'.2]at e;by_cases a1:a=k<;>by_cases a2:a=i<;>by_cases a3:b=k<;>by_cases a4:b=i<;>simp_all<;>omega
 ·obtain⟨h3,rfl⟩:=(hjs n j).1 hj;by_cases e1:n=k
  ·subst e1;rw[List.getElem?_set_self (by simpa using h2),if_pos rfl,hi];exact⟨rfl,h1⟩
  ·rw[List.getElem?_set_ne (Ne.symm e1),if_neg e1];by_cases e2:n=i
   ·subst e2;rw[List.getElem?_set_self h1,if_pos rfl,hkk];exact⟨rfl,h2⟩
   ·rw[List.getElem?_set_ne (Ne.symm e2),if_neg e2];exact⟨rfl,h3⟩
end
end Go.Am
namespace Go.Am
open Go.RowKit
theorem w9.cb{α:Type}{ρ:Nat->Nat}{e:ak α}{te:TypeId}{s:Nat}{X:List (List α)}:w9 ρ (.cb e te (ρ s) X) (.cb e te s X):=by
 refine⟨fun ε w S b F h=>?_,fun r hr=>?_⟩
 ·obtain⟨vs,e1,_⟩:=id h;have:=uI e1 h;exact y5 (ε:=fun r=>ε (ρ r)) e1 (oH this (by rw[d_ (dU _) (m4 e X)];intro r hr;cases hr) (fun _ hk _=>⟨hk,rfl⟩) (fun _ _=>rfl))
 ·have:r=s:=by simpa [Hp.cb]using hr
  subst this;simp[Hp.cb]
theorem tP.mr{ρ:Nat->Nat}{s k:Nat}:tP ρ (.mr (ρ s) k) (.mr s k):=⟨fun _ _ _ _ h=>h,fun r' hr'=>by simp[D.mr]at hr'|-;rw[hr']⟩
section
variable {P:Program} {os:List Oper} {c:Ctx} {T T':List (Nat×D)} {H H':List (Nat×Hp)} {sps:List Spec}
variable {ops:Array Oper} {dst:Option Nat} {ty:TypeId} {pos:String} {aft:Array Edge}
variable {α:Type} {e:ak α} {te tr:TypeId} {r s:Nat} {M X:List (List α)}
theorem BJ{ε:Env}{w:World}{S S':cV}{F F':cV}(dC:(Hp.cb e te s []).p ε w S (ε r) F)(hsto:(Hp.store e tr M).p ε w S (ε s) F')(hm0:0<e.n)(hS:∀k,S k->S' k)(hF:∀k,F k->S' k)(hF':∀k,F' k->S' k):(ai (ak.slice e) M).p ε w S' (ε r):=by
 have hrow:=l_ dC hsto;obtain⟨vs,G,e1,e2,e3,e4,e5⟩:=hsto;rw[List.map_nil,List.append_nil]at hrow;have hrow2:lU 1 te (M.map (ai e)) ε w S' (ε r) F:=by
  rcases hrow with⟨h0,h1,h2⟩|⟨g,n,cap,cs,rest,h1,h2,h3,h4,h5,h8,h6,h7⟩
  ·have:M.length=0:=by have:=congrArg List.length h0;rwa [bX]at this
   have:M=[]:=List.eq_nil_of_length_eq_zero this;exact .inl ⟨by rw[this];rfl,h1,h2⟩
  ·refine .inr ⟨g,n,cap,cs,rest,h1,h2,h3,h4,h5,h8,by rw[←h6];simp[bX],?_⟩;have hcl:=aR h7;rw[bX]at hcl;have key:∀(N:List (List α)) (us:List Value),us.length=N.length->(∀(k:Nat) (xs:List α) (v:Value),N[k]?=some xs->us[k]?=some v->(ai e xs).p ε w S' v)->cp ε w S' (N.map (ai e)) us:=by
    intro N
    induction N with
    |nil=>intro us hl _;have:=List.eq_nil_of_length_eq_zero hl;subst this;exact trivial
    |cons x N ih=>
     intro us hl hk'
     cases us with
     |nil=>simp at hl
     |cons u us=>
      exact⟨hk' 0 x u rfl rfl,ih us (by simpa using hl) (fun k xs v hx hv=>hk' (k+1) xs v (by simpa using hx) (by simpa using hv))⟩
   refine key M cs hcl (fun k xs v hx hv=>?_);have hkl:k<M.length:=(List.getElem?_eq_some_iff.1 hx).1;have hv2:vs[k]?=some v:=by
    have:=l7 (s:=s) (S:=S) (w:=w) e1 (by rw[e2];exact h7);rw[this]at hv;simpa using hv
   exact mK (e3 k xs v hx hv2) hm0 hS (fun i hi=>hF' i ((e5 i).2 ⟨k,hkl,hi⟩))
 exact mK (e:=ak.slice e) (te:=te) (xs:=M) (F:=F) (S:=S') (by show lU 1 te (flat (ak.slice e) M) _ _ _ _ _;rw[nk];exact hrow2) (show 0<1 by decide) (fun _ h=>h) hF
def H5(R:List (Nat×Hp))(d d':D):Prop:=∀(ε:Env) (w:World) (S S':cV) (φ:Nat->cV),(∀q h,ah R q=some h->h.p ε w S (ε q) (φ q))->(∀k,S k->S' k)->(∀q,ah R q≠none->∀k,φ q k->S' k)->∀v,d.p ε w S v->d'.p ε w S' v
def wh(R:List (Nat×Hp)):List D->List D->Prop
 |[],[]=>True
 |d::l,d'::l'=>H5 R d d'/\wh R l l'
 |_,_=>False
theorem wh.all{R:List (Nat×Hp)}{ε:Env}{w:World}{S S':cV}{φ:Nat->cV}(h1:∀q h,ah R q=some h->h.p ε w S (ε q) (φ q))(h2:∀k,S k->S' k)(h3:∀q,ah R q≠none->∀k,φ q k->S' k):∀{l l':List D} {vs:List Value},wh R l l'->cp ε w S l vs->cp ε w S' l' vs
 |[],[],[],_,_=>trivial
 |[],[],_::_,_,h=>h.elim
 |d::l,d'::l',[],_,h=>h.elim
 |d::l,d'::l',v::vs,hs,h=>⟨hs.1 ε w S S' φ h1 h2 h3 v h.1,wh.all h1 h2 h3 hs.2 h.2⟩
 |[],_::_,_,hs,_=>hs.elim
 |_::_,[],_,hs,_=>hs.elim
theorem H5.cb{R:List (Nat×Hp)}{d:D}(hd:Le d (.own r))(hr:ah R r=some (.cb e te s []))(hs:ah R s=some (.store e tr M))(hm:Nat.blt 0 e.n=true):H5 R d (ai (ak.slice e) M):=fun ε w S S' φ h1 h2 h3 v hv=>by
 have:=(hd.1 _ _ _ _ hv).1;subst this;exact BJ (h1 r _ hr) (h1 s _ hs) (by simpa using hm) h2 (h3 r (by rw[hr];simp)) (h3 s (by rw[hs];simp))
def Plain(d:D):Prop:=∀(ε ε':Env) (w w':World) (S S':cV) (v:Value),d.p ε w S v->d.p ε' w' S' v
theorem Plain.int{k:IntKind}{n:Int}:Plain (.int k n):=fun _ _ _ _ _ _ _ h=>h
theorem Plain.bool{b:Bool}:Plain (.bool b):=fun _ _ _ _ _ _ _ h=>h
def uj:List D->Prop
 |[]=>True
 |d::l=>Plain d/\uj l
theorem uj.all:∀{l:List D} {vs:List Value} {ε ε':Env} {w w':World} {S S':cV},uj l->cp ε w S l vs->cp ε' w' S' l vs
 |[],[],_,_,_,_,_,_,_,_=>trivial
 |_::_,_::_,_,_,_,_,_,_,hp,h=>⟨hp.1 _ _ _ _ _ _ _ h.1,uj.all hp.2 h.2⟩
 |[],_::_,_,_,_,_,_,_,_,h=>h.elim
 |_::_,[],_,_,_,_,_,_,_,h=>h.elim
theorem Plain.ig{l:List D}(h:uj l):Plain (.ig l):=fun _ _ _ _ _ _ _ ⟨cs,e,ha⟩=>⟨cs,e,h.all ha⟩
theorem an.CY{f:FuncId}{xs:List Operand}{ats:Array TypeId}{ds ds0:List D}{d:D}(R:List (Nat×Hp))(hc:bf P f [] ds [] d)(he:y8 T xs ds0)(du:hasAll H R)(hsee:wh R ds0 ds)(hpl:Plain d)(hnm:d.nm=[])
  (hr:an P ops c os (bw T dst d) H sps T' H'):
  an P ops c (⟨dst,.call {callee:=.value (.func f),args:=xs.toArray,argTypes:=ats},ty,pos,aft,none⟩::os) T H ({ins:=(xs.zip ds0).flatMap fun x=>eQ x.1 x.2,du:=R,out:=d,dC:=[],news:=[]}::sps) T' H':=by
 refine .cons (sp:={ins:=(xs.zip ds0).flatMap fun x=>eQ x.1 x.2,du:=R,out:=d,dC:=[],news:=[]}) ?_ (fg (gX he)) (rM du) trivial hr;intro hdst T0 H0 hi hin0 _ a w ⟨ε,φ,hs⟩ Q K hK;rw[if_pos (bm rfl _)];have hx:∀x∈xs.zip ds0,ga T0 (eQ x.1 x.2):=dk hi;have hget0:=oC hin0;have hall0:cp ε w (Am.al c H0 φ) ds0 (xs.map a.eval):=iU he (fun x h=>(hs.ev (hx x h) (ay (gX he x h)).2).1);have hall:=wh.all (S':=fun k=>Am.al c H0 φ k\/∃q,ah R q≠none/\φ q k) (fun q h hq=>hs.h q h (hget0 q h hq)) (fun k hk=>.inl hk) (fun q hq k hk=>.inr ⟨q,hq,hk⟩) hsee hall0;simp only[Oper.wp,mM hc.ok a w,Oper.upon];refine(hc.calls (fun k=>Am.al c H0 φ k\/∃q,ah R q≠none/\φ q k) w ε φ (xs.map a.eval) (fun r hr=>absurd rfl hr) (fun r r' hr=>absurd rfl hr) (fun r h hr=>by cases hr) hall).mono ?_;rintro e w' ⟨v,ε',φ',rfl,_,hv,_,_,_,hbel⟩;have hb:Below w.heap.size w w':=⟨hbel.os,hbel.tape,hbel.output,hbel.size,fun k hk=>hbel.block k hk (fun⟨r,hr,_⟩=>hr rfl)⟩;have hS:=hs.grow hb;exact hK _ _ ⟨ε,φ,hS.put (d:=d) (dq hdst) (hpl _ _ _ _ _ _ _ hv) (by rw[hnm];intro r hr;cases hr)⟩
end
end Go.Am
namespace Go.Am
open Go.RowKit
theorem tP.ry{ρ:Nat->Nat}{f:FuncId}{l l' m m':List D}(h1:tA ρ l l')(h2:tA ρ m m'):tP ρ (.ry f l m) (.ry f l' m'):=
 ⟨fun _ _ _ _ ⟨vs,us,e,a1,a2⟩=>⟨vs,us,e,h1.all a1,h2.all a2⟩,fun r hr=>by
  rcases List.mem_append.1 hr with h|h
  ·exact List.mem_append.2 (.inl (h1.bV r h))
  ·exact List.mem_append.2 (.inr (h2.bV r h))⟩
section
variable {P:Program} {os:List Oper} {c:Ctx} {T T':List (Nat×D)} {H H':List (Nat×Hp)} {sps:List Spec}
variable {ops:Array Oper} {dst:Option Nat} {ty:TypeId} {pos:String} {aft:Array Edge}
variable {α:Type} {e:ak α} {te tr:TypeId} {r s:Nat} {M X:List (List α)}
theorem Ok.fH{x:Code}{Q:Exit->Act->World->Prop}(t:Nat)(ht:aW T t=some (.own r))(hh:ah H r=some (.cb e te s []))(hk:ah H s=some (.store e tr M))
  (h:Ok P c ((t,.sl r M.length)::T) H x Q):Ok P c T H x Q:=.Hd t ht hh hk h
theorem an.Jw{t te:TypeId}{r r1:Nat}{x:Operand}{bt:Nat}{z:D}(hx:ev T x=some (.own r1))(hm:nF P t=some (te,1,bt,[z]))(hf:ah H r=none)
  (hr:an P ops c os ((r,.own r)::T) ((r,.eP 1 te [.own r1])::H) sps T' H'):
  an P ops c (⟨some r,.buildSlice t 1 #[(0,x)],ty,pos,aft,none⟩::os) T H (rws (qs [(0,x,.own r1,[.own r1])]) r (.eP 1 te [.own r1])::sps) T' H':=
 .KD (parts:=[(0,x)]) [.own r1] [(0,x,.own r1,[.own r1])] hm rfl rfl ⟨rfl,rfl,.one rfl,rfl,trivial⟩ (by intro y hy;simp[qs]at hy;subst hy;exact hx) rfl rfl (fun r' hr'=>⟨(x,.own r1),by simp[qs],by simpa [bV]using hr'⟩) hf hr
theorem an.J6{α:Type}(e:ak α){t te:TypeId}{r m bt:Nat}{z:List D}(hm:nF P t=some (te,m,bt,z))(hmn:m=e.n)(hf:ah H r=none)(hr:an P ops c os ((r,.own r)::T) ((r,aY e te [])::H) sps T' H'):
  an P ops c (⟨some r,.buildSlice t 0 #[],ty,pos,aft,none⟩::os) T H ({ins:=[],du:=[],out:=.own r,dC:=[(r,aY e te [])],news:=[r]}::sps) T' H':=by
 subst hmn;have h0:=an.Jt (P:=P) (ops:=ops) (c:=c) (os:=[]) (T:=T) (H:=H) (ty:=ty) (pos:=pos) (aft:=aft) hm hf .nil
 cases h0 with
 |cons h1 h2 h3 h4 _=>exact .cons h1 h2 h3 h4 hr
theorem Cp{H0:Nat->Option Hp}{Hi:List (Nat×Hp)}(h:∀r x,ah Hi r=some x->H0 r=some x):bq H0 Hi=H0:=by
 funext r
 simp only[bq]
 cases hq:ah Hi r with
 |none=>rfl
 |some x=>exact(h r x hq).symm
theorem qK.uq{o:Oper}{xs:List (Operand×D)}{Hi:List (Nat×Hp)}{d:D}(h:qK P ops c o (IF xs Hi Hi d))(hn:fR Hi Hi=[]):qK P ops c o {ins:=xs.flatMap fun x=>eQ x.1 x.2,du:=Hi,out:=d,dC:=[],news:=[]}:=by
 intro hd T0 H0 hi du _ a w hs Q K hK;refine h hd T0 H0 hi du (show mS H0 (fR Hi Hi)by rw[hn];exact trivial) a w hs Q K (fun a' w' hs'=>hK a' w' ?_);have:bq H0 Hi=H0:=Cp (oC du);show Sat c (ia T0 o.dst d) (bq H0 []) a' w';have hs2:Sat c (ia T0 o.dst d) (bq H0 Hi) a' w':=hs';rw[this]at hs2;rw[xF];exact hs2
theorem an.DK{f:FuncId}{xs:List Operand}{ats:Array TypeId}{Hi:List (Nat×Hp)}{ds:List D}{d:D}(hc:bf P f Hi ds Hi d)(he:y8 T xs ds)(du:hasAll H Hi)(hn:fR Hi Hi=[])
  (hr:an P ops c os (bw T dst d) H sps T' H'):
  an P ops c (⟨dst,.call {callee:=.value (.func f),args:=xs.toArray,argTypes:=ats},ty,pos,aft,none⟩::os) T H ({ins:=(xs.zip ds).flatMap fun x=>eQ x.1 x.2,du:=Hi,out:=d,dC:=[],news:=[]}::sps) T' H':=by
 have h0:=an.ag (P:=P) (ops:=ops) (c:=c) (os:=[]) (T:=T) (H:=H) (dst:=dst) (ty:=ty) (pos:=pos) (aft:=aft) (ats:=ats) hc he du (by rw[hn];exact trivial) .nil
 cases h0 with
 |cons h1 h2 h3 h4 _=>exact .cons (h1.uq hn) h2 h3 trivial hr
theorem an.HS{f:FuncId}{x:Operand}{xs:List Operand}{ats:Array TypeId}{Hi:List (Nat×Hp)}{l m ds:List D}{d:D}(hx:ev T x=some (.ry f l m))(hc:bf P f Hi (l++ds++m) Hi d)(he:y8 T xs ds)(du:hasAll H Hi)(hn:fR Hi Hi=[])
  (hr:an P ops c os (bw T dst d) H sps T' H'):
  an P ops c (⟨dst,.call {callee:=.value x,args:=xs.toArray,argTypes:=ats},ty,pos,aft,none⟩::os) T H ({ins:=((x,D.ry f l m)::xs.zip ds).flatMap fun x=>eQ x.1 x.2,du:=Hi,out:=d,dC:=[],news:=[]}::sps) T' H':=by
 have h0:=an.GV (P:=P) (ops:=ops) (c:=c) (os:=[]) (T:=T) (H:=H) (dst:=dst) (ty:=ty) (pos:=pos) (aft:=aft) (ats:=ats) hx hc he du (by rw[hn];exact trivial) .nil
 cases h0 with
 |cons h1 h2 h3 h4 _=>exact .cons (h1.uq hn) h2 h3 trivial hr
end
end Go.Am
namespace Go.Am
open Go.RowKit
set_option maxRecDepth 100000
noncomputable section
def jx(a1:List (List Rat))(v4:Int)(v5:Int):Option (St (Int×Int) (Ex Int (Int×Bool))):=(if(decide (v5<(a1.length:Int)))=true then((if(v5==0)=true then(ix a1 v5).bind fun v14=>some ((v14.length:Int))else some (v4))).bind fun v16=>(ix a1 v5).bind fun v17=>(if((v17.length:Int) !=v16)=true then some (St.done (Ex.ret (0,false)))else some (St.next (v16,(IntKind.i64.wrap (v5+1)))))else some (St.done (Ex.cd v4)))
def ld(a1:List (List Rat)):Option (Int×Bool):=((Loop (fun(s:Int×Int)=>jx a1 s.1 s.2) (0,0)).bind fun o6=>(match o6 with|Ex.cd v20=>some (Ex.cd v20)|Ex.ret (r21,r22)=>some (Ex.ret (r21,r22)))).bind fun o2=>(match o2 with|Ex.cd v23=>some (v23,true)|Ex.ret (r24,r25)=>some (r24,r25))
theorem wv{a1:List (List Rat)}{r26:Int}{r27:Bool}(h:ld a1=some (r26,r27)):bf PP 106 [] [ai (ak.slice ak.rq) a1] [] (D.ig [D.int .i64 r26,D.bool r27]):=by
 unfold ld at h;refine .of Go.Proofs.Tryz.func106 rfl (by kernel_rfl) rfl rfl rfl rfl rfl rfl (fun A w0 L b=>?_);show Ok PP _ [(0,ai (ak.slice ak.rq) a1)] [] _ _;refine .al (.aq rfl<|.aq rfl<|.nil) rfl ?_;refine .al (.aq rfl<|.nil) rfl ?_;obtain⟨o2,hp3,h⟩:=bind_some h;refine .cc (fun i=>o2=Ex.cd i) (fun(i:Int)=>[(4,D.int .i64 i)]) (fun(i:Int)=>[]) ?_ ?_
 ·have ho1:=h;have h:=hp3;refine .al (.aq rfl<|.nil) rfl ?_;obtain⟨o6,hl7,h⟩:=bind_some h;have ho2:=h;refine .block (.bU (fun(s:Int×Int)=>[(0,ai (ak.slice ak.rq) a1),(4,D.int .i64 s.1),(5,D.int .i64 s.2)]) (fun(s:Int×Int)=>[]) hl7 (.of rfl) trivial rfl rfl ?_);rintro⟨v4,v5⟩ st8 hb9;have h:jx a1 v4 v5=some st8:=hb9;unfold jx at h
  try dsimp only
  refine .sq ?_;refine .al (.mv rfl<|.mv rfl<|.ec rfl aJ<|.cm rfl rfl rfl<|.nil) rfl ?_;by_cases c10:(decide (v5<(a1.length:Int)))=true
  ·replace h:=ab c10 h;refine .cl rfl c10 ?_;refine .skip (Ok.on ?_);refine .sq ?_;refine .block ?_;obtain⟨v16,hp12,h⟩:=bind_some h;refine .cc (fun i=>v16=i) (fun(i:Int)=>[(0,ai (ak.slice ak.rq) a1),(4,D.int .i64 i),(5,D.int .i64 v5)]) (fun(i:Int)=>[]) ?_ ?_
   ·have ho3:=h;have h:=hp12;refine .al (.mv rfl<|.cm rfl rfl rfl<|.nil) rfl ?_;by_cases c13:(v5==0)=true
    ·replace h:=ab c13 h;refine .cl rfl c13 ?_;obtain⟨v14,e15,h⟩:=bind_some h;refine .region (.mv rfl<|.mv rfl<|.ll rfl rfl aF (af e15).1 (af e15).2<|.i6 rfl aM<|.ec rfl jU<|.aq rfl<|.nil) rfl (fun _ _ hs=>⟨(v14.length:Int),(sj h),hs.sub (.of rfl) trivial rfl rfl⟩)
    ·replace h:=aa c13 h;refine .cq rfl c13 ?_;refine .skip (fun _ _ hs=>⟨v4,(sj h),hs.sub (.of rfl) trivial rfl rfl⟩)
   ·rintro _ rfl
    try dsimp only
    obtain⟨v17,e18,h⟩:=bind_some h;refine .al (.mv rfl<|.mv rfl<|.ll rfl rfl aF (af e18).1 (af e18).2<|.i6 rfl aM<|.ec rfl jU<|.mv rfl<|.cm rfl rfl rfl<|.nil) rfl ?_;by_cases c19:((v17.length:Int) !=v16)=true
    ·replace h:=ab c19 h;refine .cl rfl c19 ?_;refine .al (.aq rfl<|.aq rfl<|.nil) rfl ?_;refine .aO (Hi:=[]) (Ho:=[]) (b:=b) (fn:=Go.Proofs.Tryz.f106) (d:=D.ig [D.int .i64 0,D.bool false]) (fun _ _ hb=>by exact⟨_,(sj h),fun e=>by subst e;have h:=ho2;cases h;have h:=ho1;cases h;exact hb⟩) rfl (.cons (.tmp rfl) (.t1 (.tmp rfl))) (.refl _) trivial trivial
    ·replace h:=aa c19 h;refine .cq rfl c19 ?_;refine .skip (Ok.on ?_);refine .region (.mv rfl<|.ar rfl rfl rfl<|.aq rfl<|.nil) rfl (fun _ _ hs=>⟨(v16,(IntKind.i64.wrap (v5+1))),(sj h),hs.sub (.of rfl) trivial rfl rfl⟩)
  ·replace h:=aa c10 h;refine .cq rfl c10 ?_;refine .exit (fun a w hs=>⟨_,(sj h),fun e=>by subst e;have h:=ho2;exact aS (⟨v4,(sj h),hs.sub (.of rfl) trivial rfl rfl⟩)⟩)
 ·rintro v23 rfl
  try dsimp only
  refine .al (.mv rfl<|.aq rfl<|.aq rfl<|.nil) rfl ?_;cases h;refine .aO (fun _ _ hb=>hb) rfl (.cons (.tmp rfl) (.t1 (.tmp rfl))) (.refl _) trivial trivial
def jy(a1:List (List Rat))(a2:List Rat)(v5:Int)(v6:List Rat):Option (St (Int×(List Rat)) (List Rat)):=(if(decide (v5<(a1.length:Int)))=true then(ix a1 v5).bind fun v12=>(nr v12 a2).bind fun v14=>cj ((v6.length+([v14]).length)*64<=140737488355328/\v6.length+([v14]).length<=9223372036854775807) (some (St.next ((IntKind.i64.wrap (v5+1)),(v6++[v14]))))else some (St.done v6))
def wx(a1:List (List Rat))(a2:List Rat):Option (List Rat):=((Loop (fun(s:Int×(List Rat))=>jy a1 a2 s.1 s.2) (0,[])).bind fun v17=>some (v17)).bind fun v18=>some v18
end
end Go.Am
namespace Go.Am
open Go.RowKit
set_option maxRecDepth 100000
noncomputable section
def kS(a1:List Rat)(a2:Int):Option Bool:=some ((a1.length:Int) !=a2)
theorem xb{a1:List Rat}{a2:Int}{r3:Bool}(h:kS a1 a2=some r3):bf PP 234 [(1,Hp.box 3 ([D.int .i64 a2]))] [ai ak.rat a1,D.ref 1 0] [(1,Hp.box 3 ([D.int .i64 a2]))] (D.bool r3):=by
 unfold kS at h;refine .of Go.Proofs.Tryz.func234 rfl (by kernel_rfl) rfl rfl rfl rfl rfl rfl (fun A w0 L b=>?_);show Ok PP _ [(0,ai ak.rat a1),(1,D.ref 1 0),(1000001,D.pinned 1 (b 1))] [(1,Hp.box 3 ([D.int .i64 a2]))] _ _;refine .al (.aq rfl<|.nil) rfl ?_;refine .al (.mv rfl<|.ec rfl bP<|.bu (D.int .i64 a2) rfl rfl dQ rfl<|.cm rfl rfl rfl<|.aq rfl<|.nil) rfl ?_;cases h;refine .aO (fun _ _ hb=>hb) rfl (.t1 (.tmp rfl)) (.refl _) (.of rfl) (.of rfl)
def eO(a1:List (List Rat))(a2:Int)(v5:Int):Option (St Int (Ex Unit Int)):=(if(decide (v5<(a1.length:Int)))=true then(ix a1 v5).bind fun v11=>(kS v11 a2).bind fun v13=>(if v13=true then some (St.done (Ex.ret v5))else some (St.next (IntKind.i64.wrap (v5+1))))else some (St.done (Ex.cd ())))
def iE(a1:List (List Rat))(a2:Int):Option Int:=((Loop (fun(s:Int)=>eO a1 a2 s) 0).bind fun o6=>(match o6 with|Ex.cd ()=>some (Ex.cd ())|Ex.ret r16=>some (Ex.ret r16))).bind fun o3=>(match o3 with|Ex.cd ()=>some (-1)|Ex.ret r17=>some r17)
theorem rz{a1:List (List Rat)}{a2:Int}{r18:Int}(h:iE a1 a2=some r18):bf PP 253 [(610,Hp.box 3 ([D.int .i64 a2]))] [ai (ak.slice ak.rat) a1,D.ry 234 [] [D.ref 610 0]] [(610,Hp.box 3 ([D.int .i64 a2]))] (D.int .i64 r18):=by
 unfold iE at h;refine .of Go.Proofs.Tryz.func253 rfl (by kernel_rfl) rfl rfl rfl rfl rfl rfl (fun A w0 L b=>?_);show Ok PP _ [(0,ai (ak.slice ak.rat) a1),(1,D.ry 234 [] [D.ref 610 0]),(1000610,D.pinned 610 (b 610))] [(610,Hp.box 3 ([D.int .i64 a2]))] _ _;refine .al (.aq rfl<|.nil) rfl ?_;obtain⟨o3,hp4,h⟩:=bind_some h;refine .cc (fun i=>o3=Ex.cd i) (fun(i:Unit)=>[(1000610,D.pinned 610 (b 610))]) (fun(i:Unit)=>[(610,Hp.box 3 ([D.int .i64 a2]))]) ?_ ?_
 ·have ho1:=h;have h:=hp4;refine .al (.mv rfl<|.ec rfl bA<|.mv rfl<|.nil) rfl ?_;obtain⟨o6,hl7,h⟩:=bind_some h;have ho2:=h;refine .block (.bU (fun(s:Int)=>[(0,ai (ak.slice ak.rat) a1),(1,D.ry 234 [] [D.ref 610 0]),(7,D.int .i64 (a1.length:Int)),(8,D.int .i64 s),(1000610,D.pinned 610 (b 610))]) (fun(s:Int)=>[(610,Hp.box 3 ([D.int .i64 a2]))]) hl7 (.of rfl) (.of rfl) rfl rfl ?_);rintro v5 st8 hb9;have h:eO a1 a2 v5=some st8:=hb9;unfold eO at h
  try dsimp only
  refine .al (.cm rfl rfl rfl<|.nil) rfl ?_;refine .sq ?_;by_cases c10:(decide (v5<(a1.length:Int)))=true
  ·replace h:=ab c10 h;refine .cl rfl c10 ?_;refine .skip (Ok.on ?_);refine .sq ?_;refine .block ?_;refine .al (.mv rfl<|.aq rfl<|.nil) rfl ?_;obtain⟨v11,e12,h⟩:=bind_some h;obtain⟨v13,e14,h⟩:=bind_some h;refine .al (.mv rfl<|.mv rfl<|.mv rfl<|.ll rfl rfl aA (af e12).1 (af e12).2<|.i6 rfl aC<|.HS (Hi:=[(610,Hp.box 3 ([D.int .i64 a2]))]) (d:=D.bool v13) (ds:=[ai ak.rat v11]) rfl (.zu (xb e14) (fun r=>match r with|1=>610|r=>r) (fun r=>match r with|610=>1|r=>r) rfl (.r rfl rfl trivial) rfl ⟨.refl rfl,.ref (r:=1),trivial⟩ (.r rfl rfl trivial) rfl (.refl rfl) rfl rfl rfl rfl rfl) ⟨rfl,trivial⟩ ⟨rfl,trivial⟩ rfl<|.nil) rfl ?_;by_cases c15:v13=true
   ·replace h:=ab c15 h;refine .cl rfl c15 ?_;refine .al (.mv rfl<|.aq rfl<|.nil) rfl ?_;refine .aO (Hi:=[(610,Hp.box 3 ([D.int .i64 a2]))]) (Ho:=[(610,Hp.box 3 ([D.int .i64 a2]))]) (b:=b) (fn:=Go.Proofs.Tryz.f253) (d:=D.int .i64 v5) (fun _ _ hb=>by exact⟨_,(sj h),fun e=>by subst e;have h:=ho2;cases h;have h:=ho1;cases h;exact hb⟩) rfl (.t1 (.tmp rfl)) (.refl _) (.of rfl) (.of rfl)
   ·replace h:=aa c15 h;refine .cq rfl c15 ?_;refine .skip (Ok.on ?_);refine .region (.ar rfl rfl rfl<|.mv rfl<|.nil) rfl (fun _ _ hs=>⟨(IntKind.i64.wrap (v5+1)),(sj h),hs.sub (.of rfl) (.of rfl) rfl rfl⟩)
  ·replace h:=aa c10 h;refine .cq rfl c10 ?_;refine .exit (fun a w hs=>⟨_,(sj h),fun e=>by subst e;have h:=ho2;exact aS (⟨(),(sj h),hs.sub (.of rfl) (.of rfl) rfl rfl⟩)⟩)
 ·rintro⟨⟩ rfl
  try dsimp only
  refine .al (.aq rfl<|.nil) rfl ?_;cases h;refine .aO (fun _ _ hb=>hb) rfl (.t1 (.tmp rfl)) (.refl _) (.of rfl) (.of rfl)
def fM(a1:List (List Rat))(a2:Int):Option Bool:=(iE a1 a2).bind fun v3=>some (decide (v3>=0))
theorem pb{a1:List (List Rat)}{a2:Int}{r5:Bool}(h:fM a1 a2=some r5):bf PP 233 [(610,Hp.box 3 ([D.int .i64 a2]))] [ai (ak.slice ak.rat) a1,D.ry 234 [] [D.ref 610 0]] [(610,Hp.box 3 ([D.int .i64 a2]))] (D.bool r5):=by
 unfold fM at h;refine .of Go.Proofs.Tryz.func233 rfl (by kernel_rfl) rfl rfl rfl rfl rfl rfl (fun A w0 L b=>?_);show Ok PP _ [(0,ai (ak.slice ak.rat) a1),(1,D.ry 234 [] [D.ref 610 0]),(1000610,D.pinned 610 (b 610))] [(610,Hp.box 3 ([D.int .i64 a2]))] _ _;refine .al (.aq rfl<|.nil) rfl ?_;obtain⟨v3,e4,h⟩:=bind_some h;refine .al (.mv rfl<|.mv rfl<|.DK (Hi:=[(610,Hp.box 3 ([D.int .i64 a2]))]) (d:=D.int .i64 v3) (ds:=[ai (ak.slice ak.rat) a1,D.ry 234 [] [D.ref 610 0]]) (.zu (rz e4) (fun r=>match r with|r=>r) (fun r=>match r with|r=>r) rfl (.r rfl rfl trivial) rfl ⟨.refl rfl,.ry trivial ⟨.ref (r:=610),trivial⟩,trivial⟩ (.r rfl rfl trivial) rfl (.refl rfl) rfl rfl rfl rfl rfl) ⟨rfl,rfl,trivial⟩ ⟨rfl,trivial⟩ rfl<|.cm rfl rfl rfl<|.aq rfl<|.nil) rfl ?_;cases h;refine .aO (fun _ _ hb=>hb) rfl (.t1 (.tmp rfl)) (.refl _) (.of rfl) (.of rfl)
def gl(a1:List (List Rat)):Option (Int×Int×Bool):=(if((a1.length:Int)==0)=true then some (0,0,true)else(ix a1 0).bind fun v3=>(fM a1 (v3.length:Int)).bind fun v5=>some ((a1.length:Int),(v3.length:Int),(!v5)))
theorem lj{a1:List (List Rat)}{r7:Int}{r8:Int}{r9:Bool}(h:gl a1=some (r7,r8,r9)):bf PP 194 [] [ai (ak.slice ak.rat) a1] [] (D.ig [D.int .i64 r7,D.int .i64 r8,D.bool r9]):=by
 unfold gl at h;refine .of Go.Proofs.Tryz.func194 rfl (by kernel_rfl) rfl rfl rfl rfl rfl rfl (fun A w0 L b=>?_);show Ok PP _ [(0,ai (ak.slice ak.rat) a1)] [] _ _;refine .al (.aq rfl<|.aq rfl<|.aq rfl<|.nil) rfl ?_;refine .sq ?_;refine .al (.mv rfl<|.ec rfl bA<|.cm rfl rfl rfl<|.nil) rfl ?_;by_cases c2:((a1.length:Int)==0)=true
 ·replace h:=ab c2 h;refine .cl rfl c2 ?_;refine .al (.aq rfl<|.aq rfl<|.aq rfl<|.nil) rfl ?_;cases h;refine .aO (fun _ _ hb=>hb) rfl (.cons (.tmp rfl) (.cons (.tmp rfl) (.t1 (.tmp rfl)))) (.refl _) trivial trivial
 ·replace h:=aa c2 h;refine .cq rfl c2 ?_;refine .skip (Ok.on ?_);obtain⟨v3,e4,h⟩:=bind_some h;refine .al (.mv rfl<|.ll rfl rfl aA (af e4).1 (af e4).2<|.i6 rfl aC<|.ec rfl bP<|.fN ([D.int .i64 0]) G_ ⟨.refl _,trivial⟩ rfl<|.Ad ([D.int .i64 (v3.length:Int)]) rfl rfl rfl dQ rfl rfl rfl<|.nil) rfl ?_;obtain⟨v5,e6,h⟩:=bind_some h;refine .cZ cf (.mv rfl<|.ec rfl bA<|.bu (D.int .i64 (v3.length:Int)) rfl rfl dQ rfl<|.mv rfl<|.J7 (fs:=[]) (cs:=[.tmp 5]) (l:=[]) (m:=[D.ref 5 0]) trivial ⟨rfl,trivial⟩<|.DK (Hi:=[(5,Hp.box 3 ([D.int .i64 (v3.length:Int)]))]) (d:=D.bool v5) (ds:=[ai (ak.slice ak.rat) a1,D.ry 234 [] [D.ref 5 0]]) (.zu (pb e6) (fun r=>match r with|610=>5|r=>r) (fun r=>match r with|5=>610|r=>r) rfl (.r rfl rfl trivial) rfl ⟨.refl rfl,.ry trivial ⟨.ref (r:=610),trivial⟩,trivial⟩ (.r rfl rfl trivial) rfl (.refl rfl) rfl rfl rfl rfl rfl) ⟨rfl,rfl,trivial⟩ ⟨rfl,trivial⟩ rfl<|.not rfl<|.aq rfl<|.aq rfl<|.aq rfl<|.nil) rfl (by kernel_rfl) ?_;cases h;refine .aO (fun _ _ hb=>hb) rfl (.cons (.tmp rfl) (.cons (.tmp rfl) (.t1 (.tmp rfl)))) (.refl _) trivial trivial
def jb(a1:List (List Rat))(a2:List Rat)(v11:Int)(v12:List Rat):Option (St (Int×(List Rat)) (List Rat)):=(if(decide (v11<(a1.length:Int)))=true then(ix a1 v11).bind fun v18=>(wa v18 a2).bind fun v20=>cj ((v12.length+([v20]).length)*56<=140737488355328/\v12.length+([v20]).length<=9223372036854775807) (some (St.next ((IntKind.i64.wrap (v11+1)),(v12++[v20]))))else some (St.done v12))
def qL(a1:List (List Rat))(a2:List Rat):Option ((List Rat)×Int):=(gl a1).bind fun(v3,v4,v5)=>(if(!v5)=true then some ([],2)else(if(v4 !=(a2.length:Int))=true then some ([],2)else((Loop (fun(s:Int×(List Rat))=>jb a1 a2 s.1 s.2) (0,[])).bind fun v23=>some (v23)).bind fun v24=>some (v24,0)))
theorem Fm{a1:List (List Rat)}{a2:List Rat}{r25:List Rat}{r26:Int}(h:qL a1 a2=some (r25,r26)):bf PP 108 [] [ai (ak.slice ak.rat) a1,ai ak.rat a2] [] (D.ig [ai ak.rat r25,D.int .i64 r26]):=by
 unfold qL at h;refine .of Go.Proofs.Tryz.func108 rfl (by kernel_rfl) rfl rfl rfl rfl rfl rfl (fun A w0 L b=>?_);show Ok PP _ [(0,ai (ak.slice ak.rat) a1),(1,ai ak.rat a2)] [] _ _;refine .al (.aq rfl<|.aq rfl<|.nil) rfl ?_;refine .sq ?_;obtain⟨⟨v3,v4,v5⟩,e6,h⟩:=bind_some h;refine .al (.mv rfl<|.ag (lj e6) ⟨rfl,trivial⟩ trivial trivial<|.mv rfl<|.ext rfl rfl<|.ext rfl rfl<|.ext rfl rfl<|.aq rfl<|.aq rfl<|.aq rfl<|.nil) rfl ?_;by_cases c7:(!v5)=true
 ·replace h:=ab c7 h;refine .al (.mv rfl<|.not rfl<|.mv rfl<|.gk c7<|.gk c7<|.gk c7<|.gk c7<|.aX rfl c7 rfl<|.nil) rfl ?_;refine .cl rfl rfl ?_;refine .al (.aq rfl<|.aq rfl<|.nil) rfl ?_;cases h;refine .aO (fun _ _ hb=>hb) rfl (.cons (.tmp rfl) (.t1 (.tmp rfl))) (.ig ⟨.jF _,.refl _,trivial⟩) trivial trivial
 ·replace h:=aa c7 h;refine .al (.mv rfl<|.not rfl<|.mv rfl<|.gz c7<|.mv rfl<|.gz c7<|.mv rfl<|.gz c7<|.ec rfl bP<|.gz c7<|.cm rfl rfl rfl<|.aT rfl c7 rfl<|.nil) rfl ?_;by_cases c8:(v4 !=(a2.length:Int))=true
  ·replace h:=ab c8 h;refine .cl rfl c8 ?_;refine .al (.aq rfl<|.aq rfl<|.nil) rfl ?_;cases h;refine .aO (fun _ _ hb=>hb) rfl (.cons (.tmp rfl) (.t1 (.tmp rfl))) (.ig ⟨.jF _,.refl _,trivial⟩) trivial trivial
  ·replace h:=aa c8 h;refine .cq rfl c8 ?_;refine .skip (Ok.on ?_);refine .al (.aq rfl<|.nil) rfl ?_;obtain⟨v24,hp10,h⟩:=bind_some h;refine .cc (fun i=>v24=i) (fun(i:(List Rat))=>[(9,D.own 2000009)]) (fun(i:(List Rat))=>[(2000009,aY ak.rat 28 i)]) ?_ ?_
   ·have ho1:=h;have h:=hp10;refine .al (.mv rfl<|.ec rfl bA<|.mv rfl<|.nil) rfl ?_;refine .jF ak.rat 9 2000009 28 rfl rfl ?_;obtain⟨o13,hl14,h⟩:=bind_some h;have ho2:=h;refine .block (.bU (fun(s:Int×(List Rat))=>[(1,ai ak.rat a2),(9,D.own 2000009),(26,ai (ak.slice ak.rat) a1),(27,D.int .i64 (a1.length:Int)),(28,D.int .i64 s.1)]) (fun(s:Int×(List Rat))=>[(2000009,aY ak.rat 28 s.2)]) hl14 (.of rfl) (.of rfl) rfl rfl ?_);rintro⟨v11,v12⟩ st15 hb16;have h:jb a1 a2 v11 v12=some st15:=hb16;unfold jb at h
    try dsimp only
    refine .al (.cm rfl rfl rfl<|.nil) rfl ?_;refine .sq ?_;by_cases c17:(decide (v11<(a1.length:Int)))=true
    ·replace h:=ab c17 h;refine .cl rfl c17 ?_;refine .skip (Ok.on ?_);refine .sq ?_;refine .block ?_;obtain⟨v18,e19,h⟩:=bind_some h;refine .al (.ll rfl rfl aA (af e19).1 (af e19).2<|.i6 rfl aC<|.aq rfl<|.nil) rfl ?_;refine .sl 9 rfl rfl rfl ?_;obtain⟨v20,e21,h⟩:=bind_some h;obtain⟨k22,h⟩:=av h;refine .region (.mv rfl<|.mv rfl<|.mv rfl<|.ag (I0 e21) ⟨rfl,rfl,trivial⟩ trivial trivial<|.Cx (e:=ak.rat) [v20] [(0,_,qD v20,qC (v20))] eX rfl rfl rfl ⟨rfl,rfl,.agg _,rfl,trivial⟩ ⟨rfl,trivial⟩ rfl rfl<|.Cg (ys:=[v20]) rfl .sl rfl (.refl _) rfl eX rfl k22.1 k22.2 rfl<|.aq rfl<|.nil) rfl (Ok.on ?_);refine .region (.ar rfl rfl rfl<|.mv rfl<|.nil) rfl (fun _ _ hs=>⟨((IntKind.i64.wrap (v11+1)),(v12++[v20])),(sj h),hs.kz (fun r=>match r with|2000009=>37|r=>r) (.r rfl rfl<|.p rfl (.own (r:=2000009))<|.r rfl rfl<|.r rfl rfl<|.r rfl rfl<|trivial) (.r rfl rfl trivial) rfl rfl rfl⟩)
    ·replace h:=aa c17 h;refine .cq rfl c17 ?_;refine .exit (fun a w hs=>⟨_,(sj h),fun e=>by subst e;have h:=ho2;exact aS (⟨v12,(sj h),hs.sub (.of rfl) (.of rfl) rfl rfl⟩)⟩)
   ·rintro _ rfl
    try dsimp only
    refine .sl 9 rfl rfl rfl ?_;refine .al (.mv rfl<|.aq rfl<|.aq rfl<|.nil) rfl ?_;refine .sQ 4 (.own 2000009) rfl .sl ?_;refine .mD 4 rfl rfl rfl ?_;cases h;refine .aO (fun _ _ hb=>hb) rfl (.cons (.tmp rfl) (.t1 (.tmp rfl))) (.refl _) trivial trivial
end
end Go.Am
namespace Go.Am
open Go.RowKit
set_option maxRecDepth 100000
noncomputable section
def jM(a1:List (List (Int×Int×Int)))(a2:Int)(v5:Int):Option (St Int (Ex Unit Bool)):=(if(decide (v5<(a1.length:Int)))=true then(if(decide (v5<=a2))=true then(ix a1 v5).bind fun v12=>(if(decide ((v12.length:Int)>a2))=true then some (St.done (Ex.ret false))else some (St.next (IntKind.i64.wrap (v5+1))))else some (St.done (Ex.cd ())))else some (St.done (Ex.cd ())))
def mz(a1:List (List (Int×Int×Int)))(a2:Int):Option Bool:=((Loop (fun(s:Int)=>jM a1 a2 s) 0).bind fun o6=>(match o6 with|Ex.cd ()=>some (Ex.cd ())|Ex.ret r15=>some (Ex.ret r15))).bind fun o3=>(match o3 with|Ex.cd ()=>some (decide ((a1.length:Int)<=a2))|Ex.ret r16=>some r16)
theorem B7{a1:List (List (Int×Int×Int))}{a2:Int}{r17:Bool}(h:mz a1 a2=some r17):bf PP 104 [] [ai (ak.slice (ak.prod (ak.int .i64) (ak.prod (ak.int .i64) (ak.int .u8)))) a1,D.int .i64 a2] [] (D.bool r17):=by
 unfold mz at h;refine .of Go.Proofs.Tryz.func104 rfl (by kernel_rfl) rfl rfl rfl rfl rfl rfl (fun A w0 L b=>?_);show Ok PP _ [(0,ai (ak.slice (ak.prod (ak.int .i64) (ak.prod (ak.int .i64) (ak.int .u8)))) a1),(1,D.int .i64 a2)] [] _ _;refine .al (.aq rfl<|.nil) rfl ?_;obtain⟨o3,hp4,h⟩:=bind_some h;refine .cc (fun i=>o3=Ex.cd i) (fun(i:Unit)=>[(0,ai (ak.slice (ak.prod (ak.int .i64) (ak.prod (ak.int .i64) (ak.int .u8)))) a1),(1,D.int .i64 a2)]) (fun(i:Unit)=>[]) ?_ ?_
 ·have ho1:=h;have h:=hp4;refine .al (.aq rfl<|.nil) rfl ?_;obtain⟨o6,hl7,h⟩:=bind_some h;have ho2:=h;refine .block (.bU (fun(s:Int)=>[(0,ai (ak.slice (ak.prod (ak.int .i64) (ak.prod (ak.int .i64) (ak.int .u8)))) a1),(1,D.int .i64 a2),(5,D.int .i64 s)]) (fun(s:Int)=>[]) hl7 (.of rfl) trivial rfl rfl ?_);rintro v5 st8 hb9;have h:jM a1 a2 v5=some st8:=hb9;unfold jM at h
  try dsimp only
  refine .sq ?_;by_cases c10:(decide (v5<(a1.length:Int)))=true
  ·replace h:=ab c10 h;refine .al (.mv rfl<|.mv rfl<|.ec rfl fL<|.cm rfl rfl rfl<|.mv rfl<|.gy c10<|.mv rfl<|.gy c10<|.mv rfl<|.gy c10<|.cm rfl rfl rfl<|.aX rfl c10 rfl<|.nil) rfl ?_;by_cases c11:(decide (v5<=a2))=true
   ·replace h:=ab c11 h;refine .cl rfl c11 ?_;refine .skip (Ok.on ?_);refine .sq ?_;refine .block ?_;obtain⟨v12,e13,h⟩:=bind_some h;refine .al (.mv rfl<|.mv rfl<|.ll rfl rfl kJ (af e13).1 (af e13).2<|.i6 rfl lX<|.ec rfl lA<|.mv rfl<|.cm rfl rfl rfl<|.nil) rfl ?_;by_cases c14:(decide ((v12.length:Int)>a2))=true
    ·replace h:=ab c14 h;refine .cl rfl c14 ?_;refine .al (.aq rfl<|.nil) rfl ?_;refine .aO (Hi:=[]) (Ho:=[]) (b:=b) (fn:=Go.Proofs.Tryz.f104) (d:=D.bool false) (fun _ _ hb=>by exact⟨_,(sj h),fun e=>by subst e;have h:=ho2;cases h;have h:=ho1;cases h;exact hb⟩) rfl (.t1 (.tmp rfl)) (.refl _) trivial trivial
    ·replace h:=aa c14 h;refine .cq rfl c14 ?_;refine .skip (Ok.on ?_);refine .region (.mv rfl<|.ar rfl rfl rfl<|.aq rfl<|.nil) rfl (fun _ _ hs=>⟨(IntKind.i64.wrap (v5+1)),(sj h),hs.sub (.of rfl) trivial rfl rfl⟩)
   ·replace h:=aa c11 h;refine .cq rfl c11 ?_;refine .exit (fun a w hs=>⟨_,(sj h),fun e=>by subst e;have h:=ho2;exact aS (⟨(),(sj h),hs.sub (.of rfl) trivial rfl rfl⟩)⟩)
  ·replace h:=aa c10 h;refine .al (.mv rfl<|.mv rfl<|.ec rfl fL<|.cm rfl rfl rfl<|.mv rfl<|.gm c10<|.gm c10<|.gm c10<|.aT rfl c10 rfl<|.nil) rfl ?_;refine .cq rfl (by decide) ?_;refine .exit (fun a w hs=>⟨_,(sj h),fun e=>by subst e;have h:=ho2;exact aS (⟨(),(sj h),hs.sub (.of rfl) trivial rfl rfl⟩)⟩)
 ·rintro⟨⟩ rfl
  try dsimp only
  refine .al (.mv rfl<|.ec rfl fL<|.mv rfl<|.cm rfl rfl rfl<|.aq rfl<|.nil) rfl ?_;cases h;refine .aO (fun _ _ hb=>hb) rfl (.t1 (.tmp rfl)) (.refl _) trivial trivial
def jc(a1:List (List (Int×Int×Int)))(v4:Int)(v5:List (List Rat))(v6:List (List Rat)):Option (St (Int×(List (List Rat))×(List (List Rat))) ((List (List Rat))×(List (List Rat)))):=(if(decide (v4<(a1.length:Int)))=true then(ix a1 v4).bind fun v12=>(nM v12).bind fun(v14,v15)=>cj ((v5.length+([v14]).length)*24<=140737488355328/\v5.length+([v14]).length<=9223372036854775807) (cj ((v6.length+([v15]).length)*24<=140737488355328/\v6.length+([v15]).length<=9223372036854775807) (some (St.next ((IntKind.i64.wrap (v4+1)),(v5++[v14]),(v6++[v15])))))else some (St.done (v5,v6)))
def qB(a1:List (List (Int×Int×Int))):Option ((List (List Rat))×(List (List Rat))):=((Loop (fun(s:Int×(List (List Rat))×(List (List Rat)))=>jc a1 s.1 s.2.1 s.2.2) (0,[],[])).bind fun(v19,v20)=>some ((v19,v20))).bind fun(v21,v22)=>some (v21,v22)
theorem Gf{a1:List (List (Int×Int×Int))}{r23:List (List Rat)}{r24:List (List Rat)}(h:qB a1=some (r23,r24)):bf PP 105 [] [ai (ak.slice (ak.prod (ak.int .i64) (ak.prod (ak.int .i64) (ak.int .u8)))) a1] [] (D.ig [ai (ak.slice ak.rat) r23,ai (ak.slice ak.rq) r24]):=by
 unfold qB at h;refine .of Go.Proofs.Tryz.func105 rfl (by kernel_rfl) rfl rfl rfl rfl rfl rfl (fun A w0 L b=>?_);show Ok PP _ [(0,ai (ak.slice (ak.prod (ak.int .i64) (ak.prod (ak.int .i64) (ak.int .u8)))) a1)] [] _ _;refine .al (.aq rfl<|.aq rfl<|.nil) rfl ?_;refine .al (.aq rfl<|.nil) rfl ?_;refine .al (.aq rfl<|.nil) rfl ?_;obtain⟨o2,hp3,h⟩:=bind_some h;refine .cc (fun i=>o2=i) (fun(i:(List (List Rat))×(List (List Rat)))=>[(4,D.own 2000004),(5,D.own 2000005)]) (fun(i:(List (List Rat))×(List (List Rat)))=>[(2000004,aY (ak.slice ak.rat) 68 i.1),(2000005,aY (ak.slice ak.rq) 69 i.2)]) ?_ ?_
 ·have ho1:=h;have h:=hp3;refine .al (.aq rfl<|.nil) rfl ?_;refine .jF (ak.slice ak.rat) 4 2000004 68 rfl rfl ?_;refine .jF (ak.slice ak.rq) 5 2000005 69 rfl rfl ?_;obtain⟨o7,hl8,h⟩:=bind_some h;have ho2:=h;refine .block (.bU (fun(s:Int×(List (List Rat))×(List (List Rat)))=>[(0,ai (ak.slice (ak.prod (ak.int .i64) (ak.prod (ak.int .i64) (ak.int .u8)))) a1),(4,D.own 2000004),(5,D.own 2000005),(6,D.int .i64 s.1)]) (fun(s:Int×(List (List Rat))×(List (List Rat)))=>[(2000004,aY (ak.slice ak.rat) 68 s.2.1),(2000005,aY (ak.slice ak.rq) 69 s.2.2)]) hl8 (.of rfl) (.of rfl) rfl rfl ?_);rintro⟨v4,v5,v6⟩ st9 hb10;have h:jc a1 v4 v5 v6=some st9:=hb10;unfold jc at h
  try dsimp only
  refine .sq ?_;refine .al (.mv rfl<|.mv rfl<|.ec rfl fL<|.cm rfl rfl rfl<|.nil) rfl ?_;by_cases c11:(decide (v4<(a1.length:Int)))=true
  ·replace h:=ab c11 h;refine .cl rfl c11 ?_;refine .skip (Ok.on ?_);refine .sq ?_;refine .block ?_;obtain⟨v12,e13,h⟩:=bind_some h;obtain⟨⟨v14,v15⟩,e16,h⟩:=bind_some h;refine .al (.mv rfl<|.mv rfl<|.ll rfl rfl kJ (af e13).1 (af e13).2<|.i6 rfl lX<|.ag (EC e16) ⟨rfl,trivial⟩ trivial trivial<|.mv rfl<|.ext rfl rfl<|.ext rfl rfl<|.aq rfl<|.aq rfl<|.nil) rfl ?_;refine .sl 4 rfl rfl rfl ?_;obtain⟨k17,h⟩:=av h;refine .al (.mv rfl<|.mv rfl<|.Cx (e:=(ak.slice ak.rat)) [v14] [(0,_,ai ak.rat v14,[ai ak.rat v14])] jt rfl rfl rfl ⟨rfl,rfl,.one rfl,rfl,trivial⟩ ⟨rfl,trivial⟩ rfl rfl<|.Cg (ys:=[v14]) rfl .sl rfl (.refl _) rfl jt rfl k17.1 k17.2 rfl<|.aq rfl<|.nil) rfl ?_;refine .sl 5 rfl rfl rfl ?_;obtain⟨k18,h⟩:=av h;refine .region (.mv rfl<|.mv rfl<|.Cx (e:=(ak.slice ak.rq)) [v15] [(0,_,ai ak.rq v15,[ai ak.rq v15])] cM rfl rfl rfl ⟨rfl,rfl,.one rfl,rfl,trivial⟩ ⟨rfl,trivial⟩ rfl rfl<|.Cg (ys:=[v15]) rfl .sl rfl (.refl _) rfl cM rfl k18.1 k18.2 rfl<|.aq rfl<|.nil) rfl (Ok.on ?_);refine .region (.mv rfl<|.ar rfl rfl rfl<|.aq rfl<|.nil) rfl (fun _ _ hs=>⟨((IntKind.i64.wrap (v4+1)),(v5++[v14]),(v6++[v15])),(sj h),hs.kz (fun r=>match r with|2000004=>26|2000005=>30|r=>r) (.r rfl rfl<|.p rfl (.own (r:=2000004))<|.p rfl (.own (r:=2000005))<|.r rfl rfl<|trivial) (.r rfl rfl<|.r rfl rfl<|trivial) rfl rfl rfl⟩)
  ·replace h:=aa c11 h;refine .cq rfl c11 ?_;refine .exit (fun a w hs=>⟨_,(sj h),fun e=>by subst e;have h:=ho2;exact aS (⟨(v5,v6),(sj h),hs.sub (.of rfl) (.of rfl) rfl rfl⟩)⟩)
 ·rintro⟨v21,v22⟩ rfl
  try dsimp only
  refine .sl 4 rfl rfl rfl ?_;refine .sl 5 rfl rfl rfl ?_;refine .al (.mv rfl<|.mv rfl<|.aq rfl<|.aq rfl<|.nil) rfl ?_;refine .sQ 2 (.own 2000004) rfl .sl ?_;refine .mD 2 rfl rfl rfl ?_;refine .sQ 3 (.own 2000005) rfl .sl ?_;refine .mD 3 rfl rfl rfl ?_;cases h;refine .aO (fun _ _ hb=>hb) rfl (.cons (.tmp rfl) (.t1 (.tmp rfl))) (.refl _) trivial trivial
def fp(a1:List (List Rat))(a2:List (List Rat))(v6:Int):Option (St Int (Ex Unit Bool)):=(if(decide (v6<(a1.length:Int)))=true then(ix a1 v6).bind fun v12=>(ix a2 v6).bind fun v14=>(mI v12 v14).bind fun v16=>(if(!v16)=true then some (St.done (Ex.ret false))else some (St.next (IntKind.i64.wrap (v6+1))))else some (St.done (Ex.cd ())))
def gG(a1:List (List Rat))(a2:List (List Rat)):Option Bool:=(if((a1.length:Int) !=(a2.length:Int))=true then some false else((Loop (fun(s:Int)=>fp a1 a2 s) 0).bind fun o7=>(match o7 with|Ex.cd ()=>some (Ex.cd ())|Ex.ret r19=>some (Ex.ret r19))).bind fun o4=>(match o4 with|Ex.cd ()=>some true|Ex.ret r20=>some r20))
theorem qZ{a1:List (List Rat)}{a2:List (List Rat)}{r21:Bool}(h:gG a1 a2=some r21):bf PP 110 [] [ai (ak.slice ak.rat) a1,ai (ak.slice ak.rq) a2] [] (D.bool r21):=by
 unfold gG at h;refine .of Go.Proofs.Tryz.func110 rfl (by kernel_rfl) rfl rfl rfl rfl rfl rfl (fun A w0 L b=>?_);show Ok PP _ [(0,ai (ak.slice ak.rat) a1),(1,ai (ak.slice ak.rq) a2)] [] _ _;refine .al (.aq rfl<|.nil) rfl ?_;refine .sq ?_;refine .al (.mv rfl<|.ec rfl bA<|.mv rfl<|.ec rfl aJ<|.cm rfl rfl rfl<|.nil) rfl ?_;by_cases c3:((a1.length:Int) !=(a2.length:Int))=true
 ·replace h:=ab c3 h;refine .cl rfl c3 ?_;refine .al (.aq rfl<|.nil) rfl ?_;cases h;refine .aO (fun _ _ hb=>hb) rfl (.t1 (.tmp rfl)) (.refl _) trivial trivial
 ·replace h:=aa c3 h;refine .cq rfl c3 ?_;refine .skip (Ok.on ?_);obtain⟨o4,hp5,h⟩:=bind_some h;refine .cc (fun i=>o4=Ex.cd i) (fun(i:Unit)=>[]) (fun(i:Unit)=>[]) ?_ ?_
  ·have ho1:=h;have h:=hp5;refine .al (.aq rfl<|.nil) rfl ?_;obtain⟨o7,hl8,h⟩:=bind_some h;have ho2:=h;refine .block (.bU (fun(s:Int)=>[(0,ai (ak.slice ak.rat) a1),(1,ai (ak.slice ak.rq) a2),(5,D.int .i64 s)]) (fun(s:Int)=>[]) hl8 (.of rfl) trivial rfl rfl ?_);rintro v6 st9 hb10;have h:fp a1 a2 v6=some st9:=hb10;unfold fp at h
   try dsimp only
   refine .sq ?_;refine .al (.mv rfl<|.mv rfl<|.ec rfl bA<|.cm rfl rfl rfl<|.nil) rfl ?_;by_cases c11:(decide (v6<(a1.length:Int)))=true
   ·replace h:=ab c11 h;refine .cl rfl c11 ?_;refine .skip (Ok.on ?_);refine .sq ?_;refine .block ?_;obtain⟨v12,e13,h⟩:=bind_some h;obtain⟨v14,e15,h⟩:=bind_some h;obtain⟨v16,e17,h⟩:=bind_some h;refine .cZ cf (.mv rfl<|.mv rfl<|.ll rfl rfl aA (af e13).1 (af e13).2<|.i6 rfl aC<|.mv rfl<|.mv rfl<|.ll rfl rfl aF (af e15).1 (af e15).2<|.i6 rfl aM<|.ag (Co e17) ⟨rfl,rfl,trivial⟩ trivial trivial<|.not rfl<|.nil) rfl (by kernel_rfl) ?_;by_cases c18:(!v16)=true
    ·replace h:=ab c18 h;refine .cl rfl c18 ?_;refine .al (.aq rfl<|.nil) rfl ?_;refine .aO (Hi:=[]) (Ho:=[]) (b:=b) (fn:=Go.Proofs.Tryz.f110) (d:=D.bool false) (fun _ _ hb=>by exact⟨_,(sj h),fun e=>by subst e;have h:=ho2;cases h;have h:=ho1;cases h;exact hb⟩) rfl (.t1 (.tmp rfl)) (.refl _) trivial trivial
    ·replace h:=aa c18 h;refine .cq rfl c18 ?_;refine .skip (Ok.on ?_);refine .region (.mv rfl<|.ar rfl rfl rfl<|.aq rfl<|.nil) rfl (fun _ _ hs=>⟨(IntKind.i64.wrap (v6+1)),(sj h),hs.sub (.of rfl) trivial rfl rfl⟩)
   ·replace h:=aa c11 h;refine .cq rfl c11 ?_;refine .exit (fun a w hs=>⟨_,(sj h),fun e=>by subst e;have h:=ho2;exact aS (⟨(),(sj h),hs.sub trivial trivial rfl rfl⟩)⟩)
  ·rintro⟨⟩ rfl
   try dsimp only
   refine .al (.aq rfl<|.nil) rfl ?_;cases h;refine .aO (fun _ _ hb=>hb) rfl (.t1 (.tmp rfl)) (.refl _) trivial trivial
end
end Go.Am
namespace Go.Am
theorem fz{σ ρ:Type}{body:Int×σ->Option (St (Int×σ) ρ)}(n:Nat)(F:Nat->σ)(r:ρ)(hb:∀i,i<n->body ((i:Int),F i)=some (.next (((i+1:Nat):Int),F (i+1))))(he:body ((n:Int),F n)=some (.done r)):Loop body ((0:Int),F 0)=some r:=by
 obtain⟨r',hr,rfl⟩:=cx (body:=body) ((0:Int),F 0) (fun s=>∃i:Nat,i<=n/\s=((i:Int),F i)) (fun s=>(n-s.1).toNat) (fun r'=>r'=r) ⟨0,Nat.zero_le _,rfl⟩ (by
  rintro s ⟨i,hi,rfl⟩;by_cases hlt:i<n
  ·left
   exact⟨_,hb i hlt,⟨i+1,hlt,rfl⟩,by simp only;omega⟩
  ·right
   have:i=n:=by omega
   subst this;exact⟨_,he,rfl⟩)
 exact hr
theorem xQ{ρ:Type}{body:Int->Option (St Int ρ)}(n:Nat)(r:ρ)(hb:∀i:Nat,i<n->body (i:Int)=some (.next ((i+1:Nat):Int)))(he:body (n:Int)=some (.done r)):Loop body (0:Int)=some r:=by
 obtain⟨r',hr,rfl⟩:=cx (body:=body) (0:Int) (fun s=>∃i:Nat,i<=n/\s=(i:Int)) (fun s=>(n-s).toNat) (fun r'=>r'=r) ⟨0,Nat.zero_le _,rfl⟩ (by
  rintro s ⟨i,hi,rfl⟩;by_cases hlt:i<n
  ·left
   exact⟨_,hb i hlt,⟨i+1,hlt,rfl⟩,by omega⟩
  ·right
   have:i=n:=by omega
   subst this;exact⟨_,he,rfl⟩)
 exact hr
def az(n m:Nat)(f:Nat->Nat->Rat):List (List Rat):=(List.range n).map fun k=>(List.range m).map (f k)
theorem aP{n m:Nat}{f:Nat->Nat->Rat}:(az n m f).length=n:=by simp[az]
theorem bp{n m:Nat}{f:Nat->Nat->Rat}{k:Nat}(h:k<n):ix (az n m f) (k:Int)=some ((List.range m).map (f k)):=by
 rw[fU (by rw[aP];exact h)];simp[az]
theorem cy{m:Nat}{g:Nat->Rat}{j:Nat}(h:j<m):ix ((List.range m).map g) (j:Int)=some (g j):=by
 rw[fU (by simpa using h)];simp
theorem cD{n m:Nat}{f g:Nat->Nat->Rat}(h:∀k j,k<n->j<m->f k j=g k j):az n m f=az n m g:=by
 unfold az;apply List.map_congr_left;intro k hk;apply List.map_congr_left;intro j hj;exact h k j (by simpa using hk) (by simpa using hj)
theorem ue{n m:Nat}{f:Nat->Nat->Rat}{k j:Nat}{v:Rat}:(az n m f).set ((k:Int).toNat) (((List.range m).map (f k)).set ((j:Int).toNat) v)=az n m (fun k' j'=>if k'=k/\j'=j then v else f k' j'):=by
 rw[Int.toNat_natCast,Int.toNat_natCast];apply List.ext_getElem
 ·simp[az]
 ·intro a h1 h2;rw[List.length_set,aP]at h1;by_cases ha:a=k
  ·subst ha;rw[List.getElem_set_self];simp only[az,List.getElem_map,List.getElem_range];apply List.ext_getElem
   ·simp
   ·intro b h3 h4;by_cases hb:b=j
    ·subst hb;rw[List.getElem_set_self];simp
    ·rw[List.getElem_set_ne (Ne.symm hb)];simp[hb]
  ·rw[List.getElem_set_ne (Ne.symm ha)];simp only[az,List.getElem_map,List.getElem_range];apply List.map_congr_left;intro b _;simp[ha]
def gE(M:List (List Rat)):Nat:=(M.getD 0 []).length
def right(M:List (List Rat)):Bool:=M.all fun r=>r.length==gE M
def nB(M:List (List Rat))(i j:Nat):Rat:=(M.getD i []).getD j 0
def bd(M:List (List Rat))(b:Nat):Prop:=∀r∈M,∀x∈r,sz x<=b
theorem oL{M:List (List Rat)}(h:right M=true){i:Nat}(hi:i<M.length):(M[i]).length=gE M:=by
 unfold right at h;rw[List.all_eq_true]at h;simpa using h M[i] (List.getElem_mem hi)
theorem zg{M:List (List Rat)}{b:Nat}(h:bd M b)(hb:1<=b)(i j:Nat):sz (nB M i j)<=b:=by
 unfold nB;by_cases hi:i<M.length
 ·rw[h_ hi];by_cases hj:j<(M[i]).length
  ·rw[h_ hj];exact h _ (List.getElem_mem hi) _ (List.getElem_mem hj)
  ·rw[kM (by omega)];exact Nat.le_trans (by decide) hb
 ·have e:M.getD i []=[]:=kM (by omega);rw[e];exact Nat.le_trans (show sz (([]:List Rat).getD j 0)<=1 by rw[kM (by simp)];decide) hb
theorem xZ{M:List (List Rat)}(h:0<M.length):gE M=(M[0]).length:=by unfold gE;rw[h_ h]
theorem vW{M:List (List Rat)}{i:Nat}(hi:i<M.length)(h:(M[i]).length≠gE M):right M=false:=by
 cases hq:right M with
 |false=>rfl
 |true=>exact absurd (oL hq hi) h
theorem uK{M:List (List Rat)}(h:∀i (hi:i<M.length),(M[i]).length=gE M):right M=true:=by
 unfold right;rw[List.all_eq_true];intro r hr;obtain⟨i,hi,rfl⟩:=List.getElem_of_mem hr;simpa using h i hi
theorem yw(M:List (List Rat))(hM:M.length<=30):ld M=some (if right M then((gE M:Int),true)else(0,false)):=by
 obtain⟨r,hr,hp⟩:=cx (body:=fun(s:Int×Int)=>jx M s.1 s.2) (0,0) (fun s=>∃i:Nat,i<=M.length/\s=((if i=0 then 0 else(gE M:Int)),(i:Int))/\∀k (hk:k<M.length),k<i->(M[k]).length=gE M) (fun s=>(M.length-s.2).toNat)
  (fun r=>(right M=false/\r=Ex.ret (0,false))\/(right M=true/\r=Ex.cd (gE M:Int))) ⟨0,Nat.zero_le _,rfl,fun k _ hk=>by omega⟩ (by
  rintro s ⟨i,hi,rfl,hall⟩;simp only;unfold jx;by_cases hlt:i<M.length
  ·rw[if_pos (decide_eq_true (by omega)),fU hlt];have hc:=xZ (M:=M) (by omega);have e:(if((i:Int)==0)=true then(some M[i]).bind fun v14=>some ((v14.length:Int))else some (if i=0 then 0 else(gE M:Int)))=some (gE M:Int):=by
    by_cases h0:i=0
    ·subst h0;simp[hc]
    ·rw[if_neg (by simpa using h0),if_neg h0]
   rw[e];simp only[Option.bind_some];by_cases hq:(M[i]).length=gE M
   ·left
    rw[hq,if_neg (by simp)];refine⟨_,rfl,⟨i+1,hlt,?_,fun k hk hki=>?_⟩,by simp only;rw[cI hlt (by omega)];omega⟩
    ·rw[cI hlt (by omega)];simp
    ·by_cases e:k=i
     ·subst e;exact hq
     ·exact hall k hk (by omega)
   ·right
    rw[if_pos (by simp;omega)];exact⟨_,rfl,.inl ⟨vW hlt hq,rfl⟩⟩
  ·right
   rw[if_neg (by simp;omega)];have hil:i=M.length:=by omega
   refine⟨_,rfl,.inr ⟨uK (fun k hk=>hall k hk (by omega)),?_⟩⟩;by_cases h0:i=0
   ·rw[if_pos h0];have:gE M=0:=by unfold gE;rw[kM (by omega)];rfl
    rw[this];rfl
   ·rw[if_neg h0])
 unfold ld;rw[hr];rcases hp with⟨h1,rfl⟩|⟨h1,rfl⟩<;>rw[h1]<;>rfl
theorem kO(M:List (List Rat))(hM:M.length<=30):gl M=some ((M.length:Int),(gE M:Int),right M):=by
 unfold gl;by_cases h0:M=[]
 ·subst h0;rfl
 have hl:0<M.length:=List.length_pos_iff.2 h0;rw[if_neg (by simpa using h0)];have e0:ix M 0=some M[0]:=fU (n:=0) hl;rw[e0];simp only[Option.bind_some];obtain⟨r,hr,hp⟩:=cx (body:=fun(s:Int)=>eO M ((M[0]).length:Int) s) 0 (fun s=>∃i:Nat,i<=M.length/\s=(i:Int)/\∀k (hk:k<M.length),k<i->(M[k]).length=gE M) (fun s=>(M.length-s).toNat)
  (fun r=>(right M=false/\∃j:Int,0<=j/\r=Ex.ret j)\/(right M=true/\r=Ex.cd ())) ⟨0,Nat.zero_le _,rfl,fun k _ hk=>by omega⟩ (by
  rintro s ⟨i,hi,rfl,hall⟩;unfold eO kS;by_cases hlt:i<M.length
  ·rw[if_pos (decide_eq_true (by omega)),fU hlt,←xZ hl];simp only[Option.bind_some];by_cases hq:(M[i]).length=gE M
   ·left
    rw[hq,if_neg (by simp)];refine⟨_,rfl,⟨i+1,hlt,cI hlt (by omega),fun k hk hki=>?_⟩,by rw[cI hlt (by omega)];omega⟩;by_cases e:k=i
    ·subst e;exact hq
    ·exact hall k hk (by omega)
   ·right
    rw[if_pos (by simp;omega)];exact⟨_,rfl,.inl ⟨vW hlt hq,_,by omega,rfl⟩⟩
  ·right
   rw[if_neg (by simp;omega)];exact⟨_,rfl,.inr ⟨uK (fun k hk=>hall k hk (by omega)),rfl⟩⟩)
 unfold fM iE;rw[hr,←xZ hl];rcases hp with⟨h1,j,hj,rfl⟩|⟨h1,rfl⟩
 ·rw[h1];have:decide (j>=0)=true:=decide_eq_true hj;simp only[Option.bind_some,this]
  rfl
 ·rw[h1];rfl
def iO(g h:Nat->Rat):Nat->Rat
 |0=>0
 |j+1=>iO g h j+g j*h j
theorem sT{g h:Nat->Rat}{b:Nat}(hg:∀j,sz (g j)<=b)(hh:∀j,sz (h j)<=b):∀n,sz (iO g h n)<=1+n*(2*b+2)
 |0=>by
  have:sz (0:Rat)<=1:=by decide
  show sz (0:Rat)<=_;omega
 |n+1=>by
  have h1:=sT hg hh n;have h2:=kC (iO g h n) (g n*h n);have h3:=gW (g n) (h n);have h4:=hg n;have h5:=hh n;unfold iO;rw[Nat.succ_mul];omega
theorem Hn{a c:List Rat}{b:Nat}(hl:a.length<=30)(hc:a.length<=c.length)(ha:∀j,sz (a.getD j 0)<=b)(hh:∀j,sz (c.getD j 0)<=b)(hb:b<=1000000):wa a c=some (iO (fun j=>a.getD j 0) (fun j=>c.getD j 0) a.length)/\nr a c=some (iO (fun j=>a.getD j 0) (fun j=>c.getD j 0) a.length):=by
 have key:∀i:Nat,i<a.length->jq a c (i:Int) (iO (fun j=>a.getD j 0) (fun j=>c.getD j 0) i)=some (.next (((i+1:Nat):Int),iO (fun j=>a.getD j 0) (fun j=>c.getD j 0) (i+1))):=by
  intro i hi;unfold jq;rw[if_pos (decide_eq_true (by omega)),Jx a 0 i hi,Jx c 0 i (by omega),cI hi (by omega)]
  haveI:Bd (a.getD i 0) 1000000:=⟨Nat.le_trans (ha i) hb⟩
  haveI:Bd (c.getD i 0) 1000000:=⟨Nat.le_trans (hh i) hb⟩
  haveI:Bd (iO (fun j=>a.getD j 0) (fun j=>c.getD j 0) i) 100000000:=⟨by
   have:=sT (g:=fun j=>a.getD j 0) (h:=fun j=>c.getD j 0) ha hh i;have h2:i*(2*b+2)<=30*(2*1000000+2):=Nat.mul_le_mul (by omega) (by omega);omega⟩
  simp only[Option.bind_some,Ih,H_,Nat.reduceAdd,Nat.reduceLeDiff]
  rfl
 have he:jq a c (a.length:Int) (iO (fun j=>a.getD j 0) (fun j=>c.getD j 0) a.length)=some (.done (iO (fun j=>a.getD j 0) (fun j=>c.getD j 0) a.length)):=by
  unfold jq;rw[if_neg (by simp)]
 have hL:=fz (body:=fun(s:Int×Rat)=>jq a c s.1 s.2) a.length (iO (fun j=>a.getD j 0) (fun j=>c.getD j 0)) _ key he
 constructor
 ·unfold wa;have:Loop (fun(s:Int×Rat)=>jq a c s.1 s.2) (0,0)=some (iO (fun j=>a.getD j 0) (fun j=>c.getD j 0) a.length):=hL;rw[this];rfl
 ·unfold nr;have:Loop (fun(s:Int×Rat)=>pd a c s.1 s.2) (0,0)=some (iO (fun j=>a.getD j 0) (fun j=>c.getD j 0) a.length):=hL;rw[this];rfl
end Go.Am
namespace Go.Am
theorem q_{k m:Nat}{f:Nat->Nat->Rat}:az (k+1) m f=az k m f++[(List.range m).map (f k)]:=by
 unfold az;rw[List.range_succ,List.map_append];rfl
theorem yZ{m:Nat}{g:Nat->Rat}:(List.range (m+1)).map g=(List.range m).map g++[g m]:=by
 rw[List.range_succ,List.map_append];rfl
theorem GF{r:List Rat}:r=(List.range r.length).map fun j=>r.getD j 0:=by
 apply List.ext_getElem
 ·simp
 ·intro j h1 h2;simp[List.getD,h1]
theorem FP{M:List (List Rat)}(h:right M=true):M=az M.length (gE M) (nB M):=by
 apply List.ext_getElem
 ·rw[aP]
 ·intro i h1 h2;simp only[az,List.getElem_map,List.getElem_range];rw[←oL h h1]
  conv=>lhs;rw[GF (r:=M[i])]
  apply List.map_congr_left;intro j _;unfold nB;rw[h_ h1]
theorem EF{M:List (List Rat)}{i:Nat}(hi:i<M.length):ix M (i:Int)=some M[i]:=fU hi
variable {M:List (List Rat)}
end Go.Am
namespace Go.Am
open Go.RowKit
set_option maxRecDepth 100000
noncomputable section
end
end Go.Am
namespace Go.Am
variable {M N:List (List Rat)}
theorem E_{b:Nat}(h:bd M b)(hb:1<=b){i:Nat}(hi:i<M.length)(j:Nat):sz (M[i].getD j 0)<=b:=by
 have:=zg h hb i j;unfold nB at this
 rwa [h_ hi]at this
theorem FG{n m b:Nat}{f:Nat->Nat->Rat}(h:∀k j,sz (f k j)<=b):bd (az n m f) b:=by
 intro r hr x hx;unfold az at hr;obtain⟨k,_,rfl⟩:=List.mem_map.1 hr;obtain⟨j,_,rfl⟩:=List.mem_map.1 hx;exact h k j
theorem Eg{v:List Rat}{b:Nat}(h:right M=true)(hl:M.length<=30)(hc:gE M=v.length)(hv:v.length<=30)(hb:bd M b)(hvb:∀j,sz (v.getD j 0)<=b)(hb1:1<=b)(hb2:b<=1000000):
  qL M v=some ((List.range M.length).map (fun i=>iO (fun j=>nB M i j) (fun j=>v.getD j 0) (gE M)),0)/\wx M v=some ((List.range M.length).map (fun i=>iO (fun j=>nB M i j) (fun j=>v.getD j 0) (gE M))):=by
 have hd:∀(i:Nat) (hi:i<M.length),wa M[i] v=some (iO (fun j=>nB M i j) (fun j=>v.getD j 0) (gE M))/\nr M[i] v=some (iO (fun j=>nB M i j) (fun j=>v.getD j 0) (gE M)):=by
  intro i hi;have hr:=oL h hi;have:=Hn (a:=M[i]) (c:=v) (b:=b) (by omega) (by omega) (E_ hb hb1 hi) hvb hb2;rw[hr]at this;have e:(fun j=>M[i].getD j 0)=fun j=>nB M i j:=by funext j;unfold nB;rw[h_ hi]
  rw[e]at this;exact this
 constructor
 ·unfold qL;rw[kO M hl,h];simp only[Option.bind_some,Bool.not_true,Bool.false_eq_true,if_false];rw[if_neg (by simp[hc])];have hL:=fz (body:=fun(s:Int×(List Rat))=>jb M v s.1 s.2) M.length (fun i=>(List.range i).map (fun i=>iO (fun j=>nB M i j) (fun j=>v.getD j 0) (gE M))) ((List.range M.length).map (fun i=>iO (fun j=>nB M i j) (fun j=>v.getD j 0) (gE M))) (fun i hi=>by
    unfold jb;rw[if_pos (decide_eq_true (by omega)),EF hi];simp only[Option.bind_some];rw[(hd i hi).1];simp only[Option.bind_some];rw[aQ (by simp only[List.length_map,List.length_range,List.length_singleton];omega),cI hi (by omega),yZ]) (by
    unfold jb;rw[if_neg (by simp)])
  have:Loop (fun(s:Int×(List Rat))=>jb M v s.1 s.2) (0,[])=_:=hL;rw[this];rfl
 ·unfold wx;have hL:=fz (body:=fun(s:Int×(List Rat))=>jy M v s.1 s.2) M.length (fun i=>(List.range i).map (fun i=>iO (fun j=>nB M i j) (fun j=>v.getD j 0) (gE M))) ((List.range M.length).map (fun i=>iO (fun j=>nB M i j) (fun j=>v.getD j 0) (gE M))) (fun i hi=>by
    unfold jy;rw[if_pos (decide_eq_true (by omega)),EF hi];simp only[Option.bind_some];rw[(hd i hi).2];simp only[Option.bind_some];rw[aQ (by simp only[List.length_map,List.length_range,List.length_singleton];omega),cI hi (by omega),yZ]) (by
    unfold jy;rw[if_neg (by simp)])
  have:Loop (fun(s:Int×(List Rat))=>jy M v s.1 s.2) (0,[])=_:=hL;rw[this];rfl
def small(x:List (List (Int×Int×Int)))(n:Nat):Bool:=decide (x.length<=n)&&x.all fun r=>decide (r.length<=n)
theorem uJ{x:List (List (Int×Int×Int))}{n:Nat}(h:small x n=true):x.length<=n/\∀r∈x,r.length<=n:=by
 unfold small at h;rw[Bool.and_eq_true,List.all_eq_true]at h;exact⟨by simpa using h.1,fun r hr=>by simpa using h.2 r hr⟩
theorem CT(x:List (List (Int×Int×Int)))(n:Nat)(hn:n<=30):mz x (n:Int)=some (small x n):=by
 obtain⟨r,hr,hp⟩:=cx (body:=fun(s:Int)=>jM x (n:Int) s) 0 (fun s=>∃i:Nat,i<=x.length/\i<=n+1/\s=(i:Int)/\∀k (hk:k<x.length),k<i->(x[k]).length<=n) (fun s=>(x.length-s).toNat)
  (fun r=>(small x n=false/\r=Ex.ret false)\/((small x n=true\/n<x.length)/\r=Ex.cd ())) ⟨0,Nat.zero_le _,Nat.zero_le _,rfl,fun k _ hk=>by omega⟩ (by
  rintro s ⟨i,hi,du,rfl,hall⟩;unfold jM;by_cases hlt:i<x.length
  ·rw[if_pos (decide_eq_true (by omega))];by_cases hn2:i<=n
   ·rw[if_pos (decide_eq_true (by omega)),fU hlt];simp only[Option.bind_some];by_cases hq:(x[i]).length>n
    ·right
     rw[if_pos (decide_eq_true (by omega))];refine⟨_,rfl,.inl ⟨?_,rfl⟩⟩
     cases hs:small x n with
     |false=>rfl
     |true=>have:=(uJ hs).2 x[i] (List.getElem_mem hlt);omega
    ·left
     rw[if_neg (by rw[decide_eq_true_eq];omega)];have hw:IntKind.i64.wrap ((i:Int)+1)=((i+1:Nat):Int):=by rw[i64_in (by omega)];omega
     rw[hw];refine⟨_,rfl,⟨i+1,hlt,by omega,rfl,fun k hk hki=>?_⟩,by omega⟩;by_cases e:k=i
     ·subst e;omega
     ·exact hall k hk (by omega)
   ·right
    rw[if_neg (by rw[decide_eq_true_eq];omega)];exact⟨_,rfl,.inr ⟨.inr (by omega),rfl⟩⟩
  ·right
   rw[if_neg (by rw[decide_eq_true_eq];omega)];refine⟨_,rfl,.inr ⟨?_,rfl⟩⟩;by_cases hxn:n<x.length
   ·exact .inr hxn
   ·left
    unfold small;rw[Bool.and_eq_true,List.all_eq_true];refine⟨decide_eq_true (by omega),fun r hr=>?_⟩;obtain⟨k,hk,rfl⟩:=List.getElem_of_mem hr;exact decide_eq_true (hall k hk (by omega)))
 unfold mz;rw[hr];rcases hp with⟨h1,rfl⟩|⟨h1,rfl⟩
 ·rw[h1];rfl
 ·rcases h1 with h1|h1
  ·have:=(uJ h1).1;simp only[Option.bind_some,h1];rw[decide_eq_true (by omega)]
  ·have h2:small x n=false:=by
    unfold small;rw[decide_eq_false (by omega),Bool.false_and]
   simp only[Option.bind_some,h2];rw[decide_eq_false (by omega)]
def A_(x:List (List (Int×Int×Int))):Prop:=∀r∈x,∀e∈r,vZ e
theorem H7(x:List (List (Int×Int×Int)))(h:A_ x)(hl:x.length<=30)(hr:∀r∈x,r.length<=30):qB x=some (x.map eh,x.map eh):=by
 have hL:=fz (body:=fun(s:Int×(List (List Rat))×(List (List Rat)))=>jc x s.1 s.2.1 s.2.2) x.length (fun i=>((x.map eh).take i,(x.map eh).take i)) (x.map eh,x.map eh) (fun i hi=>by
   unfold jc;rw[if_pos (decide_eq_true (by omega)),fU hi];simp only[Option.bind_some];rw[Fi _ (h _ (List.getElem_mem hi)) (hr _ (List.getElem_mem hi))];simp only[Option.bind_some];have ht:((x.map eh).take i).length=i:=by simp;omega
   rw[aQ (by rw[ht];simp only[List.length_singleton];omega),aQ (by rw[ht];simp only[List.length_singleton];omega),cI hi (by omega)];have e:(x.map eh).take (i+1)=(x.map eh).take i++[eh x[i]]:=by
    rw[List.take_succ_eq_append_getElem (by simpa using hi)];simp
   rw[e]) (by
   unfold jc;rw[if_neg (by simp)];have e:(x.map eh).take x.length=x.map eh:=by rw[List.take_of_length_le];simp
   rw[e])
 unfold qB;have:Loop (fun(s:Int×(List (List Rat))×(List (List Rat)))=>jc x s.1 s.2.1 s.2.2) (0,[],[])=some (x.map eh,x.map eh):=hL;rw[this];rfl
theorem CX{x:List (List (Int×Int×Int))}(h:A_ x):bd (x.map eh) 256:=by
 intro r hr q hq;obtain⟨r',hr',rfl⟩:=List.mem_map.1 hr;obtain⟨j,hj,rfl⟩:=List.getElem_of_mem hq;have:=Du (h r' hr') j
 rwa [h_ hj]at this
theorem Dm(l:List Rat)(hl:l.length<=30)(h:∀q∈l,sz q<=400000000000):mI l l=some true:=by
 unfold mI;rw[if_neg (by simp)];have hL:=xQ (body:=fun(s:Int)=>iJ l l s) l.length (Ex.cd ()) (fun i hi=>by
  unfold iJ;rw[if_pos (decide_eq_true (by omega)),fU hi];simp only[Option.bind_some];rw[wm (h _ (List.getElem_mem hi))];simp only[Option.bind_some,Bool.not_true,Bool.false_eq_true,if_false];rw[cI hi (by omega)]) (by
  unfold iJ;rw[if_neg (by simp)])
 rw[hL];rfl
theorem x8(M:List (List Rat))(hl:M.length<=30)(hr:∀r∈M,r.length<=30)(h:bd M 400000000000):gG M M=some true:=by
 unfold gG;rw[if_neg (by simp)];have hL:=xQ (body:=fun(s:Int)=>fp M M s) M.length (Ex.cd ()) (fun i hi=>by
  unfold fp;rw[if_pos (decide_eq_true (by omega)),fU hi];simp only[Option.bind_some];rw[Dm _ (hr _ (List.getElem_mem hi)) (h _ (List.getElem_mem hi))];simp only[Option.bind_some,Bool.not_true,Bool.false_eq_true,if_false];rw[cI hi (by omega)]) (by
  unfold fp;rw[if_neg (by simp)])
 rw[hL];rfl
theorem mR{n m:Nat}{f:Nat->Nat->Rat}{r:List Rat}(h:r∈az n m f):r.length=m:=by
 unfold az at h;obtain⟨k,_,rfl⟩:=List.mem_map.1 h;simp
end Go.Am
namespace Go.Am
open Go.RowKit
section
variable {P:Program} {os:List Oper} {c:Ctx} {T T':List (Nat×D)} {H H':List (Nat×Hp)} {sps:List Spec}
variable {ops:Array Oper} {dst:Option Nat} {ty:TypeId} {pos:String} {aft:Array Edge}
variable {α:Type} {e:ak α} {te tr:TypeId} {r s:Nat} {M X:List (List α)}
theorem an.ud{t:TypeId}{x y:Operand}{m:Nat}{k:IntKind}{z:Int}(hx:ev T x=some (.own r))(hy:ev T y=some (.int k z))(hh:ah H r=some (.cb e te s []))(hk:ah H s=some (.store e tr M))(ht:sle P t=some m)(h0:0<=z)(h1:z<M.length)
  (hr:an P ops c os (bw T dst (.ref r (z.toNat*m))) H sps T' H'):
  an P ops c (⟨dst,.indexAddr t x y,ty,pos,aft,none⟩::os) T H (GX [(x,.own r),(y,.int k z)] r (.cb e te s []) s (.store e tr M) (.ref r (z.toNat*m))::sps) T' H':=
 .Ir rfl (two hx hy) hh hk (fun r' hr'=>.inl (by simpa [D.ref]using hr')) (fun ε w S a F F' ha h1' h2'=>by
  have h2:a.eval x=ε r:=(ha (x,.own r) (by simp)).1;have h3:a.eval y=.int k z:=ha (y,.int k z) (by simp);obtain⟨A,cap,hb,hA⟩:=s9 (n:=M.length) (by decide) (by simp[bX]) (l_ h1' h2');have hA':=hA (by omega);subst hA';refine⟨.pointer (some ⟨j6 (ε r),z.toNat*m,none⟩),?_,rfl⟩;generalize j6 (ε r)=g at hb;simp only[execOp,h2,hb,h3,Sem.run_bind,ji ht g 0 M.length cap k z h0 h1 w,Result.andThen_ok,Nat.zero_add]
  rfl) hr
theorem an.Hl{t:TypeId}{x:Operand}(hx:ev T x=some (.own r))(hh:ah H r=some (.cb e te s []))(hk:ah H s=some (.store e tr M))(ht:isSlice P t=true)(hr:an P ops c os (bw T dst (.int .i64 M.length)) H sps T' H'):
  an P ops c (⟨dst,.call {callee:=.builtin .len,args:=#[x],argTypes:=#[t]},ty,pos,aft,none⟩::os) T H (GX [(x,.own r)] r (.cb e te s []) s (.store e tr M) (.int .i64 M.length)::sps) T' H':=
 .Ir rfl (by simpa using hx) hh hk (fun r' hr'=>by cases hr') (fun ε w S a F F' ha h1' h2'=>by
  have h2:a.eval x=ε r:=(ha (x,.own r) (by simp)).1;obtain⟨A,cap,hb,_⟩:=s9 (n:=M.length) (by decide) (by simp[bX]) (l_ h1' h2');exact⟨_,jW a w (by rw[h2,hb];exact qj ht _ _ cap w),rfl⟩) hr
theorem A3{q r:Nat}{x:Hp}{H:List (Nat×Hp)}(h:Nat.beq q r=false):ah ((r,x)::H) q=ah H q:=by
 show(match Nat.beq q r with|true=>some x|false=>ah H q)=ah H q;rw[h]
theorem Ok.JK{x:Code}{Q:Exit->Act->World->Prop}(r s s2:Nat)(hh:ah H r=some (.cb e te s []))(hk:ah H s=some (.store e tr M))(hf:ah H s2=none)(hne:Nat.beq r s=false)
  (h:Ok P c T ((r,.cb e te s2 [])::(s2,.store e tr M)::(s,.dead)::H) x Q):Ok P c T H x Q:=by
 intro a w ⟨ε,φ,hs⟩;have hrow:=l_ (hs.h r _ hh) (hs.h s _ hk);rw[List.map_nil,List.append_nil]at hrow;have hT:=hs.tell (y:=.eP 1 te ((List.range M.length).map (D.mr s))) hh hrow (fun q hq=>by rw[CG hq,hk];simp);have hT':Sat c (aW T) (ah ((r,.eP 1 te ((List.range M.length).map (D.mr s)))::H)) a w:=Sat.ext ⟨ε,φ,hT⟩ (fun _=>rfl) (fun q=>by rw[bC];rfl);have hrs:Nat.beq s r=false:=by
  cases hb:Nat.beq s r with
  |false=>rfl
  |true=>rw[Nat.eq_of_beq_eq_true hb]at hne;simp at hne
 have hr2:Nat.beq s2 r=false:=by
  cases hb:Nat.beq s2 r with
  |false=>rfl
  |true=>rw[Nat.eq_of_beq_eq_true hb]at hf;rw[hf]at hh;cases hh
 refine Ok.Hb (H:=(r,.eP 1 te ((List.range M.length).map (D.mr s)))::H) (r:=r) (s:=s) (te:=te) (js:=List.range M.length) (e:=e) (tr:=tr) (M:=M) (M2:=M) s2 (by simp[ah]) (by rw[A3 hrs];exact hk) (by rw[A3 hr2];exact hf) hne List.nodup_range (by simp) (fun i j hj=>?_) (fun a w hs=>h a w (Sat.ext hs (fun _=>rfl) (fun q=>?_))) a w hT'
 ·have hi:=(List.getElem?_eq_some_iff.1 hj).1;simp only[List.length_range]at hi;rw[List.getElem?_range hi]at hj;injection hj with hj;subst hj;exact⟨rfl,hi⟩
 ·simp only[ah];cases Nat.beq q r<;>cases Nat.beq q s2<;>cases Nat.beq q s<;>rfl
theorem an.J0{t:TypeId}{z:Int}{m:Nat}{x:Operand}{xs:List α}(hz:z=(M.length:Int))(hX:X[0]?=some xs)(h:ev T x=some (.ref r (z.toNat*m)))(hh:ah H r=some (.cb e te s X))(hk:ah H s=some (.store e tr M))(hm:m=1)(ht:lay P t=some none)
  (hr:an P ops c os (bw T dst (ai e xs)) H sps T' H'):an P ops c (⟨dst,.load t x,ty,pos,aft,none⟩::os) T H (GX [(x,.ref r (z.toNat*m))] r (.cb e te s X) s (.store e tr M) (ai e xs)::sps) T' H':=
 .KS (by omega) (by rw[show z.toNat-M.length=0 by omega];exact hX) h hh hk hm ht hr
theorem an.Jm{t:TypeId}{x y:Operand}{r1 s2 m:Nat}{z:Int}{x0 xs:List α}(hz:z=(M.length:Int))(hX:X[0]?=some x0)(h:ev T x=some (.ref r (z.toNat*m)))(hy:ev T y=some (.own r1))(hh:ah H r=some (.cb e te s X))(hk:ah H s=some (.store e tr M))(h1:ah H r1=some (aY e tr xs))(hf:ah H s2=none)
  (hne:r≠s/\r≠r1/\s≠r1)(hm:m=1)(ht:lay P t=some none)
  (hr:an P ops c os (bw T dst .any) ((r,.cb e te s2 X.tail)::(s2,.store e tr (M++[xs]))::(s,.dead)::(r1,.dead)::H) sps T' H'):
  an P ops c (⟨dst,.store t x y,ty,pos,aft,none⟩::os) T H (CO x (.ref r (z.toNat*m)) y (.own r1) [(r,.cb e te s X),(s,.store e tr M),(r1,aY e tr xs)] [(r,.cb e te s2 X.tail),(s2,.store e tr (M++[xs])),(s,.dead),(r1,.dead)] [s2]::sps) T' H':=by
 cases X with
 |nil=>simp at hX
 |cons y0 X=>exact .J1 (x0:=y0) (by omega) h hy hh hk h1 hf hne hm ht hr
end
end Go.Am
namespace Go.Am
open Go.RowKit
section
variable {P:Program} {os:List Oper} {c:Ctx} {T T':List (Nat×D)} {H H':List (Nat×Hp)} {sps:List Spec}
variable {ops:Array Oper} {dst:Option Nat} {ty:TypeId} {pos:String} {aft:Array Edge}
theorem an.JN{α:Type}{e:ak α}{t te:TypeId}{x y:Operand}{r r' m bt:Nat}{ys:List α}{z:List D}{dy:D}(hx:ev T x=some .nil)(hy:ev T y=some dy)(hdy:Le dy (ai e ys))(hm:nF P t=some (te,m,bt,z))(hmn:m=e.n)
  (hb:ys.length*bt<=140737488355328)(hmax:ys.length<=9223372036854775807)(hf:ah H r=none)(hf':ah H r'=none)(hne:r≠r')
  (hr:an P ops c os ((r,.own r)::T) ((r',.dead)::(r,aY e te ys)::H) sps T' H'):
  an P ops c (⟨some r,.call {callee:=.builtin .append,args:=#[x,y],argTypes:=#[t,t]},ty,pos,aft,none⟩::os) T H
   ({ins:=eQ x .nil++eQ y dy,du:=[],out:=.own r,dC:=[(r',.dead),(r,aY e te ys)],news:=[r,r']}::sps) T' H':=by
 subst hmn;refine .cons (sp:={ins:=eQ x .nil++eQ y dy,du:=[],out:=.own r,dC:=[(r',.dead),(r,aY e te ys)],news:=[r,r']}) ?_ (bb.2 ⟨(ay hx).1,(ay hy).1⟩) trivial ⟨hf,hf',trivial⟩ hr;intro hd T0 H0 hi _ hnew a w ⟨ε,φ,hs⟩ Q K hK;rw[if_pos (bm rfl _)];obtain⟨hi1,hi2⟩:=bb.1 hi;obtain⟨hn1,hn2,_⟩:=hnew;have h1:a.eval x=.slice none 0 0:=(hs.ev hi1 (ay hx).2).1;have hN:=hs.lF (x:=.row e.n te [] rfl) (b:=.slice none 0 0) (F:=noBlocks) (r:=r') hn2 (Below.refl _ _) (fun k hk=>hk.elim) (.inl ⟨rfl,rfl,rfl⟩) (fun q hq=>by cases hq);have hr1:bq H0 [(r',Hp.row e.n te [] rfl)] r'=some (.row e.n te [] rfl):=by rw[bJ,au]
 have hr0:bq H0 [(r',Hp.row e.n te [] rfl)] r=none:=by rw[bJ,aK _ _ hne];exact hn1
 obtain⟨A,cap2,h2,_,hln,hA⟩:=hdy.1 _ _ _ _ (hN.ev hi2 (ay hy).2).1;obtain⟨vs,hvA,hv1,hv⟩:=xw hln hA;obtain⟨v',w',ε',φ',hrun,hS,ev',ho⟩:=hN.app (P:=P) (ty:=ty) hm (r:=r) (n1:=0) (l2:=flat e ys) (l:=flat e ys) (hl:=dK e ys) hr1 hr0 (by simp) hln (dK e ys) rfl hvA hv1 hv (by rw[Nat.zero_add];exact hb) (by omega) (cap2:=cap2);have hrun':(Builtin.append_ #[t,t] ty #[a.eval x,a.eval y]).run P w=.ok v' w':=by rw[h1,h2];rw[au]at hrun;exact hrun
 simp only[Oper.wp,lO a w w' hrun',Oper.upon];have e1:bq (bq H0 [(r',Hp.row e.n te [] rfl)]) [(r',.dead),(r,.row e.n te (flat e ys) (dK e ys))]=bq H0 [(r',.dead),(r,aY e te ys)]:=oF (by simp[ah]);have hS2:cP c T0 (bq H0 [(r',.dead),(r,aY e te ys)]) a w' ε' φ':=by rw[←e1];exact hS
 refine hK _ _ ⟨ε',φ',hS2.put (d:=.own r) (dq hd) ⟨ev'.symm,ho⟩ (fun q hq=>?_)⟩;have:q=r:=by simpa [D.own]using hq
 subst this;rw[fO,aK _ _ hne,au];simp
end
end Go.Am
namespace Go.Am
open Go.RowKit
set_option maxRecDepth 100000
noncomputable section
def fG(a1:List (List Rat))(v4:Int)(v5:List (List Rat)):Option (St (Int×(List (List Rat))) (List (List Rat))):=(if(decide (v4<(a1.length:Int)))=true then(ix a1 v4).bind fun v11=>cj (v11.length*64<=140737488355328/\v11.length<=9223372036854775807) (cj ((v5.length+1)*24<=140737488355328/\v5.length+1<=9223372036854775807) (some (St.next ((IntKind.i64.wrap (v4+1)),(v5++[v11])))))else some (St.done v5))
def j3(a1:List (List Rat)):Option (List (List Rat)):=((Loop (fun(s:Int×(List (List Rat)))=>fG a1 s.1 s.2) (0,([]:List (List Rat)))).bind fun v15=>some (v15)).bind fun v16=>some v16
theorem uw{a1:List (List Rat)}{r17:List (List Rat)}(h:j3 a1=some r17):bf PP 206 [] [ai (ak.slice ak.rq) a1] [(2000003,Hp.cb ak.rq 69 4000003 ([])),(4000003,Hp.store ak.rq 37 r17)] (D.own 2000003):=by
 unfold j3 at h;refine .of Go.Proofs.Tryz.func206 rfl (by kernel_rfl) rfl rfl rfl rfl rfl rfl (fun A w0 L b=>?_);show Ok PP _ [(0,ai (ak.slice ak.rq) a1)] [] _ _;refine .al (.aq rfl<|.nil) rfl ?_;refine .al (.aq rfl<|.nil) rfl ?_;obtain⟨v16,hp3,h⟩:=bind_some h;refine .cc (fun i=>v16=i) (fun(i:(List (List Rat)))=>[(3,D.own 2000003)]) (fun(i:(List (List Rat)))=>[(2000003,Hp.cb ak.rq 69 4000003 ([])),(4000003,Hp.store ak.rq 37 i)]) ?_ ?_
 ·have ho1:=h;have h:=hp3;refine .al (.aq rfl<|.nil) rfl ?_;refine .Fe ak.rq 3 2000003 4000003 69 37 rfl rfl rfl rfl ?_;obtain⟨o6,hl7,h⟩:=bind_some h;have ho2:=h;refine .block (.bU (fun(s:Int×(List (List Rat)))=>[(0,ai (ak.slice ak.rq) a1),(3,D.own 2000003),(4,D.int .i64 s.1)]) (fun(s:Int×(List (List Rat)))=>[(2000003,Hp.cb ak.rq 69 4000003 ([])),(4000003,Hp.store ak.rq 37 s.2)]) hl7 (.of rfl) (.of rfl) rfl rfl ?_);rintro⟨v4,v5⟩ st8 hb9;have h:fG a1 v4 v5=some st8:=hb9;unfold fG at h
  try dsimp only
  refine .sq ?_;refine .al (.mv rfl<|.mv rfl<|.ec rfl aJ<|.cm rfl rfl rfl<|.nil) rfl ?_;by_cases c10:(decide (v4<(a1.length:Int)))=true
  ·replace h:=ab c10 h;refine .cl rfl c10 ?_;refine .skip (Ok.on ?_);refine .sq ?_;refine .block ?_;refine .fH 3 rfl rfl rfl ?_;obtain⟨v11,e12,h⟩:=bind_some h;obtain⟨k13,h⟩:=av h;obtain⟨k14,h⟩:=av h;refine .region (.mv rfl<|.mv rfl<|.mv rfl<|.ll rfl rfl aF (af e12).1 (af e12).2<|.i6 rfl aM<|.JN (r':=5000016) (e:=ak.rq) (ys:=v11) rfl rfl (.refl _) dG rfl k13.1 k13.2 rfl rfl (by decide)<|.Jw rfl cM rfl<|.Jo (s2:=3000018) rfl .sl rfl rfl rfl rfl rfl cM k14.1 k14.2 rfl rfl ⟨by decide,by decide,by decide,by decide,by decide,by decide,by decide⟩<|.aq rfl<|.nil) rfl (Ok.on ?_);refine .region (.mv rfl<|.ar rfl rfl rfl<|.aq rfl<|.nil) rfl (fun _ _ hs=>⟨((IntKind.i64.wrap (v4+1)),(v5++[v11])),(sj h),hs.kz (fun r=>match r with|2000003=>18|4000003=>3000018|r=>r) (.r rfl rfl<|.p rfl (.own (r:=2000003))<|.r rfl rfl<|trivial) (.p rfl (.cb (s:=4000003))<|.r rfl rfl<|trivial) rfl rfl rfl⟩)
  ·replace h:=aa c10 h;refine .cq rfl c10 ?_;refine .exit (fun a w hs=>⟨_,(sj h),fun e=>by subst e;have h:=ho2;exact aS (⟨v5,(sj h),hs.sub (.of rfl) (.of rfl) rfl rfl⟩)⟩)
 ·rintro _ rfl
  try dsimp only
  refine .fH 3 rfl rfl rfl ?_;refine .al (.mv rfl<|.aq rfl<|.nil) rfl ?_;refine .sQ 2 (.own 2000003) rfl .sl ?_;cases h;refine .aO (fun _ _ hb=>hb) rfl (.t1 (.tmp rfl)) (.refl _) trivial (.of rfl)
def dH(v9:Int)(v10:List (List Rat))(v20:Int):Option (St Int Int):=(if(decide (v20<(v10.length:Int)))=true then(ix v10 v20).bind fun v26=>(ix v26 v9).bind fun v28=>(cW v28).bind fun v30=>(if(v30==0)=true then some (St.next (IntKind.i64.wrap (v20+1)))else some (St.done v20))else some (St.done v20))
def l8(v4:Int)(v11:List Int)(v49:Rat)(v53:Int)(v54:List (List Rat)):Option (St (Int×(List (List Rat))) (List (List Rat))):=(if(decide (v53<v4))=true then(ix v54 (v11.length:Int)).bind fun v60=>(ix v54 (v11.length:Int)).bind fun v62=>(ix v62 v53).bind fun v64=>(fh v64 v49).bind fun v66=>(ix v60 v53).bind fun v68=>some (St.next ((IntKind.i64.wrap (v53+1)),(v54.set (v11.length:Int).toNat (v60.set v53.toNat v66))))else some (St.done v54))
def l9(v4:Int)(v11:List Int)(v74:Int)(v85:Rat)(v91:Int)(v92:List (List Rat)):Option (St (Int×(List (List Rat))) (List (List Rat))):=(if(decide (v91<v4))=true then(ix v92 v74).bind fun v98=>(ix v92 v74).bind fun v100=>(ix v100 v91).bind fun v102=>(ix v92 (v11.length:Int)).bind fun v104=>(ix v104 v91).bind fun v106=>(fh v85 v106).bind fun v108=>(ks v102 v108).bind fun v110=>(ix v98 v91).bind fun v112=>some (St.next ((IntKind.i64.wrap (v91+1)),(v92.set v74.toNat (v98.set v91.toNat v110))))else some (St.done v92))
def fX(v4:Int)(v9:Int)(v11:List Int)(v74:Int)(v75:List (List Rat)):Option (St (Int×(List (List Rat))) (List (List Rat))):=(if(decide (v74<(v75.length:Int)))=true then((ix v75 v74).bind fun v83=>(ix v83 v9).bind fun v85=>(if(v74==(v11.length:Int))=true then some (v75)else(cW v85).bind fun v88=>(if(v88==0)=true then some (v75)else(Loop (fun(s:Int×(List (List Rat)))=>l9 v4 v11 v74 v85 s.1 s.2) (0,v75)).bind fun v114=>some (v114)))).bind fun v115=>some (St.next ((IntKind.i64.wrap (v74+1)),v115))else some (St.done v75))
def cR(v4:Int)(v9:Int)(v10:List (List Rat))(v11:List Int):Option (St (Int×(List (List Rat))×(List Int)) ((List (List Rat))×(List Int))):=(if(decide (v9<v4))=true then(if(decide ((v11.length:Int)<(v10.length:Int)))=true then((Loop (fun(s:Int)=>dH v9 v10 s) (v11.length:Int)).bind fun v33=>(if(v33==(v10.length:Int))=true then some ((v10,v11))else(ix v10 v33).bind fun v35=>(ix v10 (v11.length:Int)).bind fun v37=>(ix v10 (v11.length:Int)).bind fun v39=>(ix v10 v33).bind fun v41=>(fY 1).bind fun v43=>(ix ((v10.set (v11.length:Int).toNat v35).set v33.toNat v39) (v11.length:Int)).bind fun v45=>(ix v45 v9).bind fun v47=>(fV v43 v47).bind fun v49=>((Loop (fun(s:Int×(List (List Rat)))=>l8 v4 v11 v49 s.1 s.2) (0,((v10.set (v11.length:Int).toNat v35).set v33.toNat v39))).bind fun v70=>some (v70)).bind fun v71=>((Loop (fun(s:Int×(List (List Rat)))=>fX v4 v9 v11 s.1 s.2) (0,v71)).bind fun v116=>some (v116)).bind fun v117=>cj ((v11.length+([v9]).length)*8<=140737488355328/\v11.length+([v9]).length<=9223372036854775807) (some ((v117,(v11++[v9])))))).bind fun(v119,v120)=>some (St.next ((IntKind.i64.wrap (v9+1)),v119,v120))else some (St.done (v10,v11)))else some (St.done (v10,v11)))
def oq(a1:List (List Rat)):Option ((List (List Rat))×(List Int)):=(j3 a1).bind fun v2=>(ld v2).bind fun(v4,v5)=>((Loop (fun(s:Int×(List (List Rat))×(List Int))=>cR v4 s.1 s.2.1 s.2.2) (0,v2,([]:List Int))).bind fun(v121,v122)=>some ((v121,v122))).bind fun(v123,v124)=>some (v123,v124)
theorem Eh{a1:List (List Rat)}{r125:List (List Rat)}{r126:List Int}(h:oq a1=some (r125,r126)):bf PP 127 [] [ai (ak.slice ak.rq) a1] [] (D.ig [ai (ak.slice ak.rq) r125,ai (ak.int .i64) r126]):=by
 unfold oq at h;refine .of Go.Proofs.Tryz.func127 rfl (by kernel_rfl) rfl rfl rfl rfl rfl rfl (fun A w0 L b=>?_);show Ok PP _ [(0,ai (ak.slice ak.rq) a1)] [] _ _;refine .al (.aq rfl<|.aq rfl<|.nil) rfl ?_;obtain⟨v2,e3,h⟩:=bind_some h;refine .al (.mv rfl<|.ag (Hi:=[]) (Ho:=[(17,Hp.cb ak.rq 69 3000017 ([])),(3000017,Hp.store ak.rq 37 v2)]) (d:=D.own 17) (ds:=[ai (ak.slice ak.rq) a1]) (.zu (uw e3) (fun r=>match r with|2000003=>17|4000003=>3000017|r=>r) (fun r=>match r with|17=>2000003|3000017=>4000003|r=>r) rfl trivial rfl ⟨.refl rfl,trivial⟩ (.p rfl (.cb (s:=3000017))<|.r rfl rfl<|trivial) rfl (.own (r:=17)) rfl rfl rfl rfl rfl) ⟨rfl,trivial⟩ trivial ⟨rfl,rfl,trivial⟩<|.aq rfl<|.nil) rfl ?_;refine .fH 4 rfl rfl rfl ?_;obtain⟨⟨v4,v5⟩,e6,h⟩:=bind_some h;refine .al (.mv rfl<|.CY (ds0:=[D.sl 17 v2.length]) [(17,Hp.cb ak.rq 69 3000017 ([])),(3000017,Hp.store ak.rq 37 v2)] (wv e6) ⟨rfl,trivial⟩ ⟨rfl,rfl,trivial⟩ ⟨(.cb .sl rfl rfl rfl),trivial⟩ (.ig ⟨.int,.bool,trivial⟩) rfl<|.mv rfl<|.ext rfl rfl<|.ext rfl rfl<|.aq rfl<|.aq rfl<|.nil) rfl ?_;refine .al (.aq rfl<|.nil) rfl ?_;obtain⟨o7,hp8,h⟩:=bind_some h;refine .cc (fun i=>o7=i) (fun(i:(List (List Rat))×(List Int))=>[(4,D.own 17),(7,D.own 2000007)]) (fun(i:(List (List Rat))×(List Int))=>[(17,Hp.cb ak.rq 69 3000017 ([])),(3000017,Hp.store ak.rq 37 i.1),(2000007,aY (ak.int .i64) 3 i.2)]) ?_ ?_
 ·have ho1:=h;have h:=hp8;refine .al (.aq rfl<|.nil) rfl ?_;refine .jF (ak.int .i64) 7 2000007 3 rfl rfl ?_;obtain⟨o12,hl13,h⟩:=bind_some h;have ho2:=h;refine .block (.bU (fun(s:Int×(List (List Rat))×(List Int))=>[(4,D.own 17),(5,D.int .i64 v4),(7,D.own 2000007),(8,D.int .i64 s.1)]) (fun(s:Int×(List (List Rat))×(List Int))=>[(17,Hp.cb ak.rq 69 3000017 ([])),(3000017,Hp.store ak.rq 37 s.2.1),(2000007,aY (ak.int .i64) 3 s.2.2)]) hl13 (.p rfl .sl<|.k rfl<|.k rfl<|.k rfl<|trivial) (.of rfl) rfl rfl ?_);rintro⟨v9,v10,v11⟩ st14 hb15;have h:cR v4 v9 v10 v11=some st14:=hb15;unfold cR at h
  try dsimp only
  refine .sq ?_;refine .fH 4 rfl rfl rfl ?_;refine .sl 7 rfl rfl rfl ?_;by_cases c16:(decide (v9<v4))=true
  ·replace h:=ab c16 h;refine .al (.mv rfl<|.mv rfl<|.cm rfl rfl rfl<|.mv rfl<|.gy c16<|.mv rfl<|.gy c16<|.uW rfl bK<|.gy c16<|.mv rfl<|.gy c16<|.uW rfl aJ<|.gy c16<|.cm rfl rfl rfl<|.aX rfl c16 rfl<|.nil) rfl ?_;by_cases c17:(decide ((v11.length:Int)<(v10.length:Int)))=true
   ·replace h:=ab c17 h;refine .cl rfl c17 ?_;refine .skip (Ok.on ?_);obtain⟨o18,hp19,h⟩:=bind_some h;refine .cc (fun i=>o18=i) (fun(i:(List (List Rat))×(List Int))=>[(4,D.own 17),(5,D.int .i64 v4),(7,D.own 2000007),(8,D.int .i64 v9)]) (fun(i:(List (List Rat))×(List Int))=>[(17,Hp.cb ak.rq 69 3000017 ([])),(3000017,Hp.store ak.rq 37 i.1),(2000007,aY (ak.int .i64) 3 i.2)]) ?_ ?_
    ·have ho3:=h;have h:=hp19;refine .block ?_;refine .al (.mv rfl<|.uW rfl bK<|.aq rfl<|.nil) rfl ?_;refine .al (.mv rfl<|.aq rfl<|.nil) rfl ?_;obtain⟨v33,hl22,h⟩:=bind_some h;refine .cc (fun i=>v33=i) (fun(i:Int)=>[(4,D.own 17),(5,D.int .i64 v4),(7,D.own 2000007),(8,D.int .i64 v9),(9,D.int .i64 (v11.length:Int)),(10,D.int .i64 i)]) (fun(i:Int)=>[(17,Hp.cb ak.rq 69 3000017 ([])),(3000017,Hp.store ak.rq 37 v10),(2000007,aY (ak.int .i64) 3 v11)]) ?_ ?_
     ·have ho4:=h;refine .block (.bU (fun(s:Int)=>[(4,D.own 17),(5,D.int .i64 v4),(7,D.own 2000007),(8,D.int .i64 v9),(9,D.int .i64 (v11.length:Int)),(10,D.int .i64 s)]) (fun(s:Int)=>[(17,Hp.cb ak.rq 69 3000017 ([])),(3000017,Hp.store ak.rq 37 v10),(2000007,aY (ak.int .i64) 3 v11)]) hl22 (.p rfl .sl<|.k rfl<|.p rfl .sl<|.k rfl<|.k rfl<|.k rfl<|trivial) (.of rfl) rfl rfl ?_);rintro v20 st23 hb24;have h:dH v9 v10 v20=some st23:=hb24;unfold dH at h
      try dsimp only
      refine .sq ?_;refine .fH 4 rfl rfl rfl ?_;by_cases c25:(decide (v20<(v10.length:Int)))=true
      ·replace h:=ab c25 h;obtain⟨v26,e27,h⟩:=bind_some h;obtain⟨v28,e29,h⟩:=bind_some h;obtain⟨v30,e31,h⟩:=bind_some h;refine .al (.mv rfl<|.mv rfl<|.uW rfl aJ<|.cm rfl rfl rfl<|.mv rfl<|.gy c25<|.mv rfl<|.gy c25<|.mv rfl<|.gy c25<|.ic rfl rfl aF (af e27).1 (by have:=dE e27;simpa using this)<|.gy c25<|.jl (bn e27) rfl rfl rfl rfl aM<|.gy c25<|.mv rfl<|.gy c25<|.lQ rfl rfl rfl (af e27).2 bk (af e29).1 (dE e29) rfl<|.gy c25<|.gJ rfl rfl (af e27).2 (af e29).2 aj rfl rfl<|.gy c25<|.ag (wY e31) ⟨rfl,trivial⟩ trivial trivial<|.gy c25<|.cm rfl rfl rfl<|.aX rfl c25 rfl<|.nil) rfl ?_;by_cases c32:(v30==0)=true
       ·replace h:=ab c32 h;refine .cl rfl c32 ?_;refine .skip (Ok.on ?_);refine .block ?_;refine .region (.mv rfl<|.ar rfl rfl rfl<|.aq rfl<|.nil) rfl (fun _ _ hs=>⟨(IntKind.i64.wrap (v20+1)),(sj h),hs.sub (.p rfl .sl<|.k rfl<|.k rfl<|.k rfl<|.k rfl<|.k rfl<|trivial) (.of rfl) rfl rfl⟩)
       ·replace h:=aa c32 h;refine .cq rfl c32 ?_;refine .exit (fun _ _ hs=>⟨_,(sj h),fun e=>⟨v20,e.symm,hs.sub (.p rfl .sl<|.k rfl<|.k rfl<|.k rfl<|.k rfl<|.k rfl<|trivial) (.of rfl) rfl rfl⟩⟩)
      ·replace h:=aa c25 h;refine .al (.mv rfl<|.mv rfl<|.uW rfl aJ<|.cm rfl rfl rfl<|.mv rfl<|.gm c25<|.gm c25<|.gm c25<|.gm c25<|.gm c25<|.gm c25<|.gm c25<|.gm c25<|.gm c25<|.aT rfl c25 rfl<|.nil) rfl ?_;refine .cq rfl (by decide) ?_;refine .exit (fun _ _ hs=>⟨_,(sj h),fun e=>⟨v20,e.symm,hs.sub (.p rfl .sl<|.k rfl<|.k rfl<|.k rfl<|.k rfl<|.k rfl<|trivial) (.of rfl) rfl rfl⟩⟩)
     ·rintro _ rfl
      try dsimp only
      refine .sq ?_;refine .fH 4 rfl rfl rfl ?_;refine .al (.mv rfl<|.mv rfl<|.uW rfl aJ<|.cm rfl rfl rfl<|.nil) rfl ?_;by_cases c34:(v33==(v10.length:Int))=true
      ·replace h:=ab c34 h;refine .cl rfl c34 ?_;refine .exit (fun _ _ hs=>⟨(v10,v11),(sj h),hs.sub (.p rfl .sl<|.k rfl<|.k rfl<|.k rfl<|trivial) (.of rfl) rfl rfl⟩)
      ·replace h:=aa c34 h;refine .cq rfl c34 ?_;refine .skip (Ok.on ?_);obtain⟨v35,e36,h⟩:=bind_some h;obtain⟨v37,e38,h⟩:=bind_some h;obtain⟨v39,e40,h⟩:=bind_some h;obtain⟨v41,e42,h⟩:=bind_some h;refine .cZ cf (.mv rfl<|.mv rfl<|.mv rfl<|.mv rfl<|.mv rfl<|.mv rfl<|.ic rfl rfl aF (af e36).1 (by have:=dE e36;simpa using this)<|.jl (bn e36) rfl rfl rfl rfl aM<|.mv rfl<|.mv rfl<|.ic rfl rfl aF (af e38).1 (by have:=dE e38;simpa using this)<|.jl (bn e38) rfl rfl rfl rfl aM<|.ic rfl rfl aF (af e40).1 (by have:=dE e40;simpa using this)<|.Jp (bn e40) rfl rfl rfl rfl rfl aM<|.ic rfl rfl aF (af e42).1 (by have:=dE e42;simpa using this)<|.Jv (by have:=bn e42;simpa using this) rfl rfl rfl rfl rfl aM<|.nil) rfl (by kernel_rfl) ?_;refine .Be (r:=17) (s:=3000017) (i:=(v11.length:Int)) (k:=v33) 4000017 rfl rfl rfl rfl (af e40).2 (af e36).2 ?_;obtain⟨v43,e44,h⟩:=bind_some h;obtain⟨v45,e46,h⟩:=bind_some h;obtain⟨v47,e48,h⟩:=bind_some h;obtain⟨v49,e50,h⟩:=bind_some h;refine .cZ cf (.ag (DY e44) ⟨rfl,trivial⟩ trivial trivial<|.mv rfl<|.mv rfl<|.ic rfl rfl aF (af e46).1 (by have:=dE e46;simpa using this)<|.jl (bn e46) rfl rfl rfl rfl aM<|.mv rfl<|.lQ rfl rfl rfl (af e46).2 bk (af e48).1 (dE e48) rfl<|.gJ rfl rfl (af e46).2 (af e48).2 aj rfl rfl<|.ag (DV e50) ⟨rfl,rfl,trivial⟩ trivial trivial<|.fN (iq (0)) br ⟨C8,C0,.refl _,EG,trivial⟩ rfl<|.cU (iq (v49)) rfl rfl rfl aj rfl rfl rfl<|.nil) rfl (by kernel_rfl) ?_;obtain⟨v71,hp52,h⟩:=bind_some h;refine .cc (fun i=>v71=i) (fun(i:(List (List Rat)))=>[(4,D.own 17),(5,D.int .i64 v4),(7,D.own 2000007),(8,D.int .i64 v9),(9,D.int .i64 (v11.length:Int))]) (fun(i:(List (List Rat)))=>[(17,Hp.cb ak.rq 69 4000017 ([])),(4000017,Hp.store ak.rq 37 i),(2000007,aY (ak.int .i64) 3 v11)]) ?_ ?_
       ·have ho4:=h;have h:=hp52;refine .al (.aq rfl<|.nil) rfl ?_;obtain⟨o55,hl56,h⟩:=bind_some h;have ho5:=h;refine .block (.bU (fun(s:Int×(List (List Rat)))=>[(4,D.own 17),(5,D.int .i64 v4),(7,D.own 2000007),(8,D.int .i64 v9),(9,D.int .i64 (v11.length:Int)),(11,D.ref 11 0),(12,D.int .i64 s.1)]) (fun(s:Int×(List (List Rat)))=>[(17,Hp.cb ak.rq 69 4000017 ([])),(4000017,Hp.store ak.rq 37 s.2),(2000007,aY (ak.int .i64) 3 v11),(11,Hp.box 37 (iq (v49)))]) hl56 (.p rfl .sl<|.k rfl<|.k rfl<|.k rfl<|.k rfl<|.k rfl<|.k rfl<|trivial) (.of rfl) rfl rfl ?_);rintro⟨v53,v54⟩ st57 hb58;have h:l8 v4 v11 v49 v53 v54=some st57:=hb58;unfold l8 at h
        try dsimp only
        refine .sq ?_;refine .al (.mv rfl<|.mv rfl<|.cm rfl rfl rfl<|.nil) rfl ?_;by_cases c59:(decide (v53<v4))=true
        ·replace h:=ab c59 h;refine .cl rfl c59 ?_;refine .skip (Ok.on ?_);refine .sq ?_;refine .block ?_;refine .fH 4 rfl rfl rfl ?_;obtain⟨v60,e61,h⟩:=bind_some h;obtain⟨v62,e63,h⟩:=bind_some h;obtain⟨v64,e65,h⟩:=bind_some h;obtain⟨v66,e67,h⟩:=bind_some h;obtain⟨v68,e69,h⟩:=bind_some h;refine .c_ cf (.mv rfl<|.mv rfl<|.ic rfl rfl aF (af e61).1 (by have:=dE e61;simpa using this)<|.jl (bn e61) rfl rfl rfl rfl aM<|.mv rfl<|.mv rfl<|.mv rfl<|.ic rfl rfl aF (af e63).1 (by have:=dE e63;simpa using this)<|.jl (bn e63) rfl rfl rfl rfl aM<|.mv rfl<|.lQ rfl rfl rfl (af e63).2 bk (af e65).1 (dE e65) rfl<|.gJ rfl rfl (af e63).2 (af e65).2 aj rfl rfl<|.ck (iq (v49)) rfl rfl aj rfl rfl<|.ag (yd e67) ⟨rfl,rfl,trivial⟩ trivial trivial<|.lQ rfl rfl rfl (af e61).2 bk (af e69).1 (dE e69) rfl<|.xr v66 rfl rfl rfl (af e61).2 (bn e69) aj rfl rfl rfl<|.nil) rfl (by kernel_rfl) (Ok.on ?_);refine .region (.mv rfl<|.ar rfl rfl rfl<|.aq rfl<|.nil) rfl (fun _ _ hs=>⟨((IntKind.i64.wrap (v53+1)),(v54.set (v11.length:Int).toNat (v60.set v53.toNat v66))),(sj h),hs.sub (.p rfl .sl<|.k rfl<|.k rfl<|.k rfl<|.k rfl<|.k rfl<|.k rfl<|trivial) (.of rfl) rfl rfl⟩)
        ·replace h:=aa c59 h;refine .cq rfl c59 ?_;refine .exit (fun a w hs=>⟨_,(sj h),fun e=>by subst e;have h:=ho5;exact aS (⟨v54,(sj h),hs.sub (.of rfl) (.of rfl) rfl rfl⟩)⟩)
       ·rintro _ rfl
        try dsimp only
        obtain⟨v117,hp73,h⟩:=bind_some h;refine .cc (fun i=>v117=i) (fun(i:(List (List Rat)))=>[(4,D.own 17),(5,D.int .i64 v4),(7,D.own 2000007),(8,D.int .i64 v9)]) (fun(i:(List (List Rat)))=>[(17,Hp.cb ak.rq 69 4000017 ([])),(4000017,Hp.store ak.rq 37 i),(2000007,aY (ak.int .i64) 3 v11)]) ?_ ?_
        ·have ho4:=h;have h:=hp73;refine .al (.aq rfl<|.nil) rfl ?_;obtain⟨o76,hl77,h⟩:=bind_some h;have ho5:=h;refine .block (.bU (fun(s:Int×(List (List Rat)))=>[(4,D.own 17),(5,D.int .i64 v4),(7,D.own 2000007),(8,D.int .i64 v9),(9,D.int .i64 (v11.length:Int)),(13,D.int .i64 s.1)]) (fun(s:Int×(List (List Rat)))=>[(17,Hp.cb ak.rq 69 4000017 ([])),(4000017,Hp.store ak.rq 37 s.2),(2000007,aY (ak.int .i64) 3 v11)]) hl77 (.of rfl) (.of rfl) rfl rfl ?_);rintro⟨v74,v75⟩ st78 hb79;have h:fX v4 v9 v11 v74 v75=some st78:=hb79;unfold fX at h
         try dsimp only
         refine .sq ?_;refine .fH 4 rfl rfl rfl ?_;refine .al (.mv rfl<|.mv rfl<|.uW rfl aJ<|.cm rfl rfl rfl<|.nil) rfl ?_;by_cases c80:(decide (v74<(v75.length:Int)))=true
         ·replace h:=ab c80 h;refine .cl rfl c80 ?_;refine .skip (Ok.on ?_);obtain⟨v115,hp82,h⟩:=bind_some h;refine .cc (fun i=>v115=i) (fun(i:(List (List Rat)))=>[(4,D.own 17),(5,D.int .i64 v4),(7,D.own 2000007),(8,D.int .i64 v9),(9,D.int .i64 (v11.length:Int)),(13,D.int .i64 v74)]) (fun(i:(List (List Rat)))=>[(17,Hp.cb ak.rq 69 4000017 ([])),(4000017,Hp.store ak.rq 37 i),(2000007,aY (ak.int .i64) 3 v11)]) ?_ ?_
          ·have ho6:=h;have h:=hp82;refine .block ?_;obtain⟨v83,e84,h⟩:=bind_some h;obtain⟨v85,e86,h⟩:=bind_some h;refine .al (.mv rfl<|.mv rfl<|.ic rfl rfl aF (af e84).1 (by have:=dE e84;simpa using this)<|.jl (bn e84) rfl rfl rfl rfl aM<|.mv rfl<|.lQ rfl rfl rfl (af e84).2 bk (af e86).1 (dE e86) rfl<|.gJ rfl rfl (af e84).2 (af e86).2 aj rfl rfl<|.fN (iq (0)) br ⟨C8,C0,.refl _,EG,trivial⟩ rfl<|.cU (iq (v85)) rfl rfl rfl aj rfl rfl rfl<|.nil) rfl ?_;refine .sq ?_;by_cases c87:(v74==(v11.length:Int))=true
           ·replace h:=ab c87 h;refine .al (.mv rfl<|.mv rfl<|.cm rfl rfl rfl<|.mv rfl<|.gk c87<|.gk c87<|.gk c87<|.aX rfl c87 rfl<|.nil) rfl ?_;refine .cl rfl rfl ?_;refine .exit (fun _ _ hs=>⟨v75,(sj h),hs.sub (.p rfl .sl<|.k rfl<|.k rfl<|.k rfl<|.k rfl<|.k rfl<|trivial) (.of rfl) rfl rfl⟩)
           ·replace h:=aa c87 h;obtain⟨v88,e89,h⟩:=bind_some h;refine .al (.mv rfl<|.mv rfl<|.cm rfl rfl rfl<|.mv rfl<|.gz c87<|.ck (iq (v85)) rfl rfl aj rfl rfl<|.gz c87<|.ag (wY e89) ⟨rfl,trivial⟩ trivial trivial<|.gz c87<|.cm rfl rfl rfl<|.aT rfl c87 rfl<|.nil) rfl ?_;by_cases c90:(v88==0)=true
            ·replace h:=ab c90 h;refine .cl rfl c90 ?_;refine .exit (fun _ _ hs=>⟨v75,(sj h),hs.sub (.p rfl .sl<|.k rfl<|.k rfl<|.k rfl<|.k rfl<|.k rfl<|trivial) (.of rfl) rfl rfl⟩)
            ·replace h:=aa c90 h;refine .cq rfl c90 ?_;refine .skip (Ok.on ?_);refine .al (.aq rfl<|.nil) rfl ?_;obtain⟨o93,hl94,h⟩:=bind_some h;have ho7:=h;refine .block (.bU (fun(s:Int×(List (List Rat)))=>[(4,D.own 17),(5,D.int .i64 v4),(7,D.own 2000007),(8,D.int .i64 v9),(9,D.int .i64 (v11.length:Int)),(13,D.int .i64 v74),(14,D.ref 14 0),(15,D.int .i64 s.1)]) (fun(s:Int×(List (List Rat)))=>[(17,Hp.cb ak.rq 69 4000017 ([])),(4000017,Hp.store ak.rq 37 s.2),(2000007,aY (ak.int .i64) 3 v11),(14,Hp.box 37 (iq (v85)))]) hl94 (.p rfl .sl<|.k rfl<|.k rfl<|.k rfl<|.k rfl<|.k rfl<|.k rfl<|.k rfl<|trivial) (.of rfl) rfl rfl ?_);rintro⟨v91,v92⟩ st95 hb96;have h:l9 v4 v11 v74 v85 v91 v92=some st95:=hb96;unfold l9 at h
             try dsimp only
             refine .sq ?_;refine .al (.mv rfl<|.mv rfl<|.cm rfl rfl rfl<|.nil) rfl ?_;by_cases c97:(decide (v91<v4))=true
             ·replace h:=ab c97 h;refine .cl rfl c97 ?_;refine .skip (Ok.on ?_);refine .sq ?_;refine .block ?_;refine .fH 4 rfl rfl rfl ?_;obtain⟨v98,e99,h⟩:=bind_some h;obtain⟨v100,e101,h⟩:=bind_some h;obtain⟨v102,e103,h⟩:=bind_some h;obtain⟨v104,e105,h⟩:=bind_some h;obtain⟨v106,e107,h⟩:=bind_some h;obtain⟨v108,e109,h⟩:=bind_some h;obtain⟨v110,e111,h⟩:=bind_some h;obtain⟨v112,e113,h⟩:=bind_some h;refine .c_ cf (.mv rfl<|.mv rfl<|.ic rfl rfl aF (af e99).1 (by have:=dE e99;simpa using this)<|.jl (bn e99) rfl rfl rfl rfl aM<|.mv rfl<|.mv rfl<|.mv rfl<|.ic rfl rfl aF (af e101).1 (by have:=dE e101;simpa using this)<|.jl (bn e101) rfl rfl rfl rfl aM<|.mv rfl<|.lQ rfl rfl rfl (af e101).2 bk (af e103).1 (dE e103) rfl<|.gJ rfl rfl (af e101).2 (af e103).2 aj rfl rfl<|.ck (iq (v85)) rfl rfl aj rfl rfl<|.mv rfl<|.mv rfl<|.ic rfl rfl aF (af e105).1 (by have:=dE e105;simpa using this)<|.jl (bn e105) rfl rfl rfl rfl aM<|.mv rfl<|.lQ rfl rfl rfl (af e105).2 bk (af e107).1 (dE e107) rfl<|.gJ rfl rfl (af e105).2 (af e107).2 aj rfl rfl<|.ag (yd e109) ⟨rfl,rfl,trivial⟩ trivial trivial<|.ag (G8 e111) ⟨rfl,rfl,trivial⟩ trivial trivial<|.lQ rfl rfl rfl (af e99).2 bk (af e113).1 (dE e113) rfl<|.xr v110 rfl rfl rfl (af e99).2 (bn e113) aj rfl rfl rfl<|.nil) rfl (by kernel_rfl) (Ok.on ?_);refine .region (.mv rfl<|.ar rfl rfl rfl<|.aq rfl<|.nil) rfl (fun _ _ hs=>⟨((IntKind.i64.wrap (v91+1)),(v92.set v74.toNat (v98.set v91.toNat v110))),(sj h),hs.sub (.p rfl .sl<|.k rfl<|.k rfl<|.k rfl<|.k rfl<|.k rfl<|.k rfl<|.k rfl<|trivial) (.of rfl) rfl rfl⟩)
             ·replace h:=aa c97 h;refine .cq rfl c97 ?_;refine .exit (fun a w hs=>⟨_,(sj h),fun e=>by subst e;have h:=ho7;exact aS (⟨v92,(sj h),hs.sub (.of rfl) (.of rfl) rfl rfl⟩)⟩)
          ·rintro _ rfl
           try dsimp only
           refine .region (.mv rfl<|.ar rfl rfl rfl<|.aq rfl<|.nil) rfl (fun _ _ hs=>⟨((IntKind.i64.wrap (v74+1)),v115),(sj h),hs.sub (.of rfl) (.of rfl) rfl rfl⟩)
         ·replace h:=aa c80 h;refine .cq rfl c80 ?_;refine .exit (fun a w hs=>⟨_,(sj h),fun e=>by subst e;have h:=ho5;exact aS (⟨v75,(sj h),hs.sub (.p rfl .sl<|.k rfl<|.k rfl<|.k rfl<|trivial) (.of rfl) rfl rfl⟩)⟩)
        ·rintro _ rfl
         try dsimp only
         refine .sl 7 rfl rfl rfl ?_;obtain⟨k118,h⟩:=av h;refine .region (.mv rfl<|.mv rfl<|.Cx (e:=(ak.int .i64)) [v9] [(0,_,D.int .i64 v9,[D.int .i64 v9])] gZ rfl rfl rfl ⟨rfl,rfl,.one rfl,rfl,trivial⟩ ⟨rfl,trivial⟩ rfl rfl<|.Cg (ys:=[v9]) rfl .sl rfl (.refl _) rfl gZ rfl k118.1 k118.2 rfl<|.aq rfl<|.nil) rfl (fun _ _ hs=>⟨(v117,(v11++[v9])),(sj h),hs.kz (fun r=>match r with|2000007=>154|3000017=>4000017|r=>r) (.p rfl (.own (r:=17))<|.r rfl rfl<|.p rfl (.own (r:=2000007))<|.r rfl rfl<|trivial) (.p rfl (.cb (s:=3000017))<|.r rfl rfl<|.r rfl rfl<|trivial) rfl rfl rfl⟩)
    ·rintro⟨v119,v120⟩ rfl
     try dsimp only
     refine .region (.mv rfl<|.ar rfl rfl rfl<|.aq rfl<|.nil) rfl (fun _ _ hs=>⟨((IntKind.i64.wrap (v9+1)),v119,v120),(sj h),hs.sub (.of rfl) (.of rfl) rfl rfl⟩)
   ·replace h:=aa c17 h;refine .cq rfl c17 ?_;refine .exit (fun a w hs=>⟨_,(sj h),fun e=>by subst e;have h:=ho2;exact aS (⟨(v10,v11),(sj h),hs.sub (.p rfl .sl<|.p rfl .sl<|trivial) (.of rfl) rfl rfl⟩)⟩)
  ·replace h:=aa c16 h;refine .al (.mv rfl<|.mv rfl<|.cm rfl rfl rfl<|.mv rfl<|.gm c16<|.gm c16<|.gm c16<|.gm c16<|.gm c16<|.aT rfl c16 rfl<|.nil) rfl ?_;refine .cq rfl (by decide) ?_;refine .exit (fun a w hs=>⟨_,(sj h),fun e=>by subst e;have h:=ho2;exact aS (⟨(v10,v11),(sj h),hs.sub (.p rfl .sl<|.p rfl .sl<|trivial) (.of rfl) rfl rfl⟩)⟩)
 ·rintro⟨v123,v124⟩ rfl
  try dsimp only
  refine .fH 4 rfl rfl rfl ?_;refine .sl 7 rfl rfl rfl ?_;refine .al (.mv rfl<|.mv rfl<|.aq rfl<|.aq rfl<|.nil) rfl ?_;refine .sQ 2 (.own 17) rfl .sl ?_;refine .yL 2 rfl rfl rfl rfl rfl ?_;refine .sQ 3 (.own 2000007) rfl .sl ?_;refine .mD 3 rfl rfl rfl ?_;cases h;refine .aO (fun _ _ hb=>hb) rfl (.cons (.tmp rfl) (.t1 (.tmp rfl))) (.refl _) trivial trivial
end
end Go.Am
namespace Go.Am
open Go.RowKit
set_option maxRecDepth 100000
def pa{α:Type}(xs:List α):Option (List α):=cj (xs.length<=1000000000) (some xs)
theorem DJ{xs r:List Rat}(h:pa xs=some r):BE PP 204 [ai ak.rat xs] ak.rat.n 28 (flat ak.rat r):=by
 obtain⟨ha,h⟩:=av h;cases h;refine .of (hl:=dK _ _) Go.Proofs.Tryz.func204 rfl (by kernel_rfl) rfl rfl (fun A w0=>?_);refine .al (.aq rfl<|.nil) rfl (.sq ?_);refine .al (.mv rfl<|.Jz bP rfl rfl<|.nil) rfl ?_;refine .cQ rfl (fun h=>?_) (.skip (Ok.on ?_))
 ·have ha0:xs=[]:=List.eq_nil_of_length_eq_zero h;subst ha0;refine .al (.aq rfl<|.nil) rfl ?_;refine .xi 2 2 3 28 rfl rfl ?_;exact .Cr (fun _ _ h=>h) rfl rfl rfl
 ·refine .al (.Jt eX rfl<|.mv rfl<|.JI (n1:=0) rfl rfl rfl eX rfl (by omega) (by omega) rfl<|.aq rfl<|.nil) rfl ?_;exact .Cr (fun _ _ h=>h) rfl rfl rfl
theorem DW{xs r:List (List Rat)}(h:pa xs=some r):BE PP 235 [ai (ak.slice ak.rat) xs] (ak.slice ak.rat).n 68 (flat (ak.slice ak.rat) r):=by
 obtain⟨ha,h⟩:=av h;cases h;refine .of (hl:=dK _ _) Go.Proofs.Tryz.func235 rfl (by kernel_rfl) rfl rfl (fun A w0=>?_);refine .al (.aq rfl<|.nil) rfl (.sq ?_);refine .al (.mv rfl<|.Jz bA rfl rfl<|.nil) rfl ?_;refine .cQ rfl (fun h=>?_) (.skip (Ok.on ?_))
 ·have ha0:xs=[]:=List.eq_nil_of_length_eq_zero h;subst ha0;refine .al (.aq rfl<|.nil) rfl ?_;refine .xi 2 2 1 68 rfl rfl ?_;exact .Cr (fun _ _ h=>h) rfl rfl rfl
 ·refine .al (.Jt jt rfl<|.mv rfl<|.JI (n1:=0) rfl rfl rfl jt rfl (by omega) (by omega) rfl<|.aq rfl<|.nil) rfl ?_;exact .Cr (fun _ _ h=>h) rfl rfl rfl
end Go.Am
namespace Go.Am
open Go.RowKit
section
variable {P:Program} {os:List Oper} {c:Ctx} {T T':List (Nat×D)} {H H':List (Nat×Hp)} {sps:List Spec}
variable {ops:Array Oper} {dst:Option Nat} {ty:TypeId} {pos:String} {aft:Array Edge}
theorem an.J4{t te:TypeId}{x y:Operand}{r m n:Nat}{l:List D}{k:IntKind}{z:Int}(hx:ev T x=some (.own r))(hy:ev T y=some (.int k z))(hh:ah H r=some (.eP 1 te l))(hl:l.length=n)(ht:sle P t=some m)(h0:0<=z)(h1:z<n)
  (hr:an P ops c os (bw T dst (.ref r (z.toNat*m))) H sps T' H'):
  an P ops c (⟨dst,.indexAddr t x y,ty,pos,aft,none⟩::os) T H (y7 [(x,.own r),(y,.int k z)] r (.eP 1 te l) (.ref r (z.toNat*m))::sps) T' H':=
 .ask rfl (two hx hy) hh (fun r' hr'=>.inl (by simpa [D.ref]using hr')) (fun ε w S a F ha hp=>by
  have h2:a.eval x=ε r:=(ha (x,.own r) (by simp)).1;have h3:a.eval y=.int k z:=ha (y,.int k z) (by simp);obtain⟨A,cap,hb,hA⟩:=s9 (n:=n) (by decide) (by omega) (show lU 1 te l ε w S (ε r) F from hp);have hA':=hA (by omega);subst hA';refine⟨.pointer (some ⟨j6 (ε r),z.toNat*m,none⟩),?_,rfl⟩;generalize j6 (ε r)=g at hb;simp only[execOp,h2,hb,h3,Sem.run_bind,ji ht g 0 n cap k z h0 h1 w,Result.andThen_ok,Nat.zero_add]
  rfl) hr
end
end Go.Am
namespace Go.Am
open Go.RowKit
set_option maxRecDepth 100000
noncomputable section
def eI(v2:List (List Rat))(v6:Int)(v7:List (List Rat))(v8:List (List Rat)):Option (St (Int×(List (List Rat))×(List (List Rat))) ((List (List Rat))×(List (List Rat)))):=(if(decide (v6<((([]:List (List Rat)).length+v2.length):Int)))=true then cj ((v6:Int)=(v8.length:Int)) ((ix v7 0).bind fun v15=>(pa v15).bind fun v17=>some (St.next ((IntKind.i64.wrap (v6+1)),v7.tail,(v8++[v17]))))else some (St.done (v7,v8)))
def gB(a1:List (List Rat)):Option (List (List Rat)):=(pa a1).bind fun v2=>((Loop (fun(s:Int×(List (List Rat))×(List (List Rat)))=>eI v2 s.1 s.2.1 s.2.2) (0,v2,([]:List (List Rat)))).bind fun(v19,v20)=>some ((v19,v20))).bind fun(v21,v22)=>cj (v21=[]) (some v22)
theorem np{a1:List (List Rat)}{r24:List (List Rat)}(h:gB a1=some r24):bf PP 202 [] [ai (ak.slice ak.rat) a1] [(6,Hp.cb ak.rat 68 4000006 ([])),(4000006,Hp.store ak.rat 28 r24)] (D.own 6):=by
 unfold gB at h;refine .of Go.Proofs.Tryz.func202 rfl (by kernel_rfl) rfl rfl rfl rfl rfl rfl (fun A w0 L b=>?_);show Ok PP _ [(0,ai (ak.slice ak.rat) a1)] [] _ _;refine .al (.aq rfl<|.nil) rfl ?_;obtain⟨v2,e3,h⟩:=bind_some h;refine .al (.mv rfl<|.Dt (hl:=dK _ _) (DW e3) ⟨rfl,trivial⟩ rfl<|.aq rfl<|.nil) rfl ?_;obtain⟨o4,hp5,h⟩:=bind_some h;refine .cc (fun i=>o4=i) (fun(i:(List (List Rat))×(List (List Rat)))=>[(3,D.own 6)]) (fun(i:(List (List Rat))×(List (List Rat)))=>[(6,Hp.cb ak.rat 68 4000006 i.1),(4000006,Hp.store ak.rat 28 i.2)]) ?_ ?_
 ·have ho1:=h;have h:=hp5;refine .Kg 6 4000006 28 rfl rfl ?_;refine .Hd 3 rfl rfl rfl ?_;refine .al (.mv rfl<|.uW rfl bA<|.mv rfl<|.nil) rfl ?_;obtain⟨o9,hl10,h⟩:=bind_some h;have ho2:=h;refine .block (.bU (fun(s:Int×(List (List Rat))×(List (List Rat)))=>[(3,D.own 6),(8,D.int .i64 ((([]:List (List Rat)).length+v2.length):Int)),(9,D.int .i64 s.1)]) (fun(s:Int×(List (List Rat))×(List (List Rat)))=>[(6,Hp.cb ak.rat 68 4000006 s.2.1),(4000006,Hp.store ak.rat 28 s.2.2)]) hl10 (.p rfl .sl<|.k rfl<|.k rfl<|trivial) (.of rfl) rfl rfl ?_);rintro⟨v6,v7,v8⟩ st11 hb12;have h:eI v2 v6 v7 v8=some st11:=hb12;unfold eI at h
  try dsimp only
  refine .al (.cm rfl rfl rfl<|.nil) rfl ?_;refine .sq ?_;by_cases c13:(decide (v6<((([]:List (List Rat)).length+v2.length):Int)))=true
  ·replace h:=ab c13 h;refine .cl rfl c13 ?_;refine .skip (Ok.on ?_);refine .sq ?_;refine .block ?_;refine .al (.mv rfl<|.aq rfl<|.nil) rfl ?_;refine .Hd 3 rfl rfl rfl ?_;obtain⟨k14,h⟩:=av h;obtain⟨v15,e16,h⟩:=bind_some h;obtain⟨v17,e18,h⟩:=bind_some h;refine .region (.mv rfl<|.mv rfl<|.mv rfl<|.mv rfl<|.ic rfl rfl aA (by omega) (by have:=bn e16;omega)<|.J0 k14 (af e16).2 rfl rfl rfl rfl aC<|.Dt (hl:=dK _ _) (DJ e18) ⟨rfl,trivial⟩ rfl<|.ic rfl rfl aA (by omega) (by have:=bn e16;omega)<|.Jm (s2:=3000006) k14 (af e16).2 rfl rfl rfl rfl rfl rfl ⟨by decide,by decide,by decide⟩ rfl aC<|.nil) rfl (Ok.on ?_);refine .region (.ar rfl rfl rfl<|.mv rfl<|.nil) rfl (fun _ _ hs=>⟨((IntKind.i64.wrap (v6+1)),v7.tail,(v8++[v17])),(sj h),hs.kz (fun r=>match r with|4000006=>3000006|r=>r) (.p rfl (.Gi (r:=6))<|.r rfl rfl<|.r rfl rfl<|trivial) (.p rfl (.cb (s:=4000006))<|.r rfl rfl<|trivial) rfl rfl rfl⟩)
  ·replace h:=aa c13 h;refine .cq rfl c13 ?_;refine .exit (fun a w hs=>⟨_,(sj h),fun e=>by subst e;have h:=ho2;exact aS (⟨(v7,v8),(sj h),hs.sub (.of rfl) (.of rfl) rfl rfl⟩)⟩)
 ·rintro⟨v21,v22⟩ rfl
  try dsimp only
  refine .Hd 3 rfl rfl rfl ?_;refine .al (.mv rfl<|.aq rfl<|.nil) rfl ?_;refine .sQ 2 (.own 6) rfl .sl ?_;obtain⟨k23,h⟩:=av h;subst k23;cases h;refine .aO (fun _ _ hb=>hb) rfl (.t1 (.tmp rfl)) (.refl _) trivial (.of rfl)
def dO(a1:Int)(a4:Int)(v11:Rat)(v15:Int)(v16:List (List Rat)):Option (St (Int×(List (List Rat))) (List (List Rat))):=(if(decide (v15<a4))=true then(ix v16 a1).bind fun v22=>(ix v16 a1).bind fun v24=>(ix v24 v15).bind fun v26=>(fh v26 v11).bind fun v28=>(ix v22 v15).bind fun v30=>some (St.next ((IntKind.i64.wrap (v15+1)),(v16.set a1.toNat (v22.set v15.toNat v28))))else some (St.done v16))
def cN(a1:Int)(a4:Int)(v34:Int)(v45:Rat)(v51:Int)(v52:List (List Rat)):Option (St (Int×(List (List Rat))) (List (List Rat))):=(if(decide (v51<a4))=true then(ix v52 v34).bind fun v58=>(ix v52 v34).bind fun v60=>(ix v60 v51).bind fun v62=>(ix v52 a1).bind fun v64=>(ix v64 v51).bind fun v66=>(fh v45 v66).bind fun v68=>(ks v62 v68).bind fun v70=>(ix v58 v51).bind fun v72=>some (St.next ((IntKind.i64.wrap (v51+1)),(v52.set v34.toNat (v58.set v51.toNat v70))))else some (St.done v52))
def dz(a1:Int)(a2:Int)(a4:Int)(v33:List (List Rat))(v34:Int)(v35:List (List Rat)):Option (St (Int×(List (List Rat))) (List (List Rat))):=(if(decide (v34<(v33.length:Int)))=true then((ix v35 v34).bind fun v43=>(ix v43 a2).bind fun v45=>(if(v34 !=a1)=true then(cW v45).bind fun v48=>(if(v48 !=0)=true then(Loop (fun(s:Int×(List (List Rat)))=>cN a1 a4 v34 v45 s.1 s.2) (a2,v35)).bind fun v74=>some (v74)else some (v35))else some (v35))).bind fun v75=>some (St.next ((IntKind.i64.wrap (v34+1)),v75))else some (St.done v35))
def ij(a1:Int)(a2:Int)(a3:List (List Rat))(a4:Int):Option (List (List Rat)):=(fY 1).bind fun v5=>(ix a3 a1).bind fun v7=>(ix v7 a2).bind fun v9=>(fV v5 v9).bind fun v11=>((Loop (fun(s:Int×(List (List Rat)))=>dO a1 a4 v11 s.1 s.2) (a2,a3)).bind fun v32=>some (v32)).bind fun v33=>(Loop (fun(s:Int×(List (List Rat)))=>dz a1 a2 a4 v33 s.1 s.2) (0,v33)).bind fun v76=>some v76
theorem tF{a1:Int}{a2:Int}{a3:List (List Rat)}{a4:Int}{r77:List (List Rat)}(h:ij a1 a2 a3 a4=some r77):bf PP 236 [(2,Hp.box 132 ([D.own 202])),(3,Hp.box 3 ([D.int .i64 a4])),(202,Hp.cb ak.rat 68 402 ([])),(402,Hp.store ak.rat 28 a3)] [D.int .i64 a1,D.int .i64 a2,D.ref 2 0,D.ref 3 0] [(2,Hp.box 132 ([D.own 202])),(3,Hp.box 3 ([D.int .i64 a4])),(202,Hp.cb ak.rat 68 402 ([])),(402,Hp.store ak.rat 28 r77)] (D.ig []):=by
 unfold ij at h;refine .of Go.Proofs.Tryz.func236 rfl (by kernel_rfl) rfl rfl rfl rfl rfl rfl (fun A w0 L b=>?_);show Ok PP _ [(0,D.int .i64 a1),(1,D.int .i64 a2),(2,D.ref 2 0),(3,D.ref 3 0),(1000002,D.pinned 2 (b 2)),(1000003,D.pinned 3 (b 3)),(1000202,D.pinned 202 (b 202)),(1000402,D.pinned 402 (b 402))] [(2,Hp.box 132 ([D.own 202])),(3,Hp.box 3 ([D.int .i64 a4])),(202,Hp.cb ak.rat 68 402 ([])),(402,Hp.store ak.rat 28 a3)] _ _;obtain⟨v5,e6,h⟩:=bind_some h;obtain⟨v7,e8,h⟩:=bind_some h;obtain⟨v9,e10,h⟩:=bind_some h;obtain⟨v11,e12,h⟩:=bind_some h;refine .cZ cf (.ag (kK e6) ⟨rfl,trivial⟩ trivial trivial<|.bu (D.own 202) rfl rfl cJ rfl<|.mv rfl<|.ud rfl rfl rfl rfl aA (af e8).1 (by have:=dE e8;simpa using this)<|.jl (bn e8) rfl rfl rfl rfl aC<|.mv rfl<|.lQ rfl rfl rfl (af e8).2 aV (af e10).1 (dE e10) rfl<|.gJ rfl rfl (af e8).2 (af e10).2 ae rfl rfl<|.ag (lh e12) ⟨rfl,rfl,trivial⟩ trivial trivial<|.fN (qC (0)) aI ⟨lY,lZ,l4,trivial⟩ rfl<|.cU (qC (v11)) rfl rfl rfl ae rfl rfl rfl<|.nil) rfl (by kernel_rfl) ?_;obtain⟨v33,hp14,h⟩:=bind_some h;refine .cc (fun i=>v33=i) (fun(i:(List (List Rat)))=>[(0,D.int .i64 a1),(1,D.int .i64 a2),(2,D.ref 2 0),(3,D.ref 3 0),(1000002,D.pinned 2 (b 2)),(1000003,D.pinned 3 (b 3)),(1000202,D.pinned 202 (b 202)),(1000402,D.pinned 402 (b 402))]) (fun(i:(List (List Rat)))=>[(2,Hp.box 132 ([D.own 202])),(202,Hp.cb ak.rat 68 402 ([])),(402,Hp.store ak.rat 28 i),(3,Hp.box 3 ([D.int .i64 a4]))]) ?_ ?_
 ·have ho1:=h;have h:=hp14;refine .al (.mv rfl<|.aq rfl<|.nil) rfl ?_;obtain⟨o17,hl18,h⟩:=bind_some h;have ho2:=h;refine .block (.bU (fun(s:Int×(List (List Rat)))=>[(0,D.int .i64 a1),(1,D.int .i64 a2),(2,D.ref 2 0),(3,D.ref 3 0),(6,D.ref 6 0),(7,D.int .i64 s.1),(1000002,D.pinned 2 (b 2)),(1000003,D.pinned 3 (b 3)),(1000202,D.pinned 202 (b 202)),(1000402,D.pinned 402 (b 402))]) (fun(s:Int×(List (List Rat)))=>[(2,Hp.box 132 ([D.own 202])),(202,Hp.cb ak.rat 68 402 ([])),(402,Hp.store ak.rat 28 s.2),(3,Hp.box 3 ([D.int .i64 a4])),(6,Hp.box 28 (qC (v11)))]) hl18 (.of rfl) (.of rfl) rfl rfl ?_);rintro⟨v15,v16⟩ st19 hb20;have h:dO a1 a4 v11 v15 v16=some st19:=hb20;unfold dO at h
  try dsimp only
  refine .sq ?_;refine .al (.mv rfl<|.bu (D.int .i64 a4) rfl rfl dQ rfl<|.cm rfl rfl rfl<|.nil) rfl ?_;by_cases c21:(decide (v15<a4))=true
  ·replace h:=ab c21 h;refine .cl rfl c21 ?_;refine .skip (Ok.on ?_);refine .sq ?_;refine .block ?_;obtain⟨v22,e23,h⟩:=bind_some h;obtain⟨v24,e25,h⟩:=bind_some h;obtain⟨v26,e27,h⟩:=bind_some h;obtain⟨v28,e29,h⟩:=bind_some h;obtain⟨v30,e31,h⟩:=bind_some h;refine .c_ cf (.bu (D.own 202) rfl rfl cJ rfl<|.mv rfl<|.ud rfl rfl rfl rfl aA (af e23).1 (by have:=dE e23;simpa using this)<|.jl (bn e23) rfl rfl rfl rfl aC<|.mv rfl<|.bu (D.own 202) rfl rfl cJ rfl<|.mv rfl<|.ud rfl rfl rfl rfl aA (af e25).1 (by have:=dE e25;simpa using this)<|.jl (bn e25) rfl rfl rfl rfl aC<|.mv rfl<|.lQ rfl rfl rfl (af e25).2 aV (af e27).1 (dE e27) rfl<|.gJ rfl rfl (af e25).2 (af e27).2 ae rfl rfl<|.ck (qC (v11)) rfl rfl ae rfl rfl<|.ag (lE e29) ⟨rfl,rfl,trivial⟩ trivial trivial<|.lQ rfl rfl rfl (af e23).2 aV (af e31).1 (dE e31) rfl<|.xr v28 rfl rfl rfl (af e23).2 (bn e31) ae rfl rfl rfl<|.nil) rfl (by kernel_rfl) (Ok.on ?_);refine .region (.mv rfl<|.ar rfl rfl rfl<|.aq rfl<|.nil) rfl (fun _ _ hs=>⟨((IntKind.i64.wrap (v15+1)),(v16.set a1.toNat (v22.set v15.toNat v28))),(sj h),hs.sub (.of rfl) (.of rfl) rfl rfl⟩)
  ·replace h:=aa c21 h;refine .cq rfl c21 ?_;refine .exit (fun a w hs=>⟨_,(sj h),fun e=>by subst e;have h:=ho2;exact aS (⟨v16,(sj h),hs.sub (.of rfl) (.of rfl) rfl rfl⟩)⟩)
 ·rintro _ rfl
  try dsimp only
  refine .al (.bu (D.own 202) rfl rfl cJ rfl<|.Hl rfl rfl rfl bA<|.mv rfl<|.nil) rfl ?_;obtain⟨o36,hl37,h⟩:=bind_some h;have ho1:=h;refine .block (.bU (fun(s:Int×(List (List Rat)))=>[(0,D.int .i64 a1),(1,D.int .i64 a2),(2,D.ref 2 0),(3,D.ref 3 0),(42,D.int .i64 (v33.length:Int)),(43,D.int .i64 s.1),(1000002,D.pinned 2 (b 2)),(1000003,D.pinned 3 (b 3)),(1000202,D.pinned 202 (b 202)),(1000402,D.pinned 402 (b 402))]) (fun(s:Int×(List (List Rat)))=>[(2,Hp.box 132 ([D.own 202])),(202,Hp.cb ak.rat 68 402 ([])),(402,Hp.store ak.rat 28 s.2),(3,Hp.box 3 ([D.int .i64 a4]))]) hl37 (.of rfl) (.of rfl) rfl rfl ?_);rintro⟨v34,v35⟩ st38 hb39;have h:dz a1 a2 a4 v33 v34 v35=some st38:=hb39;unfold dz at h
  try dsimp only
  refine .al (.cm rfl rfl rfl<|.nil) rfl ?_;refine .sq ?_;by_cases c40:(decide (v34<(v33.length:Int)))=true
  ·replace h:=ab c40 h;refine .cl rfl c40 ?_;refine .skip (Ok.on ?_);obtain⟨v75,hp42,h⟩:=bind_some h;refine .cc (fun i=>v75=i) (fun(i:(List (List Rat)))=>[(0,D.int .i64 a1),(1,D.int .i64 a2),(2,D.ref 2 0),(3,D.ref 3 0),(42,D.int .i64 (v33.length:Int)),(43,D.int .i64 v34),(1000002,D.pinned 2 (b 2)),(1000003,D.pinned 3 (b 3)),(1000202,D.pinned 202 (b 202)),(1000402,D.pinned 402 (b 402))]) (fun(i:(List (List Rat)))=>[(2,Hp.box 132 ([D.own 202])),(202,Hp.cb ak.rat 68 402 ([])),(402,Hp.store ak.rat 28 i),(3,Hp.box 3 ([D.int .i64 a4]))]) ?_ ?_
   ·have ho2:=h;have h:=hp42;refine .block ?_;refine .al (.mv rfl<|.aq rfl<|.nil) rfl ?_;obtain⟨v43,e44,h⟩:=bind_some h;obtain⟨v45,e46,h⟩:=bind_some h;refine .al (.bu (D.own 202) rfl rfl cJ rfl<|.mv rfl<|.ud rfl rfl rfl rfl aA (af e44).1 (by have:=dE e44;simpa using this)<|.jl (bn e44) rfl rfl rfl rfl aC<|.mv rfl<|.lQ rfl rfl rfl (af e44).2 aV (af e46).1 (dE e46) rfl<|.gJ rfl rfl (af e44).2 (af e46).2 ae rfl rfl<|.fN (qC (0)) aI ⟨lY,lZ,l4,trivial⟩ rfl<|.cU (qC (v45)) rfl rfl rfl ae rfl rfl rfl<|.nil) rfl ?_;by_cases c47:(v34 !=a1)=true
    ·replace h:=ab c47 h;obtain⟨v48,e49,h⟩:=bind_some h;refine .al (.mv rfl<|.mv rfl<|.cm rfl rfl rfl<|.mv rfl<|.gy c47<|.ck (qC (v45)) rfl rfl ae rfl rfl<|.gy c47<|.ag (iv e49) ⟨rfl,trivial⟩ trivial trivial<|.gy c47<|.cm rfl rfl rfl<|.aX rfl c47 rfl<|.nil) rfl ?_;by_cases c50:(v48 !=0)=true
     ·replace h:=ab c50 h;refine .cl rfl c50 ?_;refine .al (.mv rfl<|.aq rfl<|.nil) rfl ?_;obtain⟨o53,hl54,h⟩:=bind_some h;have ho3:=h;refine .block (.bU (fun(s:Int×(List (List Rat)))=>[(0,D.int .i64 a1),(1,D.int .i64 a2),(2,D.ref 2 0),(3,D.ref 3 0),(8,D.int .i64 v34),(9,D.ref 9 0),(10,D.int .i64 s.1),(42,D.int .i64 (v33.length:Int)),(43,D.int .i64 v34),(1000002,D.pinned 2 (b 2)),(1000003,D.pinned 3 (b 3)),(1000202,D.pinned 202 (b 202)),(1000402,D.pinned 402 (b 402))]) (fun(s:Int×(List (List Rat)))=>[(2,Hp.box 132 ([D.own 202])),(202,Hp.cb ak.rat 68 402 ([])),(402,Hp.store ak.rat 28 s.2),(3,Hp.box 3 ([D.int .i64 a4])),(9,Hp.box 28 (qC (v45)))]) hl54 (.of rfl) (.of rfl) rfl rfl ?_);rintro⟨v51,v52⟩ st55 hb56;have h:cN a1 a4 v34 v45 v51 v52=some st55:=hb56;unfold cN at h
      try dsimp only
      refine .sq ?_;refine .al (.mv rfl<|.bu (D.int .i64 a4) rfl rfl dQ rfl<|.cm rfl rfl rfl<|.nil) rfl ?_;by_cases c57:(decide (v51<a4))=true
      ·replace h:=ab c57 h;refine .cl rfl c57 ?_;refine .skip (Ok.on ?_);refine .sq ?_;refine .block ?_;obtain⟨v58,e59,h⟩:=bind_some h;obtain⟨v60,e61,h⟩:=bind_some h;obtain⟨v62,e63,h⟩:=bind_some h;obtain⟨v64,e65,h⟩:=bind_some h;obtain⟨v66,e67,h⟩:=bind_some h;obtain⟨v68,e69,h⟩:=bind_some h;obtain⟨v70,e71,h⟩:=bind_some h;obtain⟨v72,e73,h⟩:=bind_some h;refine .c_ cf (.bu (D.own 202) rfl rfl cJ rfl<|.mv rfl<|.ud rfl rfl rfl rfl aA (af e59).1 (by have:=dE e59;simpa using this)<|.jl (bn e59) rfl rfl rfl rfl aC<|.mv rfl<|.bu (D.own 202) rfl rfl cJ rfl<|.mv rfl<|.ud rfl rfl rfl rfl aA (af e61).1 (by have:=dE e61;simpa using this)<|.jl (bn e61) rfl rfl rfl rfl aC<|.mv rfl<|.lQ rfl rfl rfl (af e61).2 aV (af e63).1 (dE e63) rfl<|.gJ rfl rfl (af e61).2 (af e63).2 ae rfl rfl<|.ck (qC (v45)) rfl rfl ae rfl rfl<|.bu (D.own 202) rfl rfl cJ rfl<|.mv rfl<|.ud rfl rfl rfl rfl aA (af e65).1 (by have:=dE e65;simpa using this)<|.jl (bn e65) rfl rfl rfl rfl aC<|.mv rfl<|.lQ rfl rfl rfl (af e65).2 aV (af e67).1 (dE e67) rfl<|.gJ rfl rfl (af e65).2 (af e67).2 ae rfl rfl<|.ag (lE e69) ⟨rfl,rfl,trivial⟩ trivial trivial<|.ag (rX e71) ⟨rfl,rfl,trivial⟩ trivial trivial<|.lQ rfl rfl rfl (af e59).2 aV (af e73).1 (dE e73) rfl<|.xr v70 rfl rfl rfl (af e59).2 (bn e73) ae rfl rfl rfl<|.nil) rfl (by kernel_rfl) (Ok.on ?_);refine .region (.mv rfl<|.ar rfl rfl rfl<|.aq rfl<|.nil) rfl (fun _ _ hs=>⟨((IntKind.i64.wrap (v51+1)),(v52.set v34.toNat (v58.set v51.toNat v70))),(sj h),hs.sub (.of rfl) (.of rfl) rfl rfl⟩)
      ·replace h:=aa c57 h;refine .cq rfl c57 ?_;refine .exit (fun a w hs=>⟨_,(sj h),fun e=>by subst e;have h:=ho3;exact aS (⟨v52,(sj h),hs.sub (.of rfl) (.of rfl) rfl rfl⟩)⟩)
     ·replace h:=aa c50 h;refine .cq rfl c50 ?_;refine .skip (fun _ _ hs=>⟨v35,(sj h),hs.sub (.of rfl) (.of rfl) rfl rfl⟩)
    ·replace h:=aa c47 h;refine .al (.mv rfl<|.mv rfl<|.cm rfl rfl rfl<|.mv rfl<|.gm c47<|.gm c47<|.gm c47<|.aT rfl c47 rfl<|.nil) rfl ?_;refine .cq rfl (by decide) ?_;refine .skip (fun _ _ hs=>⟨v35,(sj h),hs.sub (.of rfl) (.of rfl) rfl rfl⟩)
   ·rintro _ rfl
    try dsimp only
    refine .region (.ar rfl rfl rfl<|.mv rfl<|.nil) rfl (fun _ _ hs=>⟨((IntKind.i64.wrap (v34+1)),v75),(sj h),hs.sub (.of rfl) (.of rfl) rfl rfl⟩)
  ·replace h:=aa c40 h;refine .cq rfl c40 ?_;refine .exit (fun a w hs=>⟨_,(sj h),fun e=>by subst e;have h:=ho1;cases h;exact aS (hs.IW rfl .nil (.refl _) (.of rfl) (.of rfl))⟩)
def cX(v3:Int)(v8:Int)(v9:List (List Rat))(v10:List Int)(v19:Int):Option (St Int ((List (List Rat))×(List Int))):=(if(decide (v19<(v9.length:Int)))=true then(ix v9 v19).bind fun v25=>(ix v25 v8).bind fun v27=>(cW v27).bind fun v29=>(if(v29 !=0)=true then(ix v9 v19).bind fun v32=>(ix v9 (v10.length:Int)).bind fun v34=>(ix v9 (v10.length:Int)).bind fun v36=>(ix v9 v19).bind fun v38=>(ij (v10.length:Int) v8 ((v9.set (v10.length:Int).toNat v32).set v19.toNat v36) v3).bind fun v40=>cj ((v10.length+([v8]).length)*8<=140737488355328/\v10.length+([v8]).length<=9223372036854775807) (some (St.done (v40,(v10++[v8]))))else some (St.next (IntKind.i64.wrap (v19+1))))else some (St.done (v9,v10)))
def bM(v3:Int)(v8:Int)(v9:List (List Rat))(v10:List Int):Option (St (Int×(List (List Rat))×(List Int)) ((List Int)×(List (List Rat)))):=(if(decide (v8<v3))=true then(if(decide ((v10.length:Int)<(v9.length:Int)))=true then((Loop (fun(s:Int)=>cX v3 v8 v9 v10 s) (v10.length:Int)).bind fun(v43,v44)=>some ((v43,v44))).bind fun(v45,v46)=>some (St.next ((IntKind.i64.wrap (v8+1)),v45,v46))else some (St.done (v10,v9)))else some (St.done (v10,v9)))
def jz(a1:List (List Rat)):Option ((List (List Rat))×(List Int)):=(gl a1).bind fun(v2,v3,v4)=>((Loop (fun(s:Int×(List (List Rat))×(List Int))=>bM v3 s.1 s.2.1 s.2.2) (0,a1,([]:List Int))).bind fun(v47,v48)=>some ((v47,v48))).bind fun(v49,v50)=>some (v50,v49)
theorem wz{a1:List (List Rat)}{r51:List (List Rat)}{r52:List Int}(h:jz a1=some (r51,r52)):bf PP 203 [(0,Hp.cb ak.rat 68 400 ([])),(400,Hp.store ak.rat 28 a1)] [D.own 0] [(0,Hp.cb ak.rat 68 700 ([])),(700,Hp.store ak.rat 28 r51),(400,Hp.dead)] (ai (ak.int .i64) r52):=by
 unfold jz at h;refine .of Go.Proofs.Tryz.func203 rfl (by kernel_rfl) rfl rfl rfl rfl rfl rfl (fun A w0 L b=>?_);show Ok PP _ [(0,D.own 0),(1000000,D.pinned 0 (b 0)),(1000400,D.pinned 400 (b 400))] [(0,Hp.cb ak.rat 68 400 ([])),(400,Hp.store ak.rat 28 a1)] _ _;refine .JK 0 400 700 rfl rfl rfl rfl ?_;refine .fH 0 rfl rfl rfl ?_;refine .sQ 0 (.own 0) rfl .sl ?_;refine .al (.Kd rfl rfl rfl<|.aq rfl<|.nil) rfl ?_;obtain⟨⟨v2,v3,v4⟩,e5,h⟩:=bind_some h;refine .al (.bu (D.own 0) rfl rfl cJ rfl<|.CY (ds0:=[D.own 0]) [(0,Hp.cb ak.rat 68 700 ([])),(700,Hp.store ak.rat 28 a1)] (lj e5) ⟨rfl,trivial⟩ ⟨rfl,rfl,trivial⟩ ⟨(.cb (.refl _) rfl rfl rfl),trivial⟩ (.ig ⟨.int,.int,.bool,trivial⟩) rfl<|.mv rfl<|.ext rfl rfl<|.ext rfl rfl<|.ext rfl rfl<|.fN ([D.int .i64 0]) G_ ⟨.refl _,trivial⟩ rfl<|.aq rfl<|.Ad ([D.int .i64 v3]) rfl rfl rfl dQ rfl rfl rfl<|.aq rfl<|.nil) rfl ?_;refine .al (.J7 (fs:=[]) (cs:=[.tmp 1,.tmp 4]) (l:=[]) (m:=[D.ref 1 0,D.ref 4 0]) trivial ⟨rfl,rfl,trivial⟩<|.aq rfl<|.nil) rfl ?_;refine .al (.aq rfl<|.nil) rfl ?_;obtain⟨o6,hp7,h⟩:=bind_some h;refine .cc (fun i=>o6=i) (fun(i:(List Int)×(List (List Rat)))=>[(7,D.own 2000007),(1000000,D.pinned 0 (b 0)),(1000400,D.pinned 400 (b 400))]) (fun(i:(List Int)×(List (List Rat)))=>[(2000007,aY (ak.int .i64) 3 i.1),(0,Hp.cb ak.rat 68 700 ([])),(700,Hp.store ak.rat 28 i.2),(400,Hp.dead)]) ?_ ?_
 ·have ho1:=h;have h:=hp7;refine .al (.aq rfl<|.nil) rfl ?_;refine .jF (ak.int .i64) 7 2000007 3 rfl rfl ?_;obtain⟨o11,hl12,h⟩:=bind_some h;have ho2:=h;refine .block (.bU (fun(s:Int×(List (List Rat))×(List Int))=>[(1,D.ref 1 0),(4,D.ref 4 0),(6,D.ry 236 [] [D.ref 1 0,D.ref 4 0]),(7,D.own 2000007),(8,D.int .i64 s.1),(1000000,D.pinned 0 (b 0)),(1000400,D.pinned 400 (b 400))]) (fun(s:Int×(List (List Rat))×(List Int))=>[(1,Hp.box 132 ([D.own 0])),(0,Hp.cb ak.rat 68 700 ([])),(700,Hp.store ak.rat 28 s.2.1),(4,Hp.box 3 ([D.int .i64 v3])),(2000007,aY (ak.int .i64) 3 s.2.2),(400,Hp.dead)]) hl12 (.of rfl) (.of rfl) rfl rfl ?_);rintro⟨v8,v9,v10⟩ st13 hb14;have h:bM v3 v8 v9 v10=some st13:=hb14;unfold bM at h
  try dsimp only
  refine .sq ?_;refine .sl 7 rfl rfl rfl ?_;by_cases c15:(decide (v8<v3))=true
  ·replace h:=ab c15 h;refine .al (.mv rfl<|.bu (D.int .i64 v3) rfl rfl dQ rfl<|.cm rfl rfl rfl<|.mv rfl<|.gy c15<|.mv rfl<|.gy c15<|.uW rfl bK<|.gy c15<|.bu (D.own 0) rfl rfl cJ rfl<|.gy c15<|.Hl rfl rfl rfl bA<|.gy c15<|.cm rfl rfl rfl<|.aX rfl c15 rfl<|.nil) rfl ?_;by_cases c16:(decide ((v10.length:Int)<(v9.length:Int)))=true
   ·replace h:=ab c16 h;refine .cl rfl c16 ?_;refine .skip (Ok.on ?_);obtain⟨o17,hp18,h⟩:=bind_some h;refine .cc (fun i=>o17=i) (fun(i:(List (List Rat))×(List Int))=>[(1,D.ref 1 0),(4,D.ref 4 0),(6,D.ry 236 [] [D.ref 1 0,D.ref 4 0]),(7,D.own 69),(8,D.int .i64 v8),(1000000,D.pinned 0 (b 0)),(1000400,D.pinned 400 (b 400))]) (fun(i:(List (List Rat))×(List Int))=>[(1,Hp.box 132 ([D.own 0])),(0,Hp.cb ak.rat 68 3000000 ([])),(3000000,Hp.store ak.rat 28 i.1),(4,Hp.box 3 ([D.int .i64 v3])),(69,aY (ak.int .i64) 3 i.2),(400,Hp.dead)]) ?_ ?_
    ·have ho3:=h;have h:=hp18;refine .block ?_;refine .al (.mv rfl<|.uW rfl bK<|.aq rfl<|.nil) rfl ?_;refine .al (.mv rfl<|.aq rfl<|.nil) rfl ?_;obtain⟨o20,hl21,h⟩:=bind_some h;have ho4:=h;refine .block (.bU (fun(s:Int)=>[(1,D.ref 1 0),(4,D.ref 4 0),(6,D.ry 236 [] [D.ref 1 0,D.ref 4 0]),(7,D.own 2000007),(8,D.int .i64 v8),(9,D.int .i64 (v10.length:Int)),(10,D.int .i64 s),(1000000,D.pinned 0 (b 0)),(1000400,D.pinned 400 (b 400))]) (fun(s:Int)=>[(1,Hp.box 132 ([D.own 0])),(0,Hp.cb ak.rat 68 700 ([])),(700,Hp.store ak.rat 28 v9),(4,Hp.box 3 ([D.int .i64 v3])),(2000007,aY (ak.int .i64) 3 v10),(400,Hp.dead)]) hl21 (.k rfl<|.k rfl<|.k rfl<|.p rfl .sl<|.k rfl<|.k rfl<|.k rfl<|.k rfl<|.k rfl<|trivial) (.of rfl) rfl rfl ?_);rintro v19 st22 hb23;have h:cX v3 v8 v9 v10 v19=some st22:=hb23;unfold cX at h
     try dsimp only
     refine .sq ?_;refine .al (.mv rfl<|.bu (D.own 0) rfl rfl cJ rfl<|.Hl rfl rfl rfl bA<|.cm rfl rfl rfl<|.nil) rfl ?_;by_cases c24:(decide (v19<(v9.length:Int)))=true
     ·replace h:=ab c24 h;refine .cl rfl c24 ?_;refine .skip (Ok.on ?_);refine .sq ?_;refine .block ?_;obtain⟨v25,e26,h⟩:=bind_some h;obtain⟨v27,e28,h⟩:=bind_some h;obtain⟨v29,e30,h⟩:=bind_some h;refine .al (.bu (D.own 0) rfl rfl cJ rfl<|.mv rfl<|.ud rfl rfl rfl rfl aA (af e26).1 (by have:=dE e26;simpa using this)<|.jl (bn e26) rfl rfl rfl rfl aC<|.mv rfl<|.lQ rfl rfl rfl (af e26).2 aV (af e28).1 (dE e28) rfl<|.gJ rfl rfl (af e26).2 (af e28).2 ae rfl rfl<|.ag (iv e30) ⟨rfl,trivial⟩ trivial trivial<|.cm rfl rfl rfl<|.nil) rfl ?_;by_cases c31:(v29 !=0)=true
      ·replace h:=ab c31 h;refine .cl rfl c31 ?_;obtain⟨v32,e33,h⟩:=bind_some h;obtain⟨v34,e35,h⟩:=bind_some h;obtain⟨v36,e37,h⟩:=bind_some h;obtain⟨v38,e39,h⟩:=bind_some h;refine .cZ cf (.bu (D.own 0) rfl rfl cJ rfl<|.mv rfl<|.bu (D.own 0) rfl rfl cJ rfl<|.mv rfl<|.bu (D.own 0) rfl rfl cJ rfl<|.mv rfl<|.ud rfl rfl rfl rfl aA (af e33).1 (by have:=dE e33;simpa using this)<|.jl (bn e33) rfl rfl rfl rfl aC<|.bu (D.own 0) rfl rfl cJ rfl<|.mv rfl<|.ud rfl rfl rfl rfl aA (af e35).1 (by have:=dE e35;simpa using this)<|.jl (bn e35) rfl rfl rfl rfl aC<|.ud rfl rfl rfl rfl aA (af e37).1 (by have:=dE e37;simpa using this)<|.Jp (bn e37) rfl rfl rfl rfl rfl aC<|.J4 (n:=v9.length) rfl rfl rfl (by simp) aA (af e39).1 (dE e39)<|.Jv (by have:=bn e39;simpa using this) rfl rfl rfl rfl rfl aC<|.nil) rfl (by kernel_rfl) ?_;refine .Be (r:=0) (s:=700) (i:=(v10.length:Int)) (k:=v19) 3000000 rfl rfl rfl rfl (af e37).2 (af e33).2 ?_;obtain⟨v40,e41,h⟩:=bind_some h;refine .al (.mv rfl<|.mv rfl<|.mv rfl<|.GV (Hi:=[(1,Hp.box 132 ([D.own 0])),(4,Hp.box 3 ([D.int .i64 v3])),(0,Hp.cb ak.rat 68 3000000 ([])),(3000000,Hp.store ak.rat 28 ((v9.set (v10.length:Int).toNat v32).set v19.toNat v36))]) (Ho:=[(1,Hp.box 132 ([D.own 0])),(4,Hp.box 3 ([D.int .i64 v3])),(0,Hp.cb ak.rat 68 3000000 ([])),(3000000,Hp.store ak.rat 28 v40)]) (d:=D.ig []) (ds:=[D.int .i64 (v10.length:Int),D.int .i64 v8]) rfl (.zu (tF e41) (fun r=>match r with|2=>1|202=>0|402=>3000000|3=>4|r=>r) (fun r=>match r with|1=>2|0=>202|3000000=>402|4=>3|r=>r) rfl (.p rfl (.box ⟨.own (r:=202),trivial⟩)<|.r rfl rfl<|.p rfl (.cb (s:=402))<|.r rfl rfl<|trivial) rfl ⟨.refl rfl,.refl rfl,.ref (r:=2),.ref (r:=3),trivial⟩ (.p rfl (.box ⟨.own (r:=0),trivial⟩)<|.r rfl rfl<|.p rfl (.cb (s:=3000000))<|.r rfl rfl<|trivial) rfl (.refl rfl) rfl rfl rfl rfl rfl) ⟨rfl,rfl,trivial⟩ ⟨rfl,rfl,rfl,rfl,trivial⟩ trivial<|.nil) rfl ?_;refine .sl 7 rfl rfl rfl ?_;obtain⟨k42,h⟩:=av h;refine .al (.mv rfl<|.mv rfl<|.Cx (e:=(ak.int .i64)) [v8] [(0,_,D.int .i64 v8,[D.int .i64 v8])] gZ rfl rfl rfl ⟨rfl,rfl,.one rfl,rfl,trivial⟩ ⟨rfl,trivial⟩ rfl rfl<|.Cg (ys:=[v8]) rfl .sl rfl (.refl _) rfl gZ rfl k42.1 k42.2 rfl<|.aq rfl<|.nil) rfl ?_;refine .exit (fun a w hs=>⟨_,(sj h),fun e=>by subst e;have h:=ho4;exact aS (⟨(v40,(v10++[v8])),(sj h),hs.sub (.of rfl) (.of rfl) rfl rfl⟩)⟩)
      ·replace h:=aa c31 h;refine .cq rfl c31 ?_;refine .skip (Ok.on ?_);refine .region (.mv rfl<|.ar rfl rfl rfl<|.aq rfl<|.nil) rfl (fun _ _ hs=>⟨(IntKind.i64.wrap (v19+1)),(sj h),hs.sub (.of rfl) (.of rfl) rfl rfl⟩)
     ·replace h:=aa c24 h;refine .cq rfl c24 ?_;refine .exit (fun a w hs=>⟨_,(sj h),fun e=>by subst e;have h:=ho4;exact aS (⟨(v9,v10),(sj h),hs.kz (fun r=>match r with|69=>2000007|3000000=>700|r=>r) (.p rfl (.ref (r:=1))<|.p rfl (.ref (r:=4))<|.p rfl (.ry trivial ⟨.ref (r:=1),.ref (r:=4),trivial⟩)<|.p rfl (.own (r:=69))<|.r rfl rfl<|.p rfl (.xz (r:=0))<|.p rfl (.xz (r:=400))<|trivial) (.p rfl (.box ⟨.own (r:=0),trivial⟩)<|.p rfl (.cb (s:=3000000))<|.r rfl rfl<|.r rfl rfl<|.r rfl rfl<|.r rfl rfl<|trivial) rfl rfl rfl⟩)⟩)
    ·rintro⟨v45,v46⟩ rfl
     try dsimp only
     refine .region (.mv rfl<|.ar rfl rfl rfl<|.aq rfl<|.nil) rfl (fun _ _ hs=>⟨((IntKind.i64.wrap (v8+1)),v45,v46),(sj h),hs.kz (fun r=>match r with|2000007=>69|700=>3000000|r=>r) (.p rfl (.ref (r:=1))<|.p rfl (.ref (r:=4))<|.p rfl (.ry trivial ⟨.ref (r:=1),.ref (r:=4),trivial⟩)<|.p rfl (.own (r:=2000007))<|.r rfl rfl<|.p rfl (.xz (r:=0))<|.p rfl (.xz (r:=400))<|trivial) (.p rfl (.box ⟨.own (r:=0),trivial⟩)<|.p rfl (.cb (s:=700))<|.r rfl rfl<|.r rfl rfl<|.r rfl rfl<|.r rfl rfl<|trivial) rfl rfl rfl⟩)
   ·replace h:=aa c16 h;refine .cq rfl c16 ?_;refine .exit (fun a w hs=>⟨_,(sj h),fun e=>by subst e;have h:=ho2;exact aS (⟨(v10,v9),(sj h),hs.sub (.p rfl .sl<|.k rfl<|.k rfl<|trivial) (.of rfl) rfl rfl⟩)⟩)
  ·replace h:=aa c15 h;refine .al (.mv rfl<|.bu (D.int .i64 v3) rfl rfl dQ rfl<|.cm rfl rfl rfl<|.mv rfl<|.gm c15<|.gm c15<|.gm c15<|.gm c15<|.gm c15<|.aT rfl c15 rfl<|.nil) rfl ?_;refine .cq rfl (by decide) ?_;refine .exit (fun a w hs=>⟨_,(sj h),fun e=>by subst e;have h:=ho2;exact aS (⟨(v10,v9),(sj h),hs.sub (.p rfl .sl<|.k rfl<|.k rfl<|trivial) (.of rfl) rfl rfl⟩)⟩)
 ·rintro⟨v49,v50⟩ rfl
  try dsimp only
  refine .sl 7 rfl rfl rfl ?_;refine .al (.mv rfl<|.aq rfl<|.nil) rfl ?_;refine .sQ 2 (.own 2000007) rfl .sl ?_;refine .mD 2 rfl rfl rfl ?_;cases h;refine .aO (fun _ _ hb=>hb) rfl (.t1 (.tmp rfl)) (.refl _) (.of rfl) (.of rfl)
end
end Go.Am
namespace Go.Am
theorem nN{σ ρ:Type}{body:Int×σ->Option (St (Int×σ) ρ)}(a n:Nat)(F:Nat->σ)(r:ρ)(ha:a<=n)(hb:∀i,a<=i->i<n->body ((i:Int),F i)=some (.next (((i+1:Nat):Int),F (i+1))))(he:body ((n:Int),F n)=some (.done r)):Loop body ((a:Int),F a)=some r:=by
 obtain⟨r',hr,rfl⟩:=cx (body:=body) ((a:Int),F a) (fun s=>∃i:Nat,a<=i/\i<=n/\s=((i:Int),F i)) (fun s=>(n-s.1).toNat) (fun r'=>r'=r) ⟨a,Nat.le_refl _,ha,rfl⟩ (by
  rintro s ⟨i,hai,hi,rfl⟩;by_cases hlt:i<n
  ·left
   exact⟨_,hb i hai hlt,⟨i+1,by omega,hlt,rfl⟩,by simp only;omega⟩
  ·right
   have:i=n:=by omega
   subst this;exact⟨_,he,rfl⟩)
 exact hr
def kE(f:Nat->Nat->Rat)(B:Nat):Prop:=∀i j,sz (f i j)<=B
theorem Dw{n m:Nat}{f:Nat->Nat->Rat}{i:Nat}(h:i<n):(az n m f)[i]?=some ((List.range m).map (f i)):=by
 rw[List.getElem?_eq_getElem (by rw[aP];exact h)];simp[az]
theorem og{n m:Nat}{f:Nat->Nat->Rat}{a:Nat}{g:Nat->Rat}:(az n m f).set a ((List.range m).map g)=az n m (fun i j=>if i=a then g j else f i j):=by
 apply List.ext_getElem
 ·simp[az]
 ·intro i h1 h2;by_cases ha:i=a
  ·subst ha;rw[List.getElem_set_self];simp[az]
  ·rw[List.getElem_set_ne (Ne.symm ha)];simp[az,ha]
def bQ(f:Nat->Nat->Rat)(a b:Nat)(i j:Nat):Rat:=if i=b then f a j else if i=a then f b j else f i j
theorem oT{n m:Nat}{f:Nat->Nat->Rat}{a b:Nat}:((az n m f).set ((a:Int).toNat) ((List.range m).map (f b))).set ((b:Int).toNat) ((List.range m).map (f a))=az n m (bQ f a b):=by
 rw[Int.toNat_natCast,Int.toNat_natCast,og,og]
 rfl
variable {n m:Nat} {f:Nat->Nat->Rat} {B:Nat}
theorem uf{row k:Nat}{c:Rat}(hrow:row<n)(hk:k<=m)(hm:m<=30)(hf:kE f B)(hc:sz c<=B)(hB:B<=1000000000):
  Loop (fun(s:Int×(List (List Rat)))=>dO (row:Int) (m:Int) c s.1 s.2) ((k:Int),az n m f)=some (az n m (fun i j=>if i=row/\k<=j then f row j*c else f i j)):=by
 have hL:=nN (body:=fun(s:Int×(List (List Rat)))=>dO (row:Int) (m:Int) c s.1 s.2) k m (fun q=>az n m (fun i j=>if i=row/\k<=j/\j<q then f row j*c else f i j)) (az n m (fun i j=>if i=row/\k<=j/\j<m then f row j*c else f i j)) hk (fun q hkq hq=>by
   unfold dO;rw[if_pos (decide_eq_true (by omega)),bp hrow,Option.bind_some,Option.bind_some,cy hq,Option.bind_some];rw[if_neg (by omega)];have h1:=hf row q;rw[kl (show di (f row q)from by unfold di;omega) (show di c from by unfold di;omega),Option.bind_some,Option.bind_some,ue,cI hq (by omega)];rw[cD (g:=fun i j=>if i=row/\k<=j/\j<q+1 then f row j*c else f i j) (fun i j _ _=>by
    by_cases e1:i=row/\j=q
    ·rw[if_pos e1,if_pos (by omega),e1.2]
    ·rw[if_neg e1];by_cases e2:i=row/\k<=j/\j<q
     ·rw[if_pos e2,if_pos (by omega)]
     ·rw[if_neg e2,if_neg (by omega)])]) (by
   unfold dO;rw[if_neg (by simp)])
 have e0:az n m f=az n m (fun i j=>if i=row/\k<=j/\j<k then f row j*c else f i j):=cD (fun i j _ _=>by rw[if_neg (by omega)]);rw[e0];rw[hL];rw[cD (g:=fun i j=>if i=row/\k<=j then f row j*c else f i j) (fun i j _ hj=>by
  by_cases e2:i=row/\k<=j
  ·rw[if_pos e2,if_pos (by omega)]
  ·rw[if_neg e2,if_neg (by omega)])]
theorem ui{row i0 k:Nat}{c:Rat}(hrow:row<n)(hi:i0<n)(hne:i0≠row)(hk:k<=m)(hm:m<=30)(hf:kE f B)(hc:sz c<=B)(hB:B<=1000000000):
  Loop (fun(s:Int×(List (List Rat)))=>cN (row:Int) (m:Int) (i0:Int) c s.1 s.2) ((k:Int),az n m f)=some (az n m (fun i j=>if i=i0/\k<=j then f i0 j-c*f row j else f i j)):=by
 have hL:=nN (body:=fun(s:Int×(List (List Rat)))=>cN (row:Int) (m:Int) (i0:Int) c s.1 s.2) k m (fun q=>az n m (fun i j=>if i=i0/\k<=j/\j<q then f i0 j-c*f row j else f i j)) (az n m (fun i j=>if i=i0/\k<=j/\j<m then f i0 j-c*f row j else f i j)) hk (fun q hkq hq=>by
   unfold cN;rw[if_pos (decide_eq_true (by omega)),bp hi,Option.bind_some,Option.bind_some,cy hq,Option.bind_some,bp hrow,Option.bind_some,cy hq,Option.bind_some];rw[if_neg (by omega),if_neg (by omega)];have h1:=hf row q;have h2:=hf i0 q;have h3:=gW c (f row q);rw[kl (show di c from by unfold di;omega) (show di (f row q)from by unfold di;omega),Option.bind_some,C2 (show di (f i0 q)from by unfold di;omega) (show di (c*f row q)from by unfold di;omega),Option.bind_some,Option.bind_some,ue,cI hq (by omega)];rw[cD (g:=fun i j=>if i=i0/\k<=j/\j<q+1 then f i0 j-c*f row j else f i j) (fun i j _ _=>by
    by_cases e1:i=i0/\j=q
    ·rw[if_pos e1,if_pos (by omega),e1.2]
    ·rw[if_neg e1];by_cases e2:i=i0/\k<=j/\j<q
     ·rw[if_pos e2,if_pos (by omega)]
     ·rw[if_neg e2,if_neg (by omega)])]) (by
   unfold cN;rw[if_neg (by simp)])
 have e0:az n m f=az n m (fun i j=>if i=i0/\k<=j/\j<k then f i0 j-c*f row j else f i j):=cD (fun i j _ _=>by rw[if_neg (by omega)]);rw[e0];rw[hL];rw[cD (g:=fun i j=>if i=i0/\k<=j then f i0 j-c*f row j else f i j) (fun i j _ hj=>by
  by_cases e2:i=i0/\k<=j
  ·rw[if_pos e2,if_pos (by omega)]
  ·rw[if_neg e2,if_neg (by omega)])]
def iV(f:Nat->Nat->Rat)(row k k0:Nat)(i j:Nat):Rat:=if i≠row/\f i k≠0/\k0<=j then f i j-f i k*f row j else f i j
theorem tV{x:Rat}:(wJ x !=0)=true↔x≠0:=by rw[bne_iff_ne,Ne,oU]
theorem BW{row k k0 j:Nat}:iV f row k k0 row j=f row j:=by unfold iV;rw[if_neg (by omega)]
def gQ(f:Nat->Nat->Rat)(row k k0 i i' j:Nat):Rat:=if i'<i then iV f row k k0 i' j else f i' j
theorem BQ{row k k0 i j:Nat}:gQ f row k k0 i row j=f row j:=by unfold gQ;split;exact BW;rfl
theorem pE{row k k0 i j:Nat}:gQ f row k k0 i i j=f i j:=by unfold gQ;rw[if_neg (by omega)]
theorem yb{row k k0:Nat}(hf:kE f B):kE (iV f row k k0) (3*B+1):=by
 intro i' j;have a1:=hf i' j;unfold iV
 split
 ·have b1:=px (f i' j) (f i' k*f row j);have b2:=gW (f i' k) (f row j);have b3:=hf i' k;have b4:=hf row j;omega
 ·omega
theorem E1{row k k0 i:Nat}(hf:kE f B):kE (gQ f row k k0 i) (3*B+1):=by
 intro i' j;have a1:=hf i' j;have a2:=yb (row:=row) (k:=k) (k0:=k0) hf i' j;unfold gQ
 split<;>omega
theorem nq{row k k0 i:Nat}(h:i=row\/f i k=0):az n m (gQ f row k k0 i)=az n m (gQ f row k k0 (i+1)):=cD (fun i' j _ _=>by
 unfold gQ;by_cases e:i'<i
 ·rw[if_pos e,if_pos (by omega)]
 ·rw[if_neg e];by_cases e2:i'=i
  ·subst e2;rw[if_pos (by omega)];unfold iV;rw[if_neg (by
    rintro⟨h1,h2,_⟩;rcases h with h|h
    ·exact h1 h
    ·exact h2 h)]
  ·rw[if_neg (by omega)])
theorem vK{row k k0 i:Nat}(hrow:row<n)(hi:i<n)(hk0:k0<=m)(hm:m<=30)(hf:kE f B)(hB:3*B+1<=1000000000)(h1:i≠row)(h2:f i k≠0):
  Loop (fun(s:Int×(List (List Rat)))=>cN (row:Int) (m:Int) (i:Int) (f i k) s.1 s.2) ((k0:Int),az n m (gQ f row k k0 i))=some (az n m (gQ f row k k0 (i+1))):=by
 rw[ui hrow hi h1 hk0 hm (E1 hf) (Nat.le_trans (hf i k) (by omega)) hB];rw[cD (g:=gQ f row k k0 (i+1)) (fun i' j _ _=>by
  rw[BQ,pE];unfold gQ;by_cases e:i'=i/\k0<=j
  ·rw[if_pos e,e.1,if_pos (by omega)];unfold iV;rw[if_pos ⟨h1,h2,e.2⟩]
  ·rw[if_neg e];by_cases e2:i'<i
   ·rw[if_pos e2,if_pos (by omega)]
   ·rw[if_neg e2];by_cases e3:i'=i
    ·subst e3;rw[if_pos (by omega)];unfold iV;rw[if_neg (by omega)]
    ·rw[if_neg (by omega)])]
theorem wu{row k k0:Nat}:az n m (gQ f row k k0 n)=az n m (iV f row k k0):=cD (fun i' j h _=>by unfold gQ;rw[if_pos h])
theorem elim_none{row k k0:Nat}:az n m f=az n m (gQ f row k k0 0):=cD (fun i' j h _=>by unfold gQ;rw[if_neg (by omega)])
theorem HZ{row k:Nat}{M0:List (List Rat)}(hM:M0.length=n)(hrow:row<n)(hk:k<m)(hm:m<=30)(hn:n<=30)(hf:kE f B)(hB:3*B+1<=1000000000):
  Loop (fun(s:Int×(List (List Rat)))=>dz (row:Int) (k:Int) (m:Int) M0 s.1 s.2) (0,az n m f)=some (az n m (iV f row k k)):=by
 have hL:=fz (body:=fun(s:Int×(List (List Rat)))=>dz (row:Int) (k:Int) (m:Int) M0 s.1 s.2) n (fun i=>az n m (gQ f row k k i)) (az n m (gQ f row k k n)) (fun i hi=>by
   unfold dz;rw[hM,if_pos (decide_eq_true (by omega)),bp hi,Option.bind_some,cy hk,Option.bind_some,pE];by_cases h1:i=row
   ·rw[if_neg (by simp[h1]),Option.bind_some,cI hi (by omega),nq (.inl h1)]
   ·rw[if_pos (by simp;omega),cW,Option.bind_some];by_cases h2:f i k=0
    ·rw[if_neg (by rw[tV];exact fun h=>h h2),Option.bind_some,cI hi (by omega),nq (.inr h2)]
    ·rw[if_pos (tV.2 h2),vK hrow hi (by omega) hm hf hB h1 h2,Option.bind_some,Option.bind_some,cI hi (by omega)]) (by
   unfold dz;rw[hM,if_neg (by simp)])
 rw[elim_none (row:=row) (k:=k) (k0:=k)];have:Loop (fun(s:Int×(List (List Rat)))=>dz (row:Int) (k:Int) (m:Int) M0 s.1 s.2) (0,az n m (gQ f row k k 0))=_:=hL;rw[this,wu]
theorem Hk{piv:List Int}{k:Nat}(hrow:piv.length<n)(hk:k<m)(hm:m<=30)(hn:n<=30)(hf:kE f B)(hB:3*B+1<=1000000000):
  Loop (fun(s:Int×(List (List Rat)))=>fX (m:Int) (k:Int) piv s.1 s.2) (0,az n m f)=some (az n m (iV f piv.length k 0)):=by
 have hL:=fz (body:=fun(s:Int×(List (List Rat)))=>fX (m:Int) (k:Int) piv s.1 s.2) n (fun i=>az n m (gQ f piv.length k 0 i)) (az n m (gQ f piv.length k 0 n)) (fun i hi=>by
   unfold fX;rw[aP,if_pos (decide_eq_true (by omega)),bp hi,Option.bind_some,cy hk,Option.bind_some,pE];by_cases h1:i=piv.length
   ·rw[if_pos (by simp[h1]),Option.bind_some,cI hi (by omega),nq (.inl h1)]
   ·rw[if_neg (by simp;omega),cW,Option.bind_some];by_cases h2:f i k=0
    ·rw[if_pos (by rw[beq_iff_eq,oU];exact h2),Option.bind_some,cI hi (by omega),nq (.inr h2)]
    ·rw[if_neg (by rw[beq_iff_eq,oU];exact h2)];have:=vK (row:=piv.length) (k:=k) (k0:=0) hrow hi (Nat.zero_le _) hm hf hB h1 h2;have e:Loop (fun(s:Int×(List (List Rat)))=>l9 (m:Int) piv (i:Int) (f i k) s.1 s.2) (0,az n m (gQ f piv.length k 0 i))=some (az n m (gQ f piv.length k 0 (i+1))):=this;rw[e,Option.bind_some,Option.bind_some,cI hi (by omega)]) (by
   unfold fX;rw[aP,if_neg (by simp)])
 rw[elim_none (row:=piv.length) (k:=k) (k0:=0)];have:Loop (fun(s:Int×(List (List Rat)))=>fX (m:Int) (k:Int) piv s.1 s.2) (0,az n m (gQ f piv.length k 0 0))=_:=hL;rw[this,wu]
end Go.Am
namespace Go.Am
variable {n m:Nat} {f:Nat->Nat->Rat} {B:Nat}
def da(f:Nat->Nat->Rat)(k n i:Nat):Nat:=if i<n then(if f i k=0 then da f k n (i+1)else i)else i
termination_by n-i
theorem qh{k:Nat}:∀d i,n-i=d->i<=da f k n i
 |0,i,h=>by unfold da;rw[if_neg (by omega)];omega
 |d+1,i,h=>by
  unfold da
  split
  ·split
   ·have:=qh (k:=k) d (i+1) (by omega);omega
   ·omega
  ·omega
theorem mQ{k:Nat}:∀d i,n-i=d->da f k n i<n->f (da f k n i) k≠0
 |0,i,h,hl=>by
  unfold da at hl|-;rw[if_neg (by omega)]at hl;omega
 |d+1,i,h,hl=>by
  unfold da at hl|-;by_cases h1:i<n
  ·rw[if_pos h1]at hl|-;by_cases h2:f i k=0
   ·rw[if_pos h2]at hl|-;exact mQ d (i+1) (by omega) hl
   ·rw[if_neg h2];exact h2
  ·omega
theorem oY{k:Nat}:∀d i,n-i=d->¬da f k n i<n->∀j,i<=j->j<n->f j k=0
 |0,i,h,_,j,h1,h2=>by omega
 |d+1,i,h,hl,j,h1,h2=>by
  unfold da at hl;rw[if_pos (by omega)]at hl;by_cases h3:f i k=0
  ·rw[if_pos h3]at hl;by_cases e:j=i
   ·subst e;exact h3
   ·exact oY d (i+1) (by omega) hl j (by omega) h2
  ·rw[if_neg h3]at hl;omega
theorem tt{k:Nat}:∀d i,n-i=d->i<=n->da f k n i<=n
 |0,i,h,hi=>by unfold da;rw[if_neg (by omega)];omega
 |d+1,i,h,hi=>by
  unfold da
  split
  ·split
   ·exact tt d (i+1) (by omega) (by omega)
   ·omega
  ·omega
def eR(f:Nat->Nat->Rat)(row:Nat)(c:Rat)(k0 i j:Nat):Rat:=if i=row/\k0<=j then f row j*c else f i j
def ny(f:Nat->Nat->Rat)(row k at' k0:Nat):Nat->Nat->Rat:=iV (eR (bQ f row at') row (1/bQ f row at' row k) k0) row k k0
theorem lL{a b:Nat}(hf:kE f B):kE (bQ f a b) B:=by
 intro i j;unfold bQ
 split
 ·exact hf _ _
 ·split<;>exact hf _ _
theorem rN{row k0:Nat}{c:Rat}(hf:kE f B)(hc:sz c<=B+1):kE (eR f row c k0) (2*B+1):=by
 intro i j;have:=hf i j;unfold eR
 split
 ·have h1:=gW (f row j) c;have h2:=hf row j;omega
 ·omega
theorem zw{x:Rat}(h:sz x<=B):sz (1/x)<=B+1:=by
 have h1:=i4 1 x;have h2:sz (1:Rat)<=1:=by decide+kernel
 omega
theorem DF{row k at' k0:Nat}(hf:kE f B):kE (ny f row k at' k0) (6*B+4):=by
 have h1:=lL (a:=row) (b:=at') hf;have h2:=yb (row:=row) (k:=k) (k0:=k0) (rN (row:=row) (k0:=k0) h1 (zw (h1 row k)));intro i j;have:=h2 i j;unfold ny;omega
theorem ou:fY 1=some 1:=I5
theorem gS{k i:Nat}(h:i<n):da f k n i=if f i k=0 then da f k n (i+1)else i:=by
 conv=>lhs;unfold da
 rw[if_pos h]
theorem jX{k i:Nat}(h:¬i<n):da f k n i=i:=by unfold da;rw[if_neg h]
theorem zP{k:Nat}(hk:k<m)(hn:n<=30):∀d i,n-i=d->i<=n->Loop (fun(s:Int)=>dH (k:Int) (az n m f) s) (i:Int)=some ((da f k n i:Nat):Int)
 |d,i,h,hi=>by
  by_cases hlt:i<n
  ·rw[gS hlt];have hb:dH (k:Int) (az n m f) (i:Int)=if f i k=0 then some (.next ((i+1:Nat):Int))else some (.done (i:Int)):=by
    unfold dH;rw[aP,if_pos (decide_eq_true (by omega)),bp hlt,Option.bind_some,cy hk,Option.bind_some,cW,Option.bind_some];by_cases h0:f i k=0
    ·rw[if_pos h0,if_pos (by rw[beq_iff_eq,oU];exact h0),cI hlt (by omega)]
    ·rw[if_neg h0,if_neg (by rw[beq_iff_eq,oU];exact h0)]
   by_cases h0:f i k=0
   ·rw[if_pos h0]at hb|-;rw[dt (body:=fun(s:Int)=>dH (k:Int) (az n m f) s) hb]
    cases d with
    |zero=>omega
    |succ d=>exact zP hk hn d (i+1) (by omega) (by omega)
   ·rw[if_neg h0]at hb|-;exact bW (body:=fun(s:Int)=>dH (k:Int) (az n m f) s) hb
  ·rw[jX hlt];refine bW (body:=fun(s:Int)=>dH (k:Int) (az n m f) s) ?_;unfold dH;rw[aP,if_neg (by rw[decide_eq_true_eq];omega)]
theorem FJ{row k:Nat}(hrow:row<n)(hk:k<m)(hm:m<=30)(hn:n<=30)(hf:kE f B)(hB:6*B+4<=1000000000)(hp:f row k≠0):
  ij (row:Int) (k:Int) (az n m f) (m:Int)=some (az n m (iV (eR f row (1/f row k) k) row k k)):=by
 unfold ij;have h1:=hf row k;rw[ou,Option.bind_some,bp hrow,Option.bind_some,cy hk,Option.bind_some,k8 hp (show di 1 by decide+kernel) (show di (f row k)by unfold di;omega),Option.bind_some];have hi:=zw h1;have hs:kE f (B+1):=fun i j=>Nat.le_trans (hf i j) (by omega);rw[uf hrow (by omega) hm hs hi (by omega),Option.bind_some,Option.bind_some];have e:(az n m fun i j=>if i=row/\k<=j then f row j*(1/f row k)else f i j)=az n m (eR f row (1/f row k) k):=rfl;rw[e,HZ (by rw[aP]) hrow hk hm hn (rN (k0:=k) hf hi) (by omega),Option.bind_some]
def lI(f:Nat->Nat->Rat)(n row k:Nat):Prop:=∀i j,row<=i->i<n->j<k->f i j=0
theorem rL{row k at':Nat}(hz:lI f n row k)(h1:row<=at')(h2:at'<n){i j:Nat}(hi:row<=i)(du:i<n)(hj:j<k):bQ f row at' i j=0:=by
 unfold bQ
 split
 ·exact hz row j (Nat.le_refl _) (by omega) hj
 ·split
  ·exact hz at' j h1 h2 hj
  ·exact hz i j hi du hj
theorem BX{row k at':Nat}(hz:lI f n row k)(h1:row<=at')(h2:at'<n):az n m (ny f row k at' k)=az n m (ny f row k at' 0):=cD (fun i j hi _=>by
 have z:∀j,j<k->bQ f row at' row j=0:=fun j hj=>rL hz h1 h2 (Nat.le_refl _) (by omega) hj;have hs:∀i j,eR (bQ f row at') row (1/bQ f row at' row k) k i j=eR (bQ f row at') row (1/bQ f row at' row k) 0 i j:=by
  intro i j;unfold eR;by_cases e:i=row
  ·by_cases e2:k<=j
   ·rw[if_pos ⟨e,e2⟩,if_pos ⟨e,Nat.zero_le _⟩]
   ·rw[if_neg (by omega),if_pos ⟨e,Nat.zero_le _⟩,e,z j (by omega)];grind
  ·rw[if_neg (by omega),if_neg (by omega)]
 have hrow:∀j,j<k->eR (bQ f row at') row (1/bQ f row at' row k) 0 row j=0:=by
  intro j hj;unfold eR;rw[if_pos ⟨rfl,Nat.zero_le _⟩,z j hj];grind
 unfold ny iV;rw[hs,hs,hs];by_cases e:i≠row/\eR (bQ f row at') row (1/bQ f row at' row k) 0 i k≠0
 ·by_cases e2:k<=j
  ·rw[if_pos ⟨e.1,e.2,e2⟩,if_pos ⟨e.1,e.2,Nat.zero_le _⟩]
  ·rw[if_neg (by omega),if_pos ⟨e.1,e.2,Nat.zero_le _⟩,hrow j (by omega)];grind
 ·rw[if_neg (fun h=>e ⟨h.1,h.2.1⟩),if_neg (fun h=>e ⟨h.1,h.2.1⟩)])
theorem Ap{row k at':Nat}(hz:lI f n row k)(h1:row<=at')(h2:at'<n)(hp:f at' k≠0):lI (ny f row k at' 0) n (row+1) (k+1):=by
 intro i j hi du hj;have hne:i≠row:=by omega
 have hpp:bQ f row at' row k=f at' k:=by
  unfold bQ;by_cases e:row=at'
  ·rw[if_pos e,e]
  ·rw[if_neg e,if_pos rfl]
 have hrk:eR (bQ f row at') row (1/bQ f row at' row k) 0 row k=1:=by
  unfold eR;rw[if_pos ⟨rfl,Nat.zero_le _⟩,hpp];have:=Rat.div_mul_cancel (a:=1) hp
  grind
 have hsi:∀j,eR (bQ f row at') row (1/bQ f row at' row k) 0 i j=bQ f row at' i j:=fun j=>by unfold eR;rw[if_neg (fun h=>hne h.1)]
 unfold ny iV;rw[hsi,hsi];by_cases e:j<k
 ·have z1:bQ f row at' i j=0:=rL hz h1 h2 (by omega) du e;have z2:eR (bQ f row at') row (1/bQ f row at' row k) 0 row j=0:=by
   unfold eR;rw[if_pos ⟨rfl,Nat.zero_le _⟩,rL hz h1 h2 (Nat.le_refl _) (by omega) e];grind
  rw[z1,z2]
  split<;>grind
 ·have:j=k:=by omega
  subst this;rw[hrk];by_cases e3:bQ f row at' i j=0
  ·rw[if_neg (fun h=>h.2.1 e3),e3]
  ·rw[if_pos ⟨hne,e3,Nat.zero_le _⟩];grind
theorem zF{row k:Nat}(hz:lI f n row k)(h:∀i,row<=i->i<n->f i k=0):lI f n row (k+1):=by
 intro i j hi du hj;by_cases e:j<k
 ·exact hz i j hi du e
 ·have:j=k:=by omega
  subst this;exact h i hi du
end Go.Am
namespace Go.Am
variable {n m:Nat}
theorem EK{f:Nat->Nat->Rat}{B:Nat}{piv:List Int}{k:Nat}(hk:k<m)(hm:m<=30)(hn:n<=30)(hrow:piv.length<n)(hf:kE f B)(hB:6*B+4<=1000000000):∀d i,n-i=d->piv.length<=i->i<=n->
  Loop (fun(s:Int)=>cX (m:Int) (k:Int) (az n m f) piv s) (i:Int)=some (if da f k n i<n then(az n m (ny f piv.length k (da f k n i) k),piv++[(k:Int)])else(az n m f,piv))
 |d,i,h,hri,hi=>by
  by_cases hlt:i<n
  ·rw[gS hlt];by_cases h0:f i k=0
   ·have hb:cX (m:Int) (k:Int) (az n m f) piv (i:Int)=some (.next ((i+1:Nat):Int)):=by
     unfold cX;rw[aP,if_pos (decide_eq_true (by omega)),bp hlt,Option.bind_some,cy hk,Option.bind_some,cW,Option.bind_some,if_neg (by rw[tV];exact fun h=>h h0),cI hlt (by omega)]
    rw[if_pos h0,dt (body:=fun(s:Int)=>cX (m:Int) (k:Int) (az n m f) piv s) hb]
    cases d with
    |zero=>omega
    |succ d=>exact EK hk hm hn hrow hf hB d (i+1) (by omega) (by omega) (by omega)
   ·rw[if_neg h0,if_pos hlt];refine bW (body:=fun(s:Int)=>cX (m:Int) (k:Int) (az n m f) piv s) ?_;have hp:bQ f piv.length i piv.length k≠0:=by
     unfold bQ;by_cases e:piv.length=i
     ·rw[if_pos e,e];exact h0
     ·rw[if_neg e,if_pos rfl];exact h0
    unfold cX;rw[aP,if_pos (decide_eq_true (by omega)),bp hlt,Option.bind_some,cy hk,Option.bind_some,cW,Option.bind_some,if_pos (tV.2 h0),Option.bind_some,bp hrow,Option.bind_some,Option.bind_some,Option.bind_some];rw[oT (a:=piv.length) (b:=i),FJ hrow hk hm hn (lL hf) hB hp,Option.bind_some,aQ (by simp only[List.length_singleton];omega)]
    rfl
  ·rw[jX hlt,if_neg hlt];refine bW (body:=fun(s:Int)=>cX (m:Int) (k:Int) (az n m f) piv s) ?_;unfold cX;rw[aP,if_neg (by rw[decide_eq_true_eq];omega)]
structure Jr(n m:Nat)(g:Nat->Nat->Rat)(piv:List Int):Prop where
 len:piv.length<=n
 sz:kE g (300*8^n)
 KZ:∀p∈piv,0<=p/\p<(m:Int)
theorem zc{a b:Nat}(h:a<=b):300*8^a<=300*8^b:=Nat.mul_le_mul_left _ (Nat.pow_le_pow_right (by decide) h)
structure D2(n m:Nat)(J:Nat->(Nat->Nat->Rat)->List Int->Prop):Prop where
 step:∀k (f:Nat->Nat->Rat) (piv:List Int) at',k<m->piv.length<n->piv.length<=at'->at'<n->f at' k≠0->lI f n piv.length k->J k f piv->J (k+1) (ny f piv.length k at' 0) (piv++[(k:Int)])
 skip:∀k (f:Nat->Nat->Rat) (piv:List Int),k<m->piv.length<n->(∀i,piv.length<=i->i<n->f i k=0)->J k f piv->J (k+1) f piv
theorem nJ{J:Nat->(Nat->Nat->Rat)->List Int->Prop}(kp:D2 n m J)(hm:m<=30)(hn:n<=6):∀d k (f:Nat->Nat->Rat) (piv:List Int),J k f piv->m-k=d->k<=m->piv.length<=n->lI f n piv.length k->kE f (300*8^piv.length)->(∀p∈piv,0<=p/\p<(m:Int))->
  ∃g pv,(∃k',k'<=m/\J k' g pv/\lI g n pv.length k'/\(k'=m\/pv.length=n))/\Loop (fun(s:Int×(List (List Rat))×(List Int))=>bM (m:Int) s.1 s.2.1 s.2.2) ((k:Int),az n m f,piv)=some (pv,az n m g)/\
   Loop (fun(s:Int×(List (List Rat))×(List Int))=>cR (m:Int) s.1 s.2.1 s.2.2) ((k:Int),az n m f,piv)=some (az n m g,pv)/\Jr n m g pv
 |d,k,f,piv,hJ,h,hk,hp,hz,hf,hr=>by
  have fin:Jr n m f piv:=⟨hp,fun i j=>Nat.le_trans (hf i j) (zc hp),hr⟩;by_cases hlt:k<m
  ·by_cases hpl:piv.length<n
   ·have hB:6*(300*8^piv.length)+4<=1000000000:=by
     have:300*8^piv.length<=300*8^5:=zc (by omega);have e:(300:Nat)*8^5=9830400:=by decide
     omega
    have hnext:6*(300*8^piv.length)+4<=300*8^(piv.length+1):=by
     rw[Nat.pow_succ];have:0<8^piv.length:=Nat.pow_pos (by decide);omega
    have he:=EK (f:=f) (piv:=piv) hlt hm (by omega) hpl hf hB (n-piv.length) piv.length rfl (Nat.le_refl _) (by omega);have hfr:=zP (f:=f) hlt (show n<=30 by omega) (n-piv.length) piv.length rfl (by omega);have hge:=qh (f:=f) (k:=k) (n:=n) (n-piv.length) piv.length rfl;by_cases hat:da f k n piv.length<n
    ·have hne:=mQ (f:=f) (k:=k) (n:=n) (n-piv.length) piv.length rfl hat;generalize da f k n piv.length=at' at*;have hsp:bQ f piv.length at' piv.length k≠0:=by
      unfold bQ;by_cases e:piv.length=at'
      ·rw[if_pos e,e];exact hne
      ·rw[if_neg e,if_pos rfl];exact hne
     rw[if_pos hat]at he;have hb1:bM (m:Int) (k:Int) (az n m f) piv=some (.next (((k+1:Nat):Int),az n m (ny f piv.length k at' 0),piv++[(k:Int)])):=by
      unfold bM;rw[if_pos (decide_eq_true (by omega)),aP,if_pos (decide_eq_true (by omega)),he,Option.bind_some,Option.bind_some,cI hlt (by omega),BX hz hge hat]
     have hb2:cR (m:Int) (k:Int) (az n m f) piv=some (.next (((k+1:Nat):Int),az n m (ny f piv.length k at' 0),piv++[(k:Int)])):=by
      have hi:=zw (lL (a:=piv.length) (b:=at') hf piv.length k);have hs:kE (bQ f piv.length at') (300*8^piv.length+1):=fun i j=>Nat.le_trans (lL (a:=piv.length) (b:=at') hf i j) (by omega);have hsc:=uf (n:=n) (m:=m) (f:=bQ f piv.length at') (row:=piv.length) (k:=0) (c:=1/bQ f piv.length at' piv.length k) hpl (Nat.zero_le _) hm hs hi (by omega);have hel:=Hk (n:=n) (m:=m) (f:=eR (bQ f piv.length at') piv.length (1/bQ f piv.length at' piv.length k) 0) (piv:=piv) (k:=k) hpl hlt hm (by omega) (rN (row:=piv.length) (k0:=0) (lL (a:=piv.length) (b:=at') hf) hi) (by omega);have q1:di (bQ f piv.length at' piv.length k):=by
       have:=lL (a:=piv.length) (b:=at') hf piv.length k;unfold di;omega
      unfold cR;rw[if_pos (decide_eq_true (by omega)),aP,if_pos (decide_eq_true (by omega)),hfr,Option.bind_some,if_neg (by simp;omega),bp hat,Option.bind_some,bp hpl,Option.bind_some,Option.bind_some,Option.bind_some,ou,Option.bind_some];rw[oT (a:=piv.length) (b:=at'),bp hpl,Option.bind_some,cy hlt,Option.bind_some,k8 hsp (show di 1 by decide+kernel) q1,Option.bind_some];have e1:Loop (fun(s:Int×(List (List Rat)))=>l8 (m:Int) piv (1/bQ f piv.length at' piv.length k) s.1 s.2) (0,az n m (bQ f piv.length at'))=some (az n m (eR (bQ f piv.length at') piv.length (1/bQ f piv.length at' piv.length k) 0)):=hsc;rw[e1,Option.bind_some,Option.bind_some,hel,Option.bind_some,Option.bind_some,aQ (by simp only[List.length_singleton];omega),Option.bind_some,cI hlt (by omega)]
      rfl
     rw[dt (body:=fun(s:Int×(List (List Rat))×(List Int))=>bM (m:Int) s.1 s.2.1 s.2.2) hb1,dt (body:=fun(s:Int×(List (List Rat))×(List Int))=>cR (m:Int) s.1 s.2.1 s.2.2) hb2];have hlen:(piv++[(k:Int)]).length=piv.length+1:=by simp
     cases d with
     |zero=>omega
     |succ d=>
      refine nJ kp hm hn d (k+1) _ _ (kp.step k f piv at' hlt hpl hge hat hne hz hJ) (by omega) (by omega) (by rw[hlen];omega) (by rw[hlen];exact Ap hz hge hat hne) (by
       rw[hlen];exact fun i j=>Nat.le_trans (DF hf i j) hnext) (fun p hpm=>?_)
      rcases List.mem_append.1 hpm with h|h
      ·exact hr p h
      ·rw[List.mem_singleton]at h;omega
    ·have hall:=oY (f:=f) (k:=k) (n:=n) (n-piv.length) piv.length rfl hat;have hle:=tt (f:=f) (k:=k) (n:=n) (n-piv.length) piv.length rfl (by omega);have hnn:da f k n piv.length=n:=by omega
     rw[if_neg hat]at he;rw[hnn]at hfr;have hb1:bM (m:Int) (k:Int) (az n m f) piv=some (.next (((k+1:Nat):Int),az n m f,piv)):=by
      unfold bM;rw[if_pos (decide_eq_true (by omega)),aP,if_pos (decide_eq_true (by omega)),he,Option.bind_some,Option.bind_some,cI hlt (by omega)]
     have hb2:cR (m:Int) (k:Int) (az n m f) piv=some (.next (((k+1:Nat):Int),az n m f,piv)):=by
      unfold cR;rw[if_pos (decide_eq_true (by omega)),aP,if_pos (decide_eq_true (by omega)),hfr,Option.bind_some,if_pos (by simp),Option.bind_some,cI hlt (by omega)]
     rw[dt (body:=fun(s:Int×(List (List Rat))×(List Int))=>bM (m:Int) s.1 s.2.1 s.2.2) hb1,dt (body:=fun(s:Int×(List (List Rat))×(List Int))=>cR (m:Int) s.1 s.2.1 s.2.2) hb2]
     cases d with
     |zero=>omega
     |succ d=>exact nJ kp hm hn d (k+1) _ _ (kp.skip k f piv hlt hpl hall hJ) (by omega) (by omega) hp (zF hz hall) hf hr
   ·refine⟨f,piv,⟨k,hk,hJ,hz,.inr (by omega)⟩,bW (body:=fun(s:Int×(List (List Rat))×(List Int))=>bM (m:Int) s.1 s.2.1 s.2.2) ?_,bW (body:=fun(s:Int×(List (List Rat))×(List Int))=>cR (m:Int) s.1 s.2.1 s.2.2) ?_,fin⟩
    ·show bM (m:Int) (k:Int) (az n m f) piv=_;unfold bM;rw[if_pos (decide_eq_true (by omega)),aP,if_neg (by rw[decide_eq_true_eq];omega)]
    ·show cR (m:Int) (k:Int) (az n m f) piv=_;unfold cR;rw[if_pos (decide_eq_true (by omega)),aP,if_neg (by rw[decide_eq_true_eq];omega)]
  ·refine⟨f,piv,⟨k,hk,hJ,hz,.inl (by omega)⟩,bW (body:=fun(s:Int×(List (List Rat))×(List Int))=>bM (m:Int) s.1 s.2.1 s.2.2) ?_,bW (body:=fun(s:Int×(List (List Rat))×(List Int))=>cR (m:Int) s.1 s.2.1 s.2.2) ?_,fin⟩
   ·show bM (m:Int) (k:Int) (az n m f) piv=_;unfold bM;rw[if_neg (by rw[decide_eq_true_eq];omega)]
   ·show cR (m:Int) (k:Int) (az n m f) piv=_;unfold cR;rw[if_neg (by rw[decide_eq_true_eq];omega)]
end Go.Am
namespace Go.Am
theorem rm(M:List (List Rat))(hl:M.length<=30)(hr:∀r∈M,r.length<=30):gB M=some M:=by
 unfold gB pa;rw[aQ (by omega),Option.bind_some];have hL:=fz (body:=fun(s:Int×(List (List Rat))×(List (List Rat)))=>eI M s.1 s.2.1 s.2.2) M.length (fun i=>(M.drop i,M.take i)) ([],M) (fun i hi=>by
  unfold eI;have ht:(M.take i).length=i:=by rw[List.length_take];omega
  rw[if_pos (decide_eq_true (by simp;omega)),aQ (by rw[ht]),List.drop_eq_getElem_cons hi];have e0:ix (M[i]::M.drop (i+1)) 0=some M[i]:=rfl;rw[e0,Option.bind_some];unfold pa;rw[aQ (by have:=hr _ (List.getElem_mem hi);omega),Option.bind_some,cI hi (by omega),List.take_succ_eq_append_getElem hi]
  rfl) (by
  unfold eI;rw[if_neg (by simp),List.drop_length,List.take_length])
 have:Loop (fun(s:Int×(List (List Rat))×(List (List Rat)))=>eI M s.1 s.2.1 s.2.2) (0,M,([]:List (List Rat)))=_:=hL;rw[this,Option.bind_some,Option.bind_some];exact aQ rfl
theorem vJ(M:List (List Rat))(hl:M.length<=30)(hr:∀r∈M,r.length<=30):j3 M=some M:=by
 unfold j3;have hL:=fz (body:=fun(s:Int×(List (List Rat)))=>fG M s.1 s.2) M.length (fun i=>M.take i) M (fun i hi=>by
  unfold fG;have ht:(M.take i).length=i:=by rw[List.length_take];omega
  rw[if_pos (decide_eq_true (by omega)),fU hi,Option.bind_some,aQ (by have:=hr _ (List.getElem_mem hi);omega),aQ (by rw[ht];omega),cI hi (by omega),List.take_succ_eq_append_getElem hi]) (by
  unfold fG;rw[if_neg (by simp),List.take_length])
 have:Loop (fun(s:Int×(List (List Rat)))=>fG M s.1 s.2) (0,([]:List (List Rat)))=_:=hL;rw[this,Option.bind_some,Option.bind_some]
theorem lS{n m:Nat}{f:Nat->Nat->Rat}:right (az n m f)=true:=by
 refine uK (fun i hi=>?_);have h0:0<(az n m f).length:=by omega
 rw[xZ h0];simp[az]
theorem oX{n m:Nat}{f:Nat->Nat->Rat}(h:0<n):gE (az n m f)=m:=by
 rw[xZ (by rw[aP];exact h)];simp[az]
theorem Aa{J:Nat->(Nat->Nat->Rat)->List Int->Prop}(n m:Nat)(f:Nat->Nat->Rat)(kp:D2 n m J)(hJ:J 0 f [])(hn:n<=6)(hm:m<=30)(h0:n=0->m=0)(hf:kE f 300):
  ∃g pv,(∃k',k'<=m/\J k' g pv/\lI g n pv.length k'/\(k'=m\/pv.length=n))/\jz (az n m f)=some (az n m g,pv)/\oq (az n m f)=some (az n m g,pv)/\Jr n m g pv:=by
 have hc:gE (az n m f)=m:=by
  by_cases h:n=0
  ·subst h;rw[h0 rfl];rfl
  ·exact oX (by omega)
 obtain⟨g,pv,h0',h1,h2,h3⟩:=nJ (n:=n) (m:=m) kp hm hn m 0 f [] hJ rfl (Nat.zero_le _) (Nat.zero_le _) (fun i j _ _ hj=>by omega) (by simpa using hf) (fun p hp=>by cases hp);refine⟨g,pv,h0',?_,?_,h3⟩
 ·unfold jz;rw[kO _ (by rw[aP];omega),Option.bind_some,hc];have:Loop (fun(s:Int×(List (List Rat))×(List Int))=>bM (m:Int) s.1 s.2.1 s.2.2) (0,az n m f,([]:List Int))=_:=h1;simp only;rw[this];rfl
 ·unfold oq;rw[vJ _ (by rw[aP];omega) (fun r hr=>by rw[mR hr];omega),Option.bind_some,yw _ (by rw[aP];omega),lS,if_pos rfl,Option.bind_some,hc];have:Loop (fun(s:Int×(List (List Rat))×(List Int))=>cR (m:Int) s.1 s.2.1 s.2.2) (0,az n m f,([]:List Int))=_:=h2;simp only;rw[this];rfl
end Go.Am
namespace Go.Am
def cr:List Nat->(Nat->Rat)->Rat
 |[],_=>0
 |a::l,g=>g a+cr l g
theorem bD{g h:Nat->Rat}:∀{l:List Nat},(∀a∈l,g a=h a)->cr l g=cr l h
 |[],_=>rfl
 |a::l,k=>by
  unfold cr;rw[k a (List.mem_cons_self),bD (fun b hb=>k b (List.mem_cons_of_mem _ hb))]
theorem gO{g h:Nat->Rat}:∀{l:List Nat},cr l (fun a=>g a+h a)=cr l g+cr l h
 |[]=>by unfold cr;grind
 |a::l=>by unfold cr;rw[gO];grind
theorem fj{c:Rat}{g:Nat->Rat}:∀{l:List Nat},cr l (fun a=>c*g a)=c*cr l g
 |[]=>by unfold cr;grind
 |a::l=>by unfold cr;rw[fj];grind
theorem iI{g:Nat->Rat}{l:List Nat}(h:∀a∈l,g a=0):cr l g=0:=by
 rw[bD (h:=fun _=>0*0) (fun a ha=>by rw[h a ha];grind),fj];grind
def qf(l:List Nat)(m:Nat->Nat->Rat)(x:Nat->Rat):Rat:=cr l fun i=>cr l fun j=>x i*x j*m i j
theorem xY{l:List Nat}{m m':Nat->Nat->Rat}{x x':Nat->Rat}(h:∀i∈l,∀j∈l,m i j=m' i j)(k:∀i∈l,x i=x' i):qf l m x=qf l m' x':=
 bD fun i hi=>bD fun j hj=>by rw[h i hi j hj,k i hi,k j hj]
theorem zp{k i:Nat}{l:List Nat}(hk:k∉l)(hi:i∈l):¬i=k:=fun e=>hk (by rw[←e];exact hi)
def symm(m:Nat->Nat->Rat):Prop:=∀i j,m i j=m j i
theorem qq{k:Nat}{l:List Nat}{m:Nat->Nat->Rat}{x:Nat->Rat}(hs:symm m):qf (k::l) m x=x k*x k*m k k+2*x k*cr l (fun j=>x j*m k j)+qf l m x:=by
 unfold qf;have e1:cr l (fun j=>x k*x j*m k j)=x k*cr l (fun j=>x j*m k j):=by
  rw[←fj];exact bD fun a _=>by grind
 have e2:cr l (fun i=>cr (k::l) fun j=>x i*x j*m i j)=x k*cr l (fun j=>x j*m k j)+cr l (fun i=>cr l fun j=>x i*x j*m i j):=by
  rw[←fj,←gO];exact bD fun a _=>by
   show x a*x k*m a k+_=_;rw[hs a k];grind
 have e3:cr (k::l) (fun i=>cr (k::l) fun j=>x i*x j*m i j)=cr (k::l) (fun j=>x k*x j*m k j)+cr l (fun i=>cr (k::l) fun j=>x i*x j*m i j):=rfl;have e4:cr (k::l) (fun j=>x k*x j*m k j)=x k*x k*m k k+cr l (fun j=>x k*x j*m k j):=rfl;rw[e3,e4,e1,e2];grind
def me(m:Nat->Nat->Rat)(k i j:Nat):Rat:=m i j-m i k/m k k*m k j
theorem pM{m:Nat->Nat->Rat}{k:Nat}(hs:symm m):symm (me m k):=fun i j=>by
 unfold me;rw[hs i j,hs i k,hs k j,Rat.div_def,Rat.div_def];grind
theorem B6{g h:Nat->Rat}{l l':List Nat}:cr l (fun i=>cr l' fun j=>g i*h j)=cr l g*cr l' h:=by
 rw[bD (h:=fun i=>cr l' h*g i) (fun i _=>by rw[fj];grind),fj];grind
theorem yz{k:Nat}{l:List Nat}{m:Nat->Nat->Rat}{x:Nat->Rat}(hs:symm m)(h:m k k≠0):qf l (me m k) x=qf l m x-cr l (fun j=>x j*m k j)*cr l (fun j=>x j*m k j)/m k k:=by
 have e:qf l m x=qf l (me m k) x+cr l (fun i=>cr l fun j=>(x i*m k i)*(x j*m k j/m k k)):=by
  unfold qf;rw[←gO];refine bD fun i _=>?_;rw[←gO];refine bD fun j _=>?_;unfold me;rw[hs i k,Rat.div_def,Rat.div_def];grind
 have e2:cr l (fun j=>x j*m k j/m k k)=cr l (fun j=>x j*m k j)/m k k:=by
  rw[bD (h:=fun j=>(m k k)⁻¹*(x j*m k j)) (fun j _=>by rw[Rat.div_def];grind),fj,Rat.div_def];grind
 rw[B6,e2]at e;rw[e,Rat.div_def,Rat.div_def];grind
def yI(l:List Nat)(m:Nat->Nat->Rat):Prop:=∀x,0<=qf l m x
theorem vN{k:Nat}{l:List Nat}{m:Nat->Nat->Rat}(hs:symm m)(h:0<m k k)(hp:yI l (me m k)):yI (k::l) m:=fun x=>by
 have h1:=hp x;rw[yz hs (by grind)]at h1;rw[qq hs];generalize cr l (fun j=>x j*m k j)=L at*;generalize qf l m x=q at*;have h2:0<=m k k*((x k+L/m k k)*(x k+L/m k k)):=Rat.mul_nonneg (Rat.le_of_lt h) (GU _);have h3:m k k*(L/m k k)=L:=by rw[Rat.mul_comm];exact Rat.div_mul_cancel (by grind)
 have h4:L*L/m k k=L*(L/m k k):=by rw[Rat.div_def,Rat.div_def,Rat.mul_assoc]
 rw[h4]at h1;generalize L/m k k=t at*;subst h3
 grind
theorem Af{k:Nat}{l:List Nat}{m:Nat->Nat->Rat}(hk:k∉l)(hs:symm m)(h:0<m k k)(hp:yI (k::l) m):yI l (me m k):=fun x=>by
 have h1:=hp (fun i=>if i=k then-(cr l (fun j=>x j*m k j))/m k k else x i);have hx:∀i∈l,(if i=k then-(cr l (fun j=>x j*m k j))/m k k else x i)=x i:=fun i hi=>by rw[if_neg (zp hk hi)]
 rw[qq hs,if_pos rfl,xY (m':=m) (x':=x) (fun _ _ _ _=>rfl) hx,bD (g:=fun j=>(if j=k then-(cr l (fun j=>x j*m k j))/m k k else x j)*m k j) (h:=fun j=>x j*m k j) (fun j hj=>by rw[hx j hj])]at h1;rw[yz hs (by grind)];generalize cr l (fun j=>x j*m k j)=L at*;generalize qf l m x=q at*;have h3:m k k*(L/m k k)=L:=by rw[Rat.mul_comm];exact Rat.div_mul_cancel (by grind)
 have h4:L*L/m k k=L*(L/m k k):=by rw[Rat.div_def,Rat.div_def,Rat.mul_assoc]
 have h5:-L/m k k=-(L/m k k):=by rw[Rat.div_def,Rat.div_def];grind
 rw[h5]at h1;rw[h4];generalize L/m k k=t at*;subst h3
 grind
theorem x6{k:Nat}{l:List Nat}{m:Nat->Nat->Rat}(hs:symm m)(h:m k k=0)(h0:∀i∈l,m k i=0)(hp:yI l m):yI (k::l) m:=fun x=>by
 rw[qq hs,h,iI (fun j hj=>by rw[h0 j hj];grind)];have:=hp x
 grind
theorem CW{k:Nat}{l:List Nat}{m:Nat->Nat->Rat}(hk:k∉l)(hs:symm m)(hp:yI (k::l) m):0<=m k k:=by
 have h1:=hp (fun i=>if i=k then 1 else 0);have hx:∀i∈l,(if i=k then(1:Rat)else 0)=0:=fun i hi=>by rw[if_neg (zp hk hi)]
 rw[qq hs,if_pos rfl,iI (fun j hj=>by
  show(if j=k then(1:Rat)else 0)*_=0;rw[hx j hj];grind)]at h1
 have h2:qf l m (fun i=>if i=k then 1 else 0)=0:=iI fun i hi=>iI fun j hj=>by
  show(if i=k then(1:Rat)else 0)*_*_=0;rw[hx i hi];grind
 rw[h2]at h1
 grind
theorem kL{l:List Nat}(hn:l.Nodup){i:Nat}(hi:i∈l){g:Nat->Rat}(h:∀j∈l,j≠i->g j=0):cr l g=g i:=by
 induction l with
 |nil=>cases hi
 |cons a l ih=>
  rw[List.nodup_cons]at hn;by_cases e:a=i
  ·subst e;unfold cr;rw[iI (fun j hj=>h j (List.mem_cons_of_mem _ hj) (fun e=>hn.1 (e▸hj)))];grind
  ·have hi':i∈l:=(List.mem_cons.1 hi).elim (fun h=>absurd h.symm e) id;unfold cr;rw[h a List.mem_cons_self e,ih hn.2 hi' (fun j hj=>h j (List.mem_cons_of_mem _ hj))];grind
theorem F5{k:Nat}{l:List Nat}{m:Nat->Nat->Rat}(hk:k∉l)(hn:l.Nodup)(hs:symm m)(h:m k k=0)(hp:yI (k::l) m){i:Nat}(hi:i∈l):m k i=0:=by
 have hne:i≠k:=fun e=>hk (e▸hi);have key:∀t:Rat,0<=2*t*m k i+m i i:=fun t=>by
  have h1:=hp (fun j=>if j=k then t else if j=i then 1 else 0);have hx:∀j∈l,j≠i->(if j=k then t else if j=i then(1:Rat)else 0)=0:=fun j hj hji=>by rw[if_neg (zp hk hj),if_neg hji]
  have hi1:(if i=k then t else if i=i then(1:Rat)else 0)=1:=by rw[if_neg hne,if_pos rfl]
  rw[qq hs,if_pos rfl,h,kL hn hi (fun j hj hji=>by rw[hx j hj hji];grind),hi1]at h1;have h2:qf l m (fun j=>if j=k then t else if j=i then 1 else 0)=m i i:=by
   generalize hxx:(fun j=>if j=k then t else if j=i then(1:Rat)else 0)=x;have hx':∀j∈l,j≠i->x j=0:=fun j hj hji=>by rw[←hxx];exact hx j hj hji
   have hi2:x i=1:=by rw[←hxx];exact hi1
   unfold qf;rw[kL hn hi (fun j hj hji=>iI fun a _=>by rw[hx' j hj hji];grind),kL hn hi (fun j hj hji=>by rw[hx' j hj hji];grind),hi2];grind
  rw[h2]at h1
  grind
 refine Classical.byContradiction fun hc=>?_;have h1:=key (-(m i i+1)/(2*m k i));have h2:2*(-(m i i+1)/(2*m k i))*m k i=-(m i i+1):=by
  have:-(m i i+1)/(2*m k i)*(2*m k i)=-(m i i+1):=Rat.div_mul_cancel (by grind)
  grind
 grind
def tD(f:Nat->Nat->Rat)(i j:Nat):Rat:=f (i+1) (j+1)-f (i+1) 0/f 0 0*f 0 (j+1)
def iF:Nat->(Nat->Nat->Rat)->Rat
 |0,_=>1
 |n+1,f=>if f 0 0≠0 then f 0 0*iF n (tD f)else if da f 0 (n+1) 0<n+1 then-(f (da f 0 (n+1) 0) 0)*iF n (tD (bQ f 0 (da f 0 (n+1) 0)))else 0
theorem sn{f g:Nat->Nat->Rat}{k n:Nat}(h:∀i,i<n->f i k=g i k):∀d i,n-i=d->da f k n i=da g k n i
 |0,i,e=>by rw[jX (by omega),jX (by omega)]
 |d+1,i,e=>by
  rw[gS (f:=f) (show i<n by omega),gS (f:=g) (show i<n by omega),h i (by omega),sn h d (i+1) (by omega)]
theorem pR:∀{n:Nat} {f g:Nat->Nat->Rat},(∀i j,i<n->j<n->f i j=g i j)->iF n f=iF n g
 |0,_,_,_=>rfl
 |n+1,f,g,h=>by
  have hs:∀{f g:Nat->Nat->Rat},(∀i j,i<n+1->j<n+1->f i j=g i j)->iF n (tD f)=iF n (tD g):=fun h=>pR fun i j hi hj=>by
   unfold tD;rw[h _ _ (by omega) (by omega),h _ _ (by omega) (by omega),h _ _ (by omega) (by omega),h _ _ (by omega) (by omega)]
  unfold iF;rw[h 0 0 (by omega) (by omega),hs h,sn (fun i hi=>h i 0 hi (by omega)) (n+1) 0 rfl]
  split
  ·rfl
  ·split
   ·rename_i h1;rw[h _ 0 h1 (by omega),hs (f:=bQ f 0 (da g 0 (n+1) 0)) (g:=bQ g 0 (da g 0 (n+1) 0)) (fun i j hi hj=>by
     unfold bQ;rw[h _ _ (by omega) hj,h _ _ h1 hj,h _ _ hi hj])]
   ·rfl
def pick(T:List Nat)(m:Nat->Nat->Rat)(a b:Nat):Rat:=m (T.getD a 0) (T.getD b 0)
theorem B4{k:Nat}{T:List Nat}{m:Nat->Nat->Rat}:tD (pick (k::T) m)=pick T (me m k):=rfl
theorem vu{k:Nat}{T:List Nat}{m:Nat->Nat->Rat}(h:m k k≠0):iF (k::T).length (pick (k::T) m)=m k k*iF T.length (pick T (me m k)):=by
 show iF (T.length+1) _=_;have e:pick (k::T) m 0 0=m k k:=rfl
 conv=>lhs;unfold iF
 rw[e,if_pos h,B4]
theorem Bl:∀(T:List Nat) (m:Nat->Nat->Rat),T.Nodup->symm m->yI T m->0<=iF T.length (pick T m)
 |[],m,_,_,_=>by show(0:Rat)<=1;decide
 |k::T,m,hn,hs,hp=>by
  rw[List.nodup_cons]at hn;have hd:=CW hn.1 hs hp;by_cases h0:m k k=0
  ·show 0<=iF (T.length+1) _;unfold iF;have e:pick (k::T) m 0 0=m k k:=rfl;rw[e,if_neg (by simpa using h0),if_neg (fun hl=>?_)]
   ·exact Rat.le_refl
   ·refine mQ (T.length+1) 0 rfl hl ?_;generalize da (pick (k::T) m) 0 (T.length+1) 0=p at*;unfold pick
    cases p with
    |zero=>exact h0
    |succ p=>
     show m (T.getD p 0) k=0;rw[hs];have hp':p<T.length:=by omega
     rw[h_ hp'];exact F5 hn.1 hn.2 hs h0 hp (List.getElem_mem hp')
  ·have hpos:0<m k k:=by grind
   rw[vu h0];exact Rat.mul_nonneg hd (Bl T _ hn.2 (pM hs) (Af hn.1 hs hpos hp))
def minors(l:List Nat)(m:Nat->Nat->Rat):Prop:=∀T,T.Sublist l->T≠[]->0<=iF T.length (pick T m)
theorem Fq{k:Nat}{m:Nat->Nat->Rat}:iF 1 (pick [k] m)=m k k:=by
 unfold iF;have e:pick [k] m 0 0=m k k:=rfl;rw[e];by_cases h:m k k=0
 ·rw[if_neg (by simpa using h),if_neg (fun hl=>?_),h];have h1:=mQ (f:=pick [k] m) 1 0 rfl hl;have h2:da (pick [k] m) 0 1 0=0:=by
   have:da (pick [k] m) 0 1 0<1:=hl;omega
  rw[h2]at h1;exact h1 h
 ·rw[if_pos h];unfold iF;grind
theorem Gp{k i:Nat}{m:Nat->Nat->Rat}(hs:symm m)(h:m k k=0)(h1:m k i≠0):iF 2 (pick [k,i] m)=-(m k i*m k i):=by
 have hf:da (pick [k,i] m) 0 2 0=1:=by
  rw[gS (show 0<2 by omega),if_pos (show pick [k,i] m 0 0=0 from h),gS (show 0+1<2 by omega),if_neg (show pick [k,i] m 1 0≠0 from fun e=>h1 (by rw[hs];exact e))]
 unfold iF;rw[if_neg (by simpa using(show pick [k,i] m 0 0=0 from h)),hf,if_pos (show 1<2 by decide)];have e1:pick [k,i] m 1 0=m k i:=hs i k;have e2:tD (bQ (pick [k,i] m) 0 1) 0 0=m k i-m k k/m i k*m i i:=rfl;rw[e1];unfold iF;rw[e2,h,Rat.div_def,if_pos (by grind)];unfold iF
 grind
theorem pL:∀(l:List Nat) (m:Nat->Nat->Rat),l.Nodup->symm m->minors l m->yI l m
 |[],m,_,_,_=>fun x=>by show(0:Rat)<=0;exact Rat.le_refl
 |k::l,m,hn,hs,hm=>by
  rw[List.nodup_cons]at hn;have hd:0<=m k k:=by
   have:=hm [k] (by simp) (by simp)
   rwa [show [k].length=1 from rfl,Fq]at this
  by_cases h0:m k k=0
  ·refine x6 hs h0 (fun i hi=>Classical.byContradiction fun hc=>?_) (pL l m hn.2 hs (fun T hT=>hm T (hT.trans (List.sublist_cons_self _ _))));have:=hm [k,i] (List.Sublist.cons_cons _ (List.singleton_sublist.2 hi)) (by simp);rw[show [k,i].length=2 from rfl,Gp hs h0 hc]at this;have h2:=GU (m k i);have h3:m k i*m k i=0:=by grind
   exact hc ((Rat.mul_eq_zero.1 h3).elim id id)
  ·have hpos:0<m k k:=by grind
   refine vN hs hpos (pL l _ hn.2 (pM hs) fun T hT _=>?_);have:=hm (k::T) (List.Sublist.cons_cons _ hT) (by simp);rw[vu h0]at this;refine Classical.byContradiction fun hc=>?_;have hlt:iF T.length (pick T (me m k))<0:=by grind
   have:=Rat.mul_lt_mul_of_pos_left hlt hpos
   grind
end Go.Am
namespace Go.Am
open Go.RowKit
theorem pf{z:Array Value}(h:∀u∈z.toList,u.oneCell'=true)(n:Nat):∀u∈(Builtin.zeroCells z n).toList,u.oneCell'=true:=by
 intro u hu;unfold Builtin.zeroCells at hu;rw[Array.toList_map]at hu;obtain⟨j,hj,rfl⟩:=List.mem_map.1 hu;have hj':j<n*z.size:=by simpa using hj
 have hz:0<z.size:=Nat.pos_of_ne_zero fun e=>by rw[e]at hj';simp at hj'
 have hlt:j%z.size<z.size:=Nat.mod_lt _ hz;rw[getElem!_pos z _ hlt];exact h _ (by simp)
theorem Cq{P:Program}(w:World)(t tx ty e:TypeId)(i:TypeInfo)(zv:Value)(k:IntKind)(ht:P.underlying t=some (.slice e))(htx:P.underlying tx=some (.int k))(hi:P.info? e=some i)(hz:i.zero=some zv)(hzs:zv.cells.size=i.size)(h1:∀u∈zv.cells.toList,u.oneCell'=true)(hm0:0<i.size)
  (n:Nat)(hn:(n:Int)<=9223372036854775807)(hb:n*i.bytes<=281474976710656):
  (n=0->(Builtin.append_ #[t,tx] ty #[.slice none 0 0,.int .i64 n]).run P w=.ok (.slice none 0 0) w)/\
  (∀g n' cap (cur:Array Value),w.heap[g]?=some (.cells cur e (0,0))->n'+n<=cap->n'*i.size+n*i.size<=cur.size->(Builtin.append_ #[t,tx] ty #[.slice (some ⟨g,0,none⟩) n' cap,.int .i64 n]).run P w=.ok (.slice (some ⟨g,0,none⟩) (n'+n) cap) (w.setRow g (cur.toList.take (n'*i.size)++(Builtin.zeroCells zv.cells n).toList++cur.toList.drop (n'*i.size+n*i.size)).toArray))/\
  (∀base sLen sCap (olds:List Value),(Builtin.firstCells i.size sLen (.slice base sLen sCap)).run P w.drew=.ok olds.toArray w.drew->sCap<sLen+n->((sLen+n:Nat):Int)<=9223372036854775807->Builtin.nextslicecap (sLen+n) sCap*i.bytes<=281474976710656->
   (Builtin.append_ #[t,tx] ty #[.slice base sLen sCap,.int .i64 n]).run P w=.ok (.slice (some ⟨w.heap.size,0,none⟩) (sLen+n) (grownCap w (sLen+n) sCap e)) (w.drew.alloc (.cells ((olds++(Builtin.zeroCells zv.cells n).toList).toArray++Builtin.zeroCells zv.cells (grownCap w (sLen+n) sCap e-(sLen+n))) e))):=by
 have hw:IntKind.i64.wrap (n:Int)=n:=by rw[IntKind.wrap_i64];omega
 have hneg:¬((n:Int)<0):=by omega
 have h48i:¬(281474976710656<(n:Int)*(i.bytes:Int)):=by
  rw[←Int.natCast_mul];omega
 have hzl:(Builtin.zeroCells zv.cells n).toList.length=n*i.size:=by rw[Array.length_toList,size_zeroCells,hzs]
 have hz1:∀u∈(Builtin.zeroCells zv.cells n).toList,u.oneCell'=true:=pf h1 n;refine⟨fun h0=>?_,fun g n' cap cur hg hroom hfit=>?_,fun base sLen sCap olds hold hg h63 hfit=>?_⟩
 ·subst h0;have hw0:IntKind.i64.wrap 0=0:=by decide
  simp[Builtin.append_,run_underlying ht,run_underlying htx,sizeOf,typeInfo,hi,asInt,asIntOf,hw0]
 ·have hst:=run_storeCells_at P g (n'*i.size) e (Builtin.zeroCells zv.cells n).toList 0 cur w hg (by rw[hzl];simpa using hfit) hz1;simp only[Nat.add_zero,hzl]at hst;by_cases h0:n=0
  ·subst h0;have hs0:(Builtin.zeroCells zv.cells 0).toList=[]:=List.eq_nil_of_length_eq_zero (by simpa using hzl);rw[hs0]at hst|-;have hr:(n'<=cap):=hroom;have hw0:IntKind.i64.wrap 0=0:=by decide
   simp[Builtin.append_,run_underlying ht,run_underlying htx,sizeOf,typeInfo,hi,asInt,asIntOf,hw0,hr,Addr.add_lit]at hst|-;rw[hst];rfl
  ·have hnm:¬(n*i.size=0):=Nat.ne_of_gt (Nat.mul_pos (by omega) hm0);simp[Builtin.append_,run_underlying ht,run_underlying htx,sizeOf,typeInfo,zeroValue,hi,hz,asInt,asIntOf,hw,hneg,h48i,hroom,Addr.add_lit,hnm]at hst|-;rw[hst];rfl
 ·have hn0:n≠0\/n=0:=by omega
  have hnr:¬(sLen+n<=sCap):=by omega
  have h63':¬(9223372036854775807<((sLen:Int)+(n:Int))):=by omega
  have h48':¬(281474976710656<Builtin.nextslicecap (sLen+n) sCap*i.bytes):=by omega
  by_cases h0:n=0
  ·subst h0;have hw0:IntKind.i64.wrap 0=0:=by decide
   have hs0:(Builtin.zeroCells zv.cells 0)=#[]:=by apply Array.eq_empty_of_size_eq_zero;simpa using hzl
   simp[Builtin.append_,run_underlying ht,run_underlying htx,sizeOf,typeInfo,zeroValue,hi,hz,asInt,asIntOf,hw0,Question.forced,hold,newRow,grownCap,hs0]at hnr h63' h48'|-;rw[if_neg (by omega),if_neg (by omega),if_neg (by omega)]
  ·have hnm:¬(n*i.size=0):=Nat.ne_of_gt (Nat.mul_pos (by omega) hm0);simp[Builtin.append_,run_underlying ht,run_underlying htx,sizeOf,typeInfo,zeroValue,hi,hz,asInt,asIntOf,hw,hneg,h48i,hnr,h63',h48',Question.forced,hold,newRow,grownCap,hnm]
   congr 2
   apply Array.ext';simp[List.append_assoc]
section
variable {P:Program} {os:List Oper} {c:Ctx} {T T':List (Nat×D)} {H H':List (Nat×Hp)} {sps:List Spec}
variable {ops:Array Oper} {dst:Option Nat} {ty:TypeId} {pos:String} {aft:Array Edge}
theorem rS{t tx:TypeId}{x y:Operand}{r:Nat}(a:Act)(w w':World){v:Value}(h:(Builtin.append_ #[t,tx] ty #[a.eval x,a.eval y]).run P w=.ok v w'):
  (execOp a.eval ⟨some r,.call {callee:=.builtin .append,args:=#[x,y],argTypes:=#[t,tx]},ty,pos,aft,none⟩).run P w=.ok (.value v) w':=by
 simp only[execOp,resolve,Sem.run_bind,Sem.run_pure,Result.andThen_ok,invoke,builtin,List.map_toArray,List.map_cons,List.map_nil,h]
theorem cP.Jn{α:Type}{e:ak α}{T0:Nat->Option D}{H0:Nat->Option Hp}{a:Act}{w:World}{ε:Env}{φ:Nat->cV}(hs:cP c T0 H0 a w ε φ){t tx te:TypeId}{r1 r bt:Nat}{xs:List α}{zl:List D}{k:Nat}(a0:α)(hh:H0 r1=some (aY e te xs))(hm:nF P t=some (te,e.n,bt,zl))(hk:P.underlying tx=some (.int .i64))(hz:rY zl (e.c a0))
  (hb:(xs.length+k)*bt<=140737488355328)(hmax:xs.length+k<=9223372036854775807)(hf:H0 r=none):
  ∃v' w' ε' φ',(Builtin.append_ #[t,tx] ty #[ε r1,.int .i64 k]).run P w=.ok v' w'/\cP c T0 (bq H0 [(r1,.dead),(r,aY e te (xs++List.replicate k a0))]) a w' ε' φ'/\ε' r=v'/\v'.oneCell'=true:=by
 obtain⟨i,v,hu,hinf,hzv,hsz,hbz,ez,hv1,hvs,hm0⟩:=iB hm;have hbk:k*i.bytes<=281474976710656:=by
  rw[hbz];have:k*bt<=(xs.length+k)*bt:=Nat.mul_le_mul_right _ (by omega);omega
 obtain⟨z1,z2,z3⟩:=Cq (P:=P) w t tx ty te i v .i64 hu hk hinf hzv (by rw[hvs,hsz]) hv1 (by omega) k (by omega) hbk;have hzl:(Builtin.zeroCells v.cells k).toList.length=k*e.n:=by rw[Array.length_toList,size_zeroCells,hvs]
 have hall:cp ε w (Am.al c H0 φ) (flat e (List.replicate k a0)) (Builtin.zeroCells v.cells k).toList:=by
  have e1:Builtin.zeroCells v.cells k=madeCells v.cells (k*e.n):=by rw[←hvs];rfl
  rw[e1,fB hvs hm0 k,tZ e a0 k];refine(hz.rep k).all ?_;rw[ez];exact gg (ju _ _ _ _) k
 obtain⟨v',w',ε',φ',hrun,hS,ev',ho⟩:=hs.IS (P:=P) (ty:=ty) (tx:=tx) (x:=.int .i64 k) hm (r:=r) (n2:=k) (hl:=dK e (xs++List.replicate k a0)) hh hf (bI e xs) (by rw[bI,List.length_replicate]) (dK e _) (nV e xs _).symm hzl (pf hv1 k) hall
  z1 (fun g n' cap cur hg hroom hfit=>by have:=z2 g n' cap cur hg hroom (by rw[hsz];rw[hzl]at hfit;exact hfit);rw[hsz]at this;rw[hzl];exact this)
  (fun i' zv' e1 e2 e3 e4 e5 base sLen sCap olds ho hc h63 hfit=>by
   have e6:i'=i:=by rw[hinf]at e2;injection e2 with e2;exact e2.symm
   subst e6;have e7:zv'=v:=by rw[hzv]at e3;injection e3 with e3;exact e3.symm
   subst e7;exact z3 base sLen sCap olds ho hc h63 (by rw[hbz];exact hfit)) hb hmax
 exact⟨v',w',ε',φ',hrun,hS,ev',ho.1⟩
theorem an.Jn{α:Type}{e:ak α}{t tx te:TypeId}{x y:Operand}{r1 r m bt:Nat}{xs:List α}{zl:List D}{dx:D}{n:Int}(a0:α)(hx:ev T x=some dx)(hdx:Le dx (.own r1))(hy:ev T y=some (.int .i64 n))(hh:ah H r1=some (aY e te xs))(hm:nF P t=some (te,m,bt,zl))(hk:P.underlying tx=some (.int .i64))(hmn:m=e.n)(hz:rY zl (e.c a0))
  (h0:0<=n)(hb:(xs.length+n.toNat)*bt<=140737488355328)(hmax:xs.length+n.toNat<=9223372036854775807)(hf:ah H r=none)
  (hr:an P ops c os ((r,.own r)::T) ((r1,.dead)::(r,aY e te (xs++List.replicate n.toNat a0))::H) sps T' H'):
  an P ops c (⟨some r,.call {callee:=.builtin .append,args:=#[x,y],argTypes:=#[t,tx]},ty,pos,aft,none⟩::os) T H
   (apps x dx y (.int .i64 n) r1 r [(r1,aY e te xs)] (aY e te (xs++List.replicate n.toNat a0))::sps) T' H':=by
 subst hmn;refine .cons (sp:=apps x dx y (.int .i64 n) r1 r [(r1,aY e te xs)] (aY e te (xs++List.replicate n.toNat a0))) ?_ (bb.2 ⟨(ay hx).1,(ay hy).1⟩) ⟨hh,trivial⟩ ⟨hf,trivial⟩ hr;intro hd T0 H0 hi du hnew a w ⟨ε,φ,hs⟩ Q K hK;rw[if_pos (bm rfl _)];obtain⟨hi1,hi2⟩:=bb.1 hi;have h1:a.eval x=ε r1:=(hdx.1 _ _ _ _ (hs.ev hi1 (ay hx).2).1).1;have h2:a.eval y=.int .i64 n:=(hs.ev hi2 (ay hy).2).1;obtain⟨k,rfl⟩:∃k:Nat,n=k:=⟨n.toNat,by omega⟩;rw[Int.toNat_natCast]at hb hmax;simp only[Int.toNat_natCast]at hK;obtain⟨v',w',ε',φ',hrun,hS,ev',ho⟩:=hs.Jn (P:=P) (ty:=ty) (r:=r) (k:=k) a0 du.1 hm hk hz hb hmax hnew.1;have hrun':(Builtin.append_ #[t,tx] ty #[a.eval x,a.eval y]).run P w=.ok v' w':=by rw[h1,h2];exact hrun
 simp only[Oper.wp,rS a w w' hrun',Oper.upon];refine hK _ _ ⟨ε',φ',hS.put (d:=.own r) (dq hd) ⟨ev'.symm,ho⟩ (fun r' hr'=>?_)⟩;have:r'=r:=by simpa [D.own]using hr'
 subst this;rw[fO];have hne:r'≠r1:=fun e=>by subst e;have:=du.1;have h0:=hnew.1;rw[h0]at this;cases this
 rw[aK _ _ hne,au];simp
end
end Go.Am
