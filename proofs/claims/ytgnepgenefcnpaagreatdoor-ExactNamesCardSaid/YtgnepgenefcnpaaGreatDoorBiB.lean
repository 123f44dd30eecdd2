/- Part 2 of 5 of what the laws of layer 1 share: contracts of functions of the program, each for every argument of its description; no condition beyond it. -/
import Derived.Test.YtgnepgenefcnpaaGreatDoorBiA
import Derived.Laws.Bits64b
import Derived.Shelf.Strings.SlTrimAscii
import Derived.Shelf.Strings.Trim
import Derived.Shelf.Small.Strs
import Derived.Shelf.Strings.Search1
import Derived.Shelf.Strings.Search2
import Derived.Shelf.Strings.Cut
import Derived.Test.YtgnepgenefcnpaaGreatDoorProg
set_option linter.unusedVariables false
set_option linter.unusedSimpArgs false
namespace Go.Am
open Go.RowKit
theorem wrap_u32{z:Int}{n:Nat}(h:z=n):IntKind.u32.wrap z=((n%4294967296:Nat):Int):=by rw[IntKind.wrap_u32];omega
theorem wrap_u64{z:Int}{n:Nat}(h:z=n)(hn:n<18446744073709551616):IntKind.u64.wrap z=(n:Int):=by rw[IntKind.wrap_u64];omega
theorem fE{z:Int}{n:Nat}(h:z=n)(hn:n<9223372036854775808):IntKind.i64.wrap z=(n:Int):=by rw[IntKind.wrap_i64];omega
theorem tg{k:IntKind}{n:Nat}(hk:32<=k.bits):wx .shr k (n:Int) 32=some ((n/4294967296:Nat):Int):=by
 have:min (32:Int).toNat k.bits=32:=by simp;omega
 unfold wx;rw[if_neg (by omega)];simp only[this]
 congr 1
 rw[Int.fdiv_eq_ediv_of_nonneg _ (by decide)];omega
theorem ie(n:Nat):IntKind.u32.wrap (n:Int)=((n%4294967296:Nat):Int):=wrap_u32 rfl
theorem bJ{n:Nat}(hn:n<18446744073709551616):IntKind.u64.wrap (n:Int)=(n:Int):=wrap_u64 rfl hn
theorem eY{n:Nat}(hn:n<4294967296):IntKind.u32.wrap (n:Int)=(n:Int):=by rw[ie];omega
theorem rB{n m:Nat}(hn:n+m<9223372036854775808):IntKind.i64.wrap ((n:Int)+(m:Int))=((n+m:Nat):Int):=fE (by omega) hn
theorem de{m:Nat}{ty:TypeId}{l l':List D}{hl:bF l=[]}{hl':bF l'=[]}(h:l=l'):Hp.row m ty l hl=Hp.row m ty l' hl':=by subst h;rfl
theorem AY.of_eq{d d':Hp}(h:d=d'):AY d d':=h▸.refl d
theorem cM{T:List (Nat×D)}:∀{l:List (Nat×D)},l.map (fun x=>aO T x.1)=l.map (fun x=>some x.2)->gG T l
 |[],_=>trivial
 |(t,d)::l,h=>by simp only[List.map_cons,List.cons.injEq]at h;exact⟨⟨d,h.1,.refl d⟩,cM h.2⟩
theorem hP{H:List (Nat×Hp)}:∀{l:List (Nat×Hp)},l.map (fun x=>ai H x.1)=l.map (fun x=>some x.2)->jw H l
 |[],_=>trivial
 |(t,d)::l,h=>by simp only[List.map_cons,List.cons.injEq]at h;exact⟨⟨d,h.1,.refl d⟩,hP h.2⟩
theorem int_eq{k:IntKind}{a b:Int}(h:a=b):Le (.int k a) (.int k b):=.of_eq (by rw[h])
theorem oR(n:Nat)(hn:n<18446744073709551616):j5 PP 145 [.int .u64 n] (ah n):=by
 refine .of Go.Proofs.Tryz.func145 rfl (by kernel_rfl) rfl rfl rfl (fun A w0=>?_);refine .ak (.av rfl .nil) rfl ?_;have hl:cE [n%4294967296,n/4294967296]:=by intro d hd;simp at hd;omega
 have hv:val [n%4294967296,n/4294967296]=n:=by simp only[val];omega
 refine .ak (.mv rfl<|.cv rfl jX (ie n)<|.mv rfl<|.sh rfl rfl (tg (by decide))<|.cv rfl jX (eY (by omega))<|
  .bl (hl:=rfl) [(0,_,.int .u32 (n%4294967296:Nat),[.int .u32 (n%4294967296:Nat)]),(1,_,.int .u32 (n/4294967296:Nat),[.int .u32 (n/4294967296:Nat)])] xC rfl rfl ⟨rfl,rfl,.one rfl,rfl,rfl,rfl,.one rfl,rfl,trivial⟩ (by simp[qs,ev,aO,bf]) rfl rfl<|
  .call (kc [n%4294967296,n/4294967296] hl (by simp)) ⟨rfl,trivial⟩<|.av rfl .nil) rfl ?_
 refine .og rfl (.tmp rfl) (.of_eq ?_) rfl;rw[hv]
theorem da(l:List Nat)(i:Nat):val (l.take (i+1))=val (l.take i)+4294967296^i*l.getD i 0:=by
 by_cases h:i<l.length
 ·rw[dq (List.getElem?_eq_getElem h)];simp[h]
 ·rw[List.take_of_length_le (by omega),List.take_of_length_le (by omega)];simp[List.getD,List.getElem?_eq_none (show l.length<=i by omega)]
theorem eL{l:List Nat}{i:Nat}(h:i<l.length)(d:Nat):val ((l.set i d).take (i+1))=val (l.take i)+4294967296^i*d:=by
 rw[da]
 congr 1
 ·rw[List.take_set_of_le (Nat.le_refl i)]
 ·simp[h]
theorem gP{l:List Nat}(h:cE l){d:Nat}(hd:d<4294967296)(i:Nat):cE (l.set i d):=fun x hx=>(List.mem_or_eq_of_mem_set hx).elim (h x) (fun e=>e▸hd)
theorem bO{l:List Nat}(h:cE l)(i:Nat):l.getD i 0<4294967296:=by
 by_cases hi:i<l.length
 ·simp[hi];exact h _ (List.getElem_mem hi)
 ·simp[List.getElem?_eq_none (show l.length<=i by omega)]
theorem fT(n:Nat):cE (List.replicate n 0):=fun d hd=>by rw[List.eq_of_mem_replicate hd];omega
theorem ks(n:Nat):List.replicate n (D.int .u32 0)=bB (List.replicate n 0):=by simp[bB]
theorem dN(l:List Nat)(i d:Nat):(bB l).set ((i:Int).toNat*1) (.int .u32 (d:Nat))=bB (l.set i d):=by rw[Int.toNat_natCast,Nat.mul_one,yG]
theorem ye{p c d e:Nat}{v va vb:Nat}(h:v+p*c=va+vb):v+p*((c+d+e)%4294967296)+p*4294967296*((c+d+e)/4294967296)=va+p*d+(vb+p*e):=by
 have:p*((c+d+e)%4294967296)+p*4294967296*((c+d+e)/4294967296)=p*c+p*d+p*e:=by
  rw[Nat.mul_assoc,←Nat.mul_add,Nat.mod_add_div,Nat.mul_add,Nat.mul_add]
 omega
theorem Au(a b:List Nat)(ha:cE a)(hb:cE b)(hla:a.length<=1099511627776)(hlb:b.length<=1099511627776){s:Nat}(hv0:val a+val b=s):j5 PP 212 [cS a,cS b] (ah s):=by
 refine .of Go.Proofs.Tryz.func212 rfl (by kernel_rfl) rfl rfl rfl (fun A w0=>?_);refine .ak (.av rfl<|.nil) rfl ?_;refine .pz (ι:={p:List Nat×List Nat//cE p.1/\cE p.2/\p.1.length<=1099511627776/\p.2.length<=p.1.length/\val p.1+val p.2=s}) (fun p=>[(0,cS p.1.1),(1,cS p.1.2)]) (fun _=>[]) ?_ ?_
 ·by_cases h:a.length<b.length
  ·refine .ak (.mv rfl<|.ln rfl jI<|.mv rfl<|.ln rfl jI<|.cm rfl rfl (b:=true) (by simp[cP,h])<|.nil) rfl ?_;refine .cT rfl (.region (.mv rfl<|.mv rfl<|.av rfl<|.av rfl<|.nil) rfl fun _ _ hs=>?_);exact hs.to ⟨(b,a),hb,ha,hlb,Nat.le_of_lt h,(Nat.add_comm _ _).trans hv0⟩ (cM rfl) trivial rfl rfl
  ·refine .ak (.mv rfl<|.ln rfl jI<|.mv rfl<|.ln rfl jI<|.cm rfl rfl (b:=false) (by simp[cP];omega)<|.nil) rfl ?_;exact .cF rfl (.skip fun _ _ hs=>hs.to ⟨(a,b),ha,hb,hla,Nat.le_of_not_lt h,hv0⟩ (cM rfl) trivial rfl rfl)
 rintro⟨⟨a',b'⟩,ha',hb',hl,hle,hval⟩;simp only at ha' hb' hl hle hval;clear hv0 ha hb hla hlb;show Ok PP _ [(0,cS a'),(1,cS b')] [] _ _;refine .ak (.mv rfl<|.ln rfl jI<|.ar rfl rfl (congrArg some (rB (n:=a'.length) (m:=1) (by omega)))<|.AM rfl rfl xC rfl (by omega) (by omega) rfl<|.av rfl<|.nil) rfl ?_;refine .ak (.av rfl<|.nil) rfl ?_;refine .pz (ι:={p:List Nat×Nat//p.1.length=a'.length+1/\cE p.1/\p.2<=1/\val (p.1.take a'.length)+4294967296^a'.length*p.2=s})
  (fun p=>[(0,cS a'),(1,cS b'),(18,.own 18),(5,.own 18),(6,.int .u64 p.1.2)]) (fun p=>[(18,.row 1 230 (bB p.1.1) (aR _))]) ?_ ?_
 ·refine .ak (.mv rfl<|.ln rfl jI<|.mv rfl<|.nil) rfl ?_;refine .block (.loop (ι:={p:List Nat×Nat×Nat//p.1.length=a'.length+1/\cE p.1/\p.2.1<=1/\p.2.2<=a'.length/\val (p.1.take p.2.2)+4294967296^p.2.2*p.2.1=val (a'.take p.2.2)+val (b'.take p.2.2)})
   (fun p=>[(0,cS a'),(1,cS b'),(18,.own 18),(5,.own 18),(6,.int .u64 p.1.2.1),(20,.int .i64 a'.length),(21,.int .i64 p.1.2.2)]) (fun p=>[(18,.row 1 230 (bB p.1.1) (aR _))])
   (fun p=>a'.length-p.1.2.2) ⟨(List.replicate (a'.length+1) 0,0,0),by simp,fT _,by simp,Nat.zero_le _,by simp[val]⟩
   (cM rfl) ⟨⟨_,rfl,.of_eq (de (ks _))⟩,trivial⟩ rfl rfl ?_)
  rintro⟨⟨zs,c,i⟩,hzl,hzs,hc,hi,hv⟩;simp only at hzl hzs hc hi hv;show Ok PP _ [(0,cS a'),(1,cS b'),(18,.own 18),(5,.own 18),(6,.int .u64 c),(20,.int .i64 a'.length),(21,.int .i64 i)] [(18,.row 1 230 (bB zs) (aR _))] _ _;by_cases hlt:i<a'.length
  ·refine .ak (.cm rfl rfl (b:=true) (by simp[cP,hlt])<|.nil) rfl (.sq ?_);refine .cT rfl (.skip (Ok.on ?_));refine .pz (ι:={q:List Nat×Nat//q.1.length=a'.length+1/\cE q.1/\q.2<=1/\val (q.1.take (i+1))+4294967296^(i+1)*q.2=val (a'.take (i+1))+val (b'.take (i+1))})
    (fun p=>[(0,cS a'),(1,cS b'),(18,.own 18),(5,.own 18),(6,.int .u64 p.1.2),(20,.int .i64 a'.length),(21,.int .i64 i)]) (fun p=>[(18,.row 1 230 (bB p.1.1) (aR _))]) ?_ ?_
   ·have hx:a'[i]?=some (a'.getD i 0):=by simp[hlt]
    have hdl:=bO ha' i;have hel:=bO hb' i;have hst:=da a' i;have hst':=da b' i;generalize a'.getD i 0=d at hx hdl hst;refine .block (.ak (.mv rfl<|.av rfl<|.nil) rfl ?_);refine .ak (.mv rfl<|.mv rfl<|.mv rfl<|.nA rfl rfl mg (by omega) (by omega) (bj hx)<|.iu rfl n0<|.cv rfl kJ (bJ (by omega))<|
     .ar rfl rfl (congrArg some (wrap_u64 (n:=c+d) (by omega) (by omega)))<|.av rfl<|.nil) rfl ?_
    refine .cut [(0,cS a'),(1,cS b'),(18,.own 18),(5,.own 18),(6,.int .u64 (c+d+b'.getD i 0:Nat)),(7,.int .i64 i),(20,.int .i64 a'.length),(21,.int .i64 i)] [(18,.row 1 230 (bB zs) (aR _))] ?_ ?_
    ·by_cases hb:i<b'.length
     ·have hy:b'[i]?=some (b'.getD i 0):=by simp[hb]
      generalize b'.getD i 0=e at hy hel hst';refine .ak (.mv rfl<|.mv rfl<|.ln rfl jI<|.cm rfl rfl (b:=true) (by simp[cP,hb])<|.nil) rfl ?_;refine .cT rfl (.region (.mv rfl<|.mv rfl<|.mv rfl<|.nA rfl rfl mg (by omega) (by omega) (bj hy)<|.iu rfl n0<|.cv rfl kJ (bJ (by omega))<|
       .ar rfl rfl (congrArg some (wrap_u64 (n:=c+d+e) (by omega) (by omega)))<|.av rfl<|.nil) rfl fun _ _ hs=>?_)
      exact hs.sub (cM rfl) (hP rfl) rfl rfl
     ·have he:b'.getD i 0=0:=by simp[List.getElem?_eq_none (show b'.length<=i by omega)]
      refine .ak (.mv rfl<|.mv rfl<|.ln rfl jI<|.cm rfl rfl (b:=false) (by simp[cP];omega)<|.nil) rfl ?_;refine .cF rfl (.skip fun _ _ hs=>?_);exact hs.sub ⟨⟨_,rfl,.refl _⟩,⟨_,rfl,.refl _⟩,⟨_,rfl,.refl _⟩,⟨_,rfl,.refl _⟩,⟨_,rfl,int_eq (by omega)⟩,⟨_,rfl,.refl _⟩,⟨_,rfl,.refl _⟩,⟨_,rfl,.refl _⟩,trivial⟩ (hP rfl) rfl rfl
    generalize b'.getD i 0=e at hel hst';refine .ak (.mv rfl<|.mv rfl<|.mv rfl<|.cv rfl jX (ie _)<|.nG (n:=a'.length+1) (m':=1) rfl rfl rfl mg (by rw[bx,hzl];omega) rfl rfl (by omega) (by omega)<|.vC rfl rfl rfl n0 rfl rfl (by simp[bx,hzl];try omega)<|.nil) rfl ?_;refine .region (.mv rfl<|.sh rfl rfl (tg (by decide))<|.av rfl<|.nil) rfl fun _ _ hs=>?_;refine hs.to ⟨(zs.set i ((c+d+e)%4294967296),(c+d+e)/4294967296),by simpa using hzl,gP hzs (Nat.mod_lt _ (by omega)) i,?_,?_⟩
     (cM rfl) ⟨⟨_,rfl,.of_eq (de (dN ..))⟩,trivial⟩ rfl rfl
    ·simp only;omega
    ·simp only;rw[eL (by omega),hst,hst',Nat.pow_succ];exact ye hv
   ·rintro⟨⟨zs',c'⟩,h1,h2,h3,h4⟩;simp only at h1 h2 h3 h4;show Ok PP _ [(0,cS a'),(1,cS b'),(18,.own 18),(5,.own 18),(6,.int .u64 c'),(20,.int .i64 a'.length),(21,.int .i64 i)] [(18,.row 1 230 (bB zs') (aR _))] _ _;refine .region (.ar rfl rfl (congrArg some (rB (n:=i) (m:=1) (by omega)))<|.mv rfl<|.nil) rfl fun _ _ hs=>?_;exact hs.round (m:=a'.length-i) ⟨(zs',c',i+1),h1,h2,h3,hlt,h4⟩ (by simp only;omega) (cM rfl) (hP rfl) rfl rfl
  ·have:i=a'.length:=by omega
   subst this;refine .ak (.cm rfl rfl (b:=false) (by simp[cP])<|.nil) rfl (.sq ?_);refine .cF rfl (.exit fun _ _ hs=>?_);refine hs.to ⟨(zs,c),hzl,hzs,hc,?_⟩ (cM rfl) (hP rfl) rfl rfl;rw[←hval];simpa [List.take_of_length_le hle]using hv
 rintro⟨⟨zs,c⟩,hzl,hzs,hc,hv⟩;simp only at hzl hzs hc hv;show Ok PP _ [(0,cS a'),(1,cS b'),(18,.own 18),(5,.own 18),(6,.int .u64 c)] [(18,.row 1 230 (bB zs) (aR _))] _ _;refine .ak (.mv rfl<|.mv rfl<|.ln rfl jI<|.mv rfl<|.cv rfl jX (eY (by omega))<|.nG (n:=a'.length+1) (m':=1) rfl rfl rfl mg (by rw[bx,hzl];omega) rfl rfl (by omega) (by omega)<|.vC rfl rfl rfl n0 rfl rfl (by simp[bx,hzl];try omega)<|.nil) rfl ?_;refine .sD (n:=a'.length+1) (m':=1) 5 rfl rfl (by simp[bx,hzl]) rfl rfl ?_;have hset:(bB zs).set ((a'.length:Int).toNat*1) (.int .u32 c)=bB (zs.set a'.length c):=dN ..;have hlv:val (zs.set a'.length c)=s:=by
  have:=eL (l:=zs) (i:=a'.length) (by omega) c;rw[List.take_of_length_le (by simp;omega)]at this;rw[this,hv]
 rw[←hlv];refine .sub [(5,cS (zs.set a'.length c))] [] ⟨⟨_,rfl,.of_eq (kO (by simp[hzl]) hset)⟩,trivial⟩ trivial rfl rfl ?_;refine .ak (.mv rfl<|.call (kc _ (gP hzs (by omega) _) (by simp;omega)) ⟨rfl,trivial⟩<|.av rfl<|.nil) rfl ?_;exact .og rfl (.tmp rfl) (.refl _) rfl
end Go.Am
namespace Go.Am
open Go.RowKit
section
variable {P:Program} {os:List Oper} {c:Ctx} {T T':List (Nat×D)} {H H':List (Nat×Hp)} {sps:List Spec}
variable {ops:Array Oper} {dst:Option Nat} {ty:TypeId} {pos:String} {aft:Array Edge}
theorem aj.CK{xt:TypeId}{x:Operand}{k:IntKind}{n r:Int}(hx:ev T x=some (.int k n))(h:bits .xor k (if k.signed then-1 else k.max) n=r)(hr:aj P ops c os (bf T dst (.int k r)) H sps T' H'):
  aj P ops c (⟨dst,.unOp .xor xt x,ty,pos,aft,none⟩::os) T H (ps [(x,.int k n)] (.int k r)::sps) T' H':=
 .pure [(x,.int k n)] rfl (by simpa using hx) (iO rfl) (fun ε w S a ha=>by
  have h1:a.eval x=.int k n:=ha (x,.int k n) (by simp);subst h;exact⟨_,by simp only[execOp,h1,Op.unary,Sem.run_bind,Sem.run_pure];rfl,rfl⟩) hr
end
theorem iK(a b:Nat)(ha:a<4294967296)(hb:b<4294967296):bits .and .u32 (a:Int) (b:Int)=((a&&&b:Nat):Int)/\bits .or .u32 (a:Int) (b:Int)=((a|||b:Nat):Int)/\bits .xor .u32 (a:Int) (b:Int)=((a^^^b:Nat):Int):=by
 have h1:(BitVec.ofInt 32 (a:Int)).toNat=a:=by
  rw[BitVec.ofInt_natCast,BitVec.toNat_ofNat];exact Nat.mod_eq_of_lt (by omega)
 have h2:(BitVec.ofInt 32 (b:Int)).toNat=b:=by
  rw[BitVec.ofInt_natCast,BitVec.toNat_ofNat];exact Nat.mod_eq_of_lt (by omega)
 have x1:a&&&b<2^32:=Nat.and_lt_two_pow _ (by omega);have x2:a|||b<2^32:=Nat.or_lt_two_pow (by omega) (by omega);have x3:a^^^b<2^32:=Nat.xor_lt_two_pow (by omega) (by omega);refine⟨?_,?_,?_⟩
 ·show IntKind.u32.wrap ((BitVec.ofInt 32 (a:Int)&&&BitVec.ofInt 32 (b:Int)).toNat:Int)=_;rw[BitVec.toNat_and,h1,h2,eY (by omega)]
 ·show IntKind.u32.wrap ((BitVec.ofInt 32 (a:Int)|||BitVec.ofInt 32 (b:Int)).toNat:Int)=_;rw[BitVec.toNat_or,h1,h2,eY (by omega)]
 ·show IntKind.u32.wrap ((BitVec.ofInt 32 (a:Int)^^^BitVec.ofInt 32 (b:Int)).toNat:Int)=_;rw[BitVec.toNat_xor,h1,h2,eY (by omega)]
theorem BV{n:Nat}(h:n<4294967296):n/2147483648=if n.testBit 31 then 1 else 0:=by
 rw[Nat.testBit_eq_decide_div_mod_eq];simp only[decide_eq_true_eq]
 split<;>omega
theorem A0{n:Nat}(h:n<4294967296):n.testBit 31=decide (2147483648<=n):=by
 rw[Nat.testBit_eq_decide_div_mod_eq];by_cases h1:2147483648<=n
 ·simp only[h1,decide_true,decide_eq_true_eq];omega
 ·simp only[h1,decide_false,decide_eq_false_iff_not];omega
theorem By:(4294967295:Nat).testBit 31=true:=by decide
theorem tZ{x y b:Nat}(hx:x<4294967296)(hy:y<4294967296)(hb:b<=1):
  (((4294967295^^^x)&&&y)|||((4294967295^^^(x^^^y))&&&((x+(8589934592-y-b))%4294967296)))/2147483648=if x<y+b then 1 else 0:=by
 have hd:(x+(8589934592-y-b))%4294967296<4294967296:=Nat.mod_lt _ (by omega);generalize hdd:(x+(8589934592-y-b))%4294967296=d at hd;have h1:(4294967295^^^x)&&&y<2^32:=Nat.and_lt_two_pow _ (by omega);have h2:(4294967295^^^(x^^^y))&&&d<2^32:=Nat.and_lt_two_pow _ (by omega);rw[BV (Nat.or_lt_two_pow h1 h2)];simp only[Nat.testBit_or,Nat.testBit_and,Nat.testBit_xor,By,A0 hx,A0 hy,A0 hd];by_cases c1:2147483648<=x<;>by_cases c2:2147483648<=y<;>by_cases c3:2147483648<=d<;>simp[c1,c2,c3]<;>omega
theorem se(x y b:Nat)(hx:x<4294967296)(hy:y<4294967296)(hb:b<=1):j5 PP 247 [.int .u32 x,.int .u32 y,.int .u32 b]
  (.fA [.int .u32 ((x+(8589934592-y-b))%4294967296:Nat),.int .u32 (if x<y+b then 1 else 0:Nat)]):=by
 refine .of Go.Proofs.Tryz.func247 rfl (by kernel_rfl) rfl rfl rfl (fun A w0=>?_);have hd:(x+(8589934592-y-b))%4294967296<4294967296:=Nat.mod_lt _ (by omega);have hbor:=tZ hx hy hb;generalize hdd:(x+(8589934592-y-b))%4294967296=d at hd hbor;have h1:(4294967295^^^x)<2^32:=Nat.xor_lt_two_pow (by omega) (by omega);have h2:x^^^y<2^32:=Nat.xor_lt_two_pow (by omega) (by omega);have h3:4294967295^^^(x^^^y)<2^32:=Nat.xor_lt_two_pow (by omega) h2;have h4:(4294967295^^^x)&&&y<2^32:=Nat.and_lt_two_pow _ (by omega);have h5:(4294967295^^^(x^^^y))&&&d<2^32:=Nat.and_lt_two_pow _ (by omega);have h6:IntKind.u32.wrap (IntKind.u32.wrap ((x:Int)-y)-b)=(d:Int):=by
  rw[IntKind.wrap_u32,IntKind.wrap_u32];omega
 refine .ak (.av rfl<|.av rfl<|.nil) rfl ?_;refine .ak (.mv rfl<|.mv rfl<|.ar rfl rfl rfl<|.mv rfl<|.ar rfl rfl (congrArg some h6)<|.av rfl<|.nil) rfl ?_;refine .ak (.mv rfl<|.CK rfl (iK 4294967295 x (by omega) hx).2.2<|.mv rfl<|.ar rfl rfl (congrArg some (iK _ _ h1 hy).1)<|.mv rfl<|.mv rfl<|.ar rfl rfl (congrArg some (iK x y hx hy).2.2)<|
  .CK rfl (iK 4294967295 _ (by omega) h2).2.2<|.mv rfl<|.ar rfl rfl (congrArg some (iK _ _ h3 hd).1)<|.ar rfl rfl (congrArg some (iK _ _ h4 h5).2.1)<|.sh rfl rfl rfl<|.av rfl<|.nil) rfl ?_
 refine .yS rfl (.tmp rfl) (.tmp rfl) (.of_eq ?_) rfl;rw[←hbor];show D.fA [_,.int .u32 (Int.fdiv _ _)]=_;rw[Int.fdiv_eq_ediv_of_nonneg _ (by decide)]
 rfl
theorem yM(x y c:Nat)(hx:x<4294967296)(hy:y<4294967296)(hc:c<=1):j5 PP 251 [.int .u32 x,.int .u32 y,.int .u32 c]
  (.fA [.int .u32 ((x+y+c)%4294967296:Nat),.int .u32 ((x+y+c)/4294967296:Nat)]):=by
 refine .of Go.Proofs.Tryz.func251 rfl (by kernel_rfl) rfl rfl rfl (fun A w0=>?_);refine .ak (.av rfl<|.av rfl<|.nil) rfl ?_;refine .ak (.mv rfl<|.cv rfl kJ (bJ (by omega))<|.mv rfl<|.cv rfl kJ (bJ (by omega))<|.ar rfl rfl (congrArg some (wrap_u64 (n:=x+y) (by omega) (by omega)))<|
  .mv rfl<|.cv rfl kJ (bJ (by omega))<|.ar rfl rfl (congrArg some (wrap_u64 (n:=x+y+c) (by omega) (by omega)))<|.av rfl<|.nil) rfl ?_
 refine .ak (.mv rfl<|.cv rfl jX (ie _)<|.av rfl<|.nil) rfl ?_;refine .ak (.mv rfl<|.sh rfl rfl (tg (by decide))<|.cv rfl jX (eY (by omega))<|.av rfl<|.nil) rfl ?_;exact .yS rfl (.tmp rfl) (.tmp rfl) (.refl _) rfl
def bn(x:Nat):Nat:=if x=0 then 0 else Nat.log2 x+1
def nP:ByteArray:=⟨((List.range 256).map fun n=>UInt8.ofNat (bn n)).toArray⟩
theorem k8{x:Nat}(h:x≠0):bn x=Nat.log2 x+1:=by simp[bn,h]
theorem lV(x:Nat):x<2^bn x:=by
 by_cases h:x=0
 ·subst h;decide
 ·rw[k8 h];exact Nat.lt_log2_self
theorem sC{x:Nat}(h:x≠0):2^(bn x-1)<=x:=by
 rw[k8 h];exact Nat.log2_self_le h
theorem y1{x n:Nat}(h1:2^n<=x)(h2:x<2^(n+1)):bn x=n+1:=by
 have h0:x≠0:=by have:=Nat.two_pow_pos n;omega
 rw[k8 h0,(Nat.log2_eq_iff h0).2 ⟨h1,h2⟩]
theorem nf{x:Nat}(k:Nat)(h:2^k<=x):bn (x/2^k)+k=bn x:=by
 have hp:=Nat.two_pow_pos k;have hx:x≠0:=by omega
 have hq:x/2^k≠0:=by have:=Nat.div_pos h hp;omega
 have h1:=sC hq;have h2:=lV (x/2^k);rw[k8 hq]at h1 h2|-
 symm
 rw[show Nat.log2 (x/2^k)+1+k=(Nat.log2 (x/2^k)+k)+1 by omega];apply y1
 ·rw[Nat.pow_add];exact(Nat.le_div_iff_mul_le hp).1 h1
 ·rw[show Nat.log2 (x/2^k)+k+1=(Nat.log2 (x/2^k)+1)+k by omega,Nat.pow_add];exact(Nat.div_lt_iff_lt_mul hp).1 h2
theorem uc{n:Nat}(h:n<256):nP[n]?=some (UInt8.ofNat (bn n)):=by
 have hs:nP.size=256:=by simp[nP,ByteArray.size]
 rw[getElem?_pos nP n (by rw[hs];exact h)];simp[nP,ByteArray.getElem_eq_getElem_data]
end Go.Am
namespace Go.Am
open Go.RowKit
theorem eJ(l:List Nat)(i:Nat):val (l.drop i)=l.getD i 0+4294967296*val (l.drop (i+1)):=by
 by_cases h:i<l.length
 ·rw[List.drop_eq_getElem_cons h,val];simp[h]
 ·rw[List.drop_of_length_le (by omega),List.drop_of_length_le (by omega)];simp[val,List.getElem?_eq_none (show l.length<=i by omega)]
theorem dJ(l:List Nat)(i:Nat)(h:i<=l.length):val l=val (l.take i)+4294967296^i*val (l.drop i):=by
 conv=>lhs;rw[←List.take_append_drop i l]
 rw[jm,List.length_take,Nat.min_eq_left h]
theorem dL{l:List Nat}(h:cE l)(i:Nat):val (l.take i)<4294967296^i:=by
 have h1:=mi (j1 h i);have h2:(l.take i).length<=i:=by simp;omega
 exact Nat.lt_of_lt_of_le h1 (Nat.pow_le_pow_right (by omega) h2)
theorem jB{x:Nat}:x<4294967296^(aD x).length:=by
 have:=mi (cw x);rwa [dc]at this
theorem cu{x:Nat}(h:x≠0):0<(aD x).length:=by rw[jt h];simp
theorem o7{x:Nat}(h:x≠0):4294967296^((aD x).length-1)<=x:=by
 induction x using Nat.strongRecOn with
 |_ x ih=>
  rw[jt h];simp only[List.length_cons,Nat.add_sub_cancel];by_cases h0:x/4294967296=0
  ·rw[h0,cB];simp;omega
  ·have:=ih _ (Nat.div_lt_self (by omega) (by omega)) h0;have hl:=cu h0;obtain⟨n,hn⟩:∃n,(aD (x/4294967296)).length=n+1:=⟨_,(Nat.succ_pred (by omega)).symm⟩;rw[hn]at this|-;simp only[Nat.add_sub_cancel]at this;rw[Nat.pow_succ];omega
theorem ig{x y:Nat}(h:x<=y):(aD x).length<=(aD y).length:=by
 by_cases h0:x=0
 ·subst h0;rw[cB];simp
 ·have h1:=o7 h0;have h2:=jB (x:=y);have h3:4294967296^((aD x).length-1)<4294967296^(aD y).length:=by omega
  have h4:=(Nat.pow_lt_pow_iff_right (by omega)).1 h3;have:=cu h0;omega
theorem rm{x y:Nat}(h:(aD x).length<(aD y).length):x<y:=by
 apply Nat.lt_of_not_le;intro h';have:=ig h';omega
theorem dX{x n:Nat}(h:x<4294967296^n):(aD x).length<=n:=by
 by_cases h0:x=0
 ·subst h0;rw[cB];simp
 ·have h1:=o7 h0;have h3:4294967296^((aD x).length-1)<4294967296^n:=by omega
  have h4:=(Nat.pow_lt_pow_iff_right (by omega)).1 h3;have:=cu h0;omega
def fK(x y:Nat):Int:=if x<y then-1 else if y<x then 1 else 0
theorem qB{a b:List Nat}{i:Nat}(ha:cE a)(hi:i<=a.length)(hj:i<=b.length)(hlt:val (a.drop i)<val (b.drop i)):val a<val b:=by
 rw[dJ a i hi,dJ b i hj];have h1:=dL ha i;have h2:4294967296^i*(val (a.drop i)+1)<=4294967296^i*val (b.drop i):=Nat.mul_le_mul (Nat.le_refl _) hlt;rw[Nat.mul_add,Nat.mul_one]at h2;omega
theorem B_{a b:Int}(h:a=b):cP .eql a b=some true:=by simp[cP,h]
theorem BM{a b:Int}(h:a≠b):cP .eql a b=some false:=by simp[cP,h]
theorem uo{a b:Int}(h:a<b):cP .lss a b=some true:=by simp[cP,h]
theorem uz{a b:Int}(h:b<=a):cP .lss a b=some false:=by simp[cP];omega
theorem AJ{a b:Int}(h:b<a):cP .gtr a b=some true:=by simp[cP,h]
theorem AQ{a b:Int}(h:a<=b):cP .gtr a b=some false:=by simp[cP];omega
theorem Ao{a b:Int}(h:b<=a):cP .geq a b=some true:=by simp[cP,h]
theorem yP{a b:Int}(h:a<b):cP .geq a b=some false:=by simp[cP];omega
theorem yE{n d:Nat}(hd:d≠0)(hn:n<18446744073709551616):mA .quo .u64 (n:Int) (d:Int)=some ((n/d:Nat):Int):=by
 unfold mA;simp only[Int.natCast_eq_zero,hd,if_false];rw[show(n:Int).tdiv (d:Int)=((n/d:Nat):Int)from rfl,bJ (Nat.lt_of_le_of_lt (Nat.div_le_self _ _) hn)]
theorem rQ{k:IntKind}{n d:Nat}(hd:d≠0):mA .rem k (n:Int) (d:Int)=some ((n%d:Nat):Int):=by
 unfold mA;simp only[Int.natCast_eq_zero,hd,if_false]
 rfl
theorem rZ{n d:Nat}(hd:d≠0)(hn:n<9223372036854775808):mA .quo .i64 (n:Int) (d:Int)=some ((n/d:Nat):Int):=by
 unfold mA;simp only[Int.natCast_eq_zero,hd,if_false];rw[show(n:Int).tdiv (d:Int)=((n/d:Nat):Int)from rfl,fE rfl (Nat.lt_of_le_of_lt (Nat.div_le_self _ _) hn)]
theorem uW{n:Nat}(hn:n<4294967296):wx .shl .u64 (n:Int) 32=some ((n*4294967296:Nat):Int):=by
 unfold wx;rw[if_neg (by omega)];simp only[show min (32:Int).toNat IntKind.u64.bits=32 by decide];rw[show(n:Int)*2^32=((n*4294967296:Nat):Int)by rw[Int.natCast_mul];rfl,bJ (by omega)]
theorem sA{n d:Nat}(hn:n<4294967296)(hd:d<4294967296):mA .or .u64 ((n*4294967296:Nat):Int) (d:Int)=some ((n*4294967296+d:Nat):Int):=by
 show some (bits .or .u64 _ _)=_;rw[bits_or_u64_nat _ _ (by omega) (by omega)];have:=Nat.two_pow_add_eq_or_of_lt (i:=32) (b:=d) (by omega) n;rw[show n*4294967296=2^32*n by omega,←this]
theorem o0{n d:Nat}(h:n*d<18446744073709551616):mA .mul .u64 (n:Int) (d:Int)=some ((n*d:Nat):Int):=by
 show some (IntKind.u64.wrap _)=_;rw[←Int.natCast_mul,bJ h]
theorem o2{n d:Nat}(h:n+d<18446744073709551616):mA .add .u64 (n:Int) (d:Int)=some ((n+d:Nat):Int):=congrArg some (wrap_u64 (by omega) h)
theorem db{n d:Nat}(h:n+d<9223372036854775808):mA .add .i64 (n:Int) (d:Int)=some ((n+d:Nat):Int):=congrArg some (fE (by omega) h)
theorem nr{n d:Nat}(h:d<=n)(h':n<9223372036854775808):mA .sub .i64 (n:Int) (d:Int)=some ((n-d:Nat):Int):=congrArg some (fE (by omega) (by omega))
theorem i2{n:Nat}(h':n<9223372036854775808):mA .sub .i64 (n:Int) 1=some ((n:Int)-1):=congrArg some (wrap_i64 (by omega) (by omega))
theorem eK{n:Nat}(h':n+1<9223372036854775808):mA .add .i64 (n:Int) 1=some ((n+1:Nat):Int):=db (d:=1) h'
theorem Le.nil{m:Nat}:Le .nil (.ib 0 m [] rfl):=⟨fun _ _ _ _ h=>⟨none,0,h,Nat.le_refl _,by simp,.inl rfl⟩,fun _ h=>h⟩
theorem aM:Le .nil (ah 0):=by
 have:ah 0=.ib 0 1 [] rfl:=dg_eq' (by rw[cB]);rw[this];exact .nil
where dg_eq' {xs:List Nat} (h:xs=[]):cS xs=.ib 0 1 [] rfl:=by subst h;rfl
end Go.Am
namespace Go.Am
open Go.RowKit
theorem oM{n k:Nat}(hk:k<=32):wx .shr .u32 (n:Int) (k:Int)=some ((n/2^k:Nat):Int):=by
 unfold wx;rw[if_neg (by omega)];have:min (k:Int).toNat IntKind.u32.bits=k:=by rw[Int.toNat_natCast,show IntKind.u32.bits=32 by decide];omega
 simp only[this];rw[Int.fdiv_eq_ediv_of_nonneg _ (by exact_mod_cast Nat.zero_le _)]
 congr 1
theorem eI{x n:Nat}(h:x<2^n):bn x<=n:=by
 by_cases h0:x=0
 ·subst h0;exact Nat.zero_le _
 ·have h1:=sC h0;have:=(Nat.pow_lt_pow_iff_right (a:=2) (by omega)).1 (Nat.lt_of_le_of_lt h1 h);rw[k8 h0]at this|-;omega
theorem u9(x:Nat)(hx:x<4294967296):j5 PP 231 [.int .u32 x] (.int .i64 (bn x:Nat)):=by
 refine .of Go.Proofs.Tryz.func231 rfl (by kernel_rfl) rfl rfl rfl (fun A w0=>?_);refine .ak (.av rfl<|.nil) rfl ?_;refine .pz (ι:={p:Nat×Nat//p.1<65536/\p.2<=16/\bn p.1+p.2=bn x}) (fun p=>[(0,.int .u32 (p.1.1:Nat)),(2,.int .i64 (p.1.2:Nat))]) (fun _=>[]) ?_ ?_
 ·by_cases h:65536<=x
  ·refine .ak (.mv rfl<|.cm rfl rfl (b:=true) (by simp[cP];try omega)<|.nil) rfl ?_;refine .cT rfl (.ak (.mv rfl<|.sh rfl rfl (oM (k:=16) (by omega))<|.av rfl<|.nil) rfl ?_);refine .region (.av rfl<|.nil) rfl fun _ _ hs=>?_;exact hs.to ⟨(x/65536,16),by omega,Nat.le_refl _,nf 16 h⟩ (cM rfl) trivial rfl rfl
  ·refine .ak (.mv rfl<|.cm rfl rfl (b:=false) (by simp[cP];try omega)<|.nil) rfl ?_;exact .cF rfl (.skip fun _ _ hs=>hs.to ⟨(x,0),Nat.lt_of_not_le h,by omega,rfl⟩ (cM rfl) trivial rfl rfl)
 rintro⟨⟨y,n⟩,hy,hn,he⟩;simp only at hy hn he;show Ok PP _ [(0,.int .u32 (y:Nat)),(2,.int .i64 (n:Nat))] [] _ _;rw[←he];clear he hx x;refine .pz (ι:={p:Nat×Nat//p.1<256/\p.2<=24/\bn p.1+p.2=bn y+n}) (fun p=>[(0,.int .u32 (p.1.1:Nat)),(2,.int .i64 (p.1.2:Nat))]) (fun _=>[]) ?_ ?_
 ·by_cases h:256<=y
  ·refine .ak (.mv rfl<|.cm rfl rfl (b:=true) (by simp[cP];try omega)<|.nil) rfl ?_;refine .cT rfl (.ak (.mv rfl<|.sh rfl rfl (oM (k:=8) (by omega))<|.av rfl<|.nil) rfl ?_);refine .region (.mv rfl<|.ar rfl rfl (db (n:=n) (d:=8) (by omega))<|.av rfl<|.nil) rfl fun _ _ hs=>?_;refine hs.to ⟨(y/256,n+8),by simp only;omega,by simp only;omega,?_⟩ (cM rfl) trivial rfl rfl;have:bn (y/256)+8=bn y:=nf (x:=y) 8 h;simp only at this|-;omega
  ·refine .ak (.mv rfl<|.cm rfl rfl (b:=false) (by simp[cP];try omega)<|.nil) rfl ?_;exact .cF rfl (.skip fun _ _ hs=>hs.to ⟨(y,n),Nat.lt_of_not_le h,by simp only;omega,rfl⟩ (cM rfl) trivial rfl rfl)
 rintro⟨⟨z,k⟩,hz,hk,he⟩;simp only at hz hk he;show Ok PP _ [(0,.int .u32 (z:Nat)),(2,.int .i64 (k:Nat))] [] _ _;rw[←he];have hb:bn z<=8:=eI (by omega);have hw:IntKind.i64.wrap ((UInt8.ofNat (bn z)).toNat:Int)=((bn z:Nat):Int):=by
  rw[show(UInt8.ofNat (bn z)).toNat=bn z by rw[UInt8.toNat_ofNat'];omega];exact fE rfl (by omega)
 refine .ak (.mv rfl<|.mv rfl<|.cv rfl oA (r:=(z:Int)) (by rw[IntKind.wrap_u8];omega)<|.Ca (s:=nP) (by kernel_rfl) rfl cI (by omega) (uc (by omega))<|.cv rfl sa hw<|
  .ar rfl rfl (db (by omega))<|.av rfl<|.nil) rfl ?_
 refine .og rfl (.tmp rfl) (int_eq ?_) rfl;omega
theorem n9(x:Nat)(hx:x<4294967296):j5 PP 226 [.int .u32 x] (.int .i64 ((32-bn x:Nat):Int)):=by
 refine .of Go.Proofs.Tryz.func226 rfl (by kernel_rfl) rfl rfl rfl (fun A w0=>?_);refine .ak (.av rfl<|.nil) rfl ?_;refine .ak (.mv rfl<|.call (u9 x hx) ⟨rfl,trivial⟩<|.ar rfl rfl (nr (n:=32) (eI (n:=32) (by omega)) (by omega))<|.av rfl<|.nil) rfl ?_;exact .og rfl (.tmp rfl) (.refl _) rfl
theorem sw{x y:Nat}(h:x<y):fK x y=-1:=by simp[fK,h]
theorem vu{x y:Nat}(h:y<x):fK x y=1:=by simp[fK,h];omega
theorem yZ(x:Nat):fK x x=0:=by simp[fK]
theorem yF(x y:Nat)(hx:(aD x).length<=1099511627776)(hy:(aD y).length<=1099511627776):j5 PP 224 [ah x,ah y] (.int .i64 (fK x y)):=by
 show j5 PP _ [cS (aD x),cS (aD y)] _;refine .of Go.Proofs.Tryz.func224 rfl (by kernel_rfl) rfl rfl rfl (fun A w0=>?_);refine .ak (.av rfl<|.nil) rfl ?_;refine .sq ?_;by_cases hl:(aD x).length=(aD y).length
 ·refine .ak (.mv rfl<|.ln rfl au<|.mv rfl<|.ln rfl au<|.cm rfl rfl (b:=false) (by simp[cP,hl])<|.nil) rfl ?_;refine .cF rfl (.skip (Ok.on (.sq ?_)));refine .ak (.mv rfl<|.ln rfl au<|.ar rfl rfl (i2 (by omega))<|.av rfl<|.nil) rfl ?_;refine .block (.loop (ι:={j:Nat//j<=(aD x).length/\val ((aD x).drop j)=val ((aD y).drop j)}) (fun j=>[(0,cS (aD x)),(1,cS (aD y)),(5,.int .i64 ((j.1:Nat)-1))]) (fun _=>[]) (fun j=>j.1)
   ⟨(aD x).length,Nat.le_refl _,by rw[List.drop_length,hl,List.drop_length]⟩ (cM rfl) trivial rfl rfl ?_)
  rintro⟨j,hj,hv⟩;show Ok PP _ [(0,cS (aD x)),(1,cS (aD y)),(5,.int .i64 ((j:Nat)-1))] [] _ _;refine .sq ?_
  cases j with
  |zero=>
   refine .ak (.mv rfl<|.cm rfl rfl (b:=false) (by simp[cP])<|.nil) rfl ?_;refine .cF rfl (.exit (Ok.on ?_));refine .ak (.av rfl<|.nil) rfl ?_;simp only[List.drop_zero,dc]at hv;subst hv;exact .og rfl (.tmp rfl) (int_eq (yZ x).symm) rfl
  |succ i=>
   have hxi:(aD x)[i]?=some ((aD x).getD i 0):=by simp[show i<(aD x).length by omega]
   have hyi:(aD y)[i]?=some ((aD y).getD i 0):=by simp[show i<(aD y).length by omega]
   have hdx:=eJ (aD x) i;have hdy:=eJ (aD y) i;generalize (aD x).getD i 0=d at hxi hdx;generalize (aD y).getD i 0=e at hyi hdy;refine .ak (.mv rfl<|.cm rfl rfl (b:=true) (by simp[cP];try omega)<|.nil) rfl ?_;refine .cT rfl (.skip (Ok.on (.sq (.block ?_))));have hi:((i+1:Nat):Int)-1=i:=by omega
   rw[hi];by_cases hde:d=e
   ·refine .cn bP (.mv rfl<|.mv rfl<|.nA rfl rfl az (by omega) (by omega) (bj hxi)<|.iu rfl aQ<|.mv rfl<|.mv rfl<|.nA rfl rfl az (by omega) (by omega) (bj hyi)<|.iu rfl aQ<|
     .cm rfl rfl (b:=false) (by simp[cP,hde])<|.nil) rfl (by kernel_rfl) ?_
    refine .cF rfl (.skip (Ok.on ?_));refine .region (.mv rfl<|.ar rfl rfl (i2 (by omega))<|.av rfl<|.nil) rfl fun _ _ hs=>?_;exact hs.round (m:=i+1) ⟨i,by omega,by rw[hdx,hdy,hv,hde]⟩ (by simp) (cM rfl) trivial rfl rfl
   ·refine .cn bP (.mv rfl<|.mv rfl<|.nA rfl rfl az (by omega) (by omega) (bj hxi)<|.iu rfl aQ<|.mv rfl<|.mv rfl<|.nA rfl rfl az (by omega) (by omega) (bj hyi)<|.iu rfl aQ<|
     .cm rfl rfl (b:=true) (by simp[cP];try omega)<|.nil) rfl (by kernel_rfl) ?_
    refine .cT rfl (.sq ?_);by_cases hlt:d<e
    ·refine .cn bP (.mv rfl<|.mv rfl<|.nA rfl rfl az (by omega) (by omega) (bj hxi)<|.iu rfl aQ<|.mv rfl<|.mv rfl<|.nA rfl rfl az (by omega) (by omega) (bj hyi)<|.iu rfl aQ<|
      .cm rfl rfl (b:=true) (by simp[cP];try omega)<|.nil) rfl (by kernel_rfl) ?_
     refine .cT rfl (.ak (.av rfl<|.nil) rfl ?_);have:x<y:=by
      have:=qB (a:=aD x) (b:=aD y) (i:=i) (cw x) (by omega) (by omega) (by omega);simpa [dc]using this
     exact .nR (fun _ _ h=>h) rfl (.tmp rfl) (int_eq (sw this).symm) rfl
    ·refine .cn bP (.mv rfl<|.mv rfl<|.nA rfl rfl az (by omega) (by omega) (bj hxi)<|.iu rfl aQ<|.mv rfl<|.mv rfl<|.nA rfl rfl az (by omega) (by omega) (bj hyi)<|.iu rfl aQ<|
      .cm rfl rfl (b:=false) (by simp[cP];try omega)<|.nil) rfl (by kernel_rfl) ?_
     refine .cF rfl (.skip (Ok.on ?_));refine .ak (.av rfl<|.nil) rfl ?_;have:y<x:=by
      have:=qB (a:=aD y) (b:=aD x) (i:=i) (cw y) (by omega) (by omega) (by omega);simpa [dc]using this
     exact .nR (fun _ _ h=>h) rfl (.tmp rfl) (int_eq (vu this).symm) rfl
 ·refine .ak (.mv rfl<|.ln rfl au<|.mv rfl<|.ln rfl au<|.cm rfl rfl (b:=true) (by simp[cP];try omega)<|.nil) rfl ?_;refine .cT rfl (.sq ?_);by_cases hlt:(aD x).length<(aD y).length
  ·refine .ak (.mv rfl<|.ln rfl au<|.mv rfl<|.ln rfl au<|.cm rfl rfl (b:=true) (by simp[cP];try omega)<|.nil) rfl ?_;refine .cT rfl (.ak (.av rfl<|.nil) rfl ?_);have hxy:x<y:=rm hlt;exact .nR (fun _ _ h=>h) rfl (.tmp rfl) (int_eq (sw hxy).symm) rfl
  ·refine .ak (.mv rfl<|.ln rfl au<|.mv rfl<|.ln rfl au<|.cm rfl rfl (b:=false) (by simp[cP];try omega)<|.nil) rfl ?_;refine .cF rfl (.skip (Ok.on ?_));refine .ak (.av rfl<|.nil) rfl ?_;have hxy:y<x:=rm (by omega);exact .nR (fun _ _ h=>h) rfl (.tmp rfl) (int_eq (vu hxy).symm) rfl
end Go.Am
namespace Go.Am
open Go.RowKit
theorem yD{p d e o w w' v va vb:Nat}(h:v+vb=va+p*w)(ho:o+e+w=d+4294967296*w'):v+p*o+(vb+p*e)=va+p*d+p*4294967296*w':=by
 have:p*(o+e+w)=p*(d+4294967296*w'):=by rw[ho]
 rw[Nat.mul_add,Nat.mul_add,Nat.mul_add,←Nat.mul_assoc]at this;omega
theorem Bp(x y:Nat)(hyx:y<=x)(hx:(aD x).length<=1099511627776):j5 PP 215 [ah x,ah y] (ah (x-y)):=by
 show j5 PP _ [cS (aD x),cS (aD y)] _;have hly:=ig hyx;have hvx:=dc x;have hvy:=dc y;have hlx:=cw x;have hlwy:=cw y;generalize aD x=a at*;generalize aD y=b at*;refine .of Go.Proofs.Tryz.func215 rfl (by kernel_rfl) rfl rfl rfl (fun A w0=>?_);refine .ak (.av rfl<|.nil) rfl ?_;refine .ak (.mv rfl<|.ln rfl au<|.AM rfl rfl c0 rfl (by omega) (by omega) rfl<|.av rfl<|.nil) rfl ?_;refine .ak (.av rfl<|.nil) rfl (.sq ?_);refine .ak (.mv rfl<|.ln rfl au<|.mv rfl<|.nil) rfl ?_;refine .block (.loop (ι:={p:List Nat×Nat×Nat//p.1.length=a.length/\cE p.1/\p.2.1<=1/\p.2.2<=a.length/\val (p.1.take p.2.2)+val (b.take p.2.2)=val (a.take p.2.2)+4294967296^p.2.2*p.2.1})
  (fun p=>[(0,cS a),(1,cS b),(11,.own 11),(5,.own 11),(6,.int .u32 p.1.2.1),(13,.int .i64 a.length),(14,.int .i64 p.1.2.2)]) (fun p=>[(11,.row 1 230 (bB p.1.1) (aR _))])
  (fun p=>a.length-p.1.2.2) ⟨(List.replicate a.length 0,0,0),by simp,fT _,by simp,Nat.zero_le _,by simp[val]⟩
  (cM rfl) ⟨⟨_,rfl,.of_eq (de (ks _))⟩,trivial⟩ rfl rfl ?_)
 rintro⟨⟨zs,c,i⟩,hzl,hzs,hc,hi,hv⟩;simp only at hzl hzs hc hi hv;show Ok PP _ [(0,cS a),(1,cS b),(11,.own 11),(5,.own 11),(6,.int .u32 c),(13,.int .i64 a.length),(14,.int .i64 i)] [(11,.row 1 230 (bB zs) (aR _))] _ _;by_cases hlt:i<a.length
 ·refine .ak (.cm rfl rfl (b:=true) (by simp[cP,hlt])<|.nil) rfl (.sq ?_);refine .cT rfl (.skip (Ok.on (.sq (.block ?_))));have hxi:a[i]?=some (a.getD i 0):=by simp[hlt]
  have hdl:=bO hlx i;have hel:=bO hlwy i;have hst:=da a i;have hst':=da b i;generalize a.getD i 0=d at hxi hdl hst;refine .ak (.mv rfl<|.av rfl<|.nil) rfl ?_;refine .ak (.av rfl<|.nil) rfl ?_;refine .cut [(0,cS a),(1,cS b),(11,.own 11),(5,.own 11),(6,.int .u32 c),(7,.int .i64 i),(8,.int .u32 (b.getD i 0:Nat)),(13,.int .i64 a.length),(14,.int .i64 i)] [(11,.row 1 230 (bB zs) (aR _))] ?_ ?_
  ·by_cases hb:i<b.length
   ·have hy:b[i]?=some (b.getD i 0):=by simp[hb]
    generalize b.getD i 0=e at hy;refine .ak (.mv rfl<|.mv rfl<|.ln rfl au<|.cm rfl rfl (b:=true) (by simp[cP,hb])<|.nil) rfl ?_;refine .cT rfl (.region (.mv rfl<|.mv rfl<|.nA rfl rfl az (by omega) (by omega) (bj hy)<|.iu rfl aQ<|.av rfl<|.nil) rfl fun _ _ hs=>?_);exact hs.sub (cM rfl) (hP rfl) rfl rfl
   ·have he:b.getD i 0=0:=by simp[List.getElem?_eq_none (show b.length<=i by omega)]
    rw[he];refine .ak (.mv rfl<|.mv rfl<|.ln rfl au<|.cm rfl rfl (b:=false) (by simp[cP];omega)<|.nil) rfl ?_;exact .cF rfl (.skip fun _ _ hs=>hs.sub (cM rfl) (hP rfl) rfl rfl)
  generalize b.getD i 0=e at hel hst';refine .region (.mv rfl<|.mv rfl<|.mv rfl<|.mv rfl<|.nA rfl rfl az (by omega) (by omega) (bj hxi)<|.iu rfl aQ<|.mv rfl<|.mv rfl<|.call (se d e c hdl hel hc) ⟨rfl,rfl,rfl,trivial⟩<|.mv rfl<|.ext rfl rfl<|.ext rfl rfl<|
   .nG (n:=a.length) (m':=1) rfl rfl rfl az (by rw[bx,hzl];omega) rfl rfl (by omega) (by omega)<|.vC rfl rfl rfl aQ rfl rfl (by simp[bx,hzl];try omega)<|.av rfl<|.nil) rfl fun _ _ hs=>?_
  refine Ok.on ?_ _ _ hs;refine .region (.ar rfl rfl (eK (by omega))<|.mv rfl<|.nil) rfl fun _ _ hs=>?_;refine hs.round (m:=a.length-i) ⟨(zs.set i ((d+(8589934592-e-c))%4294967296),if d<e+c then 1 else 0,i+1),by simpa using hzl,gP hzs (Nat.mod_lt _ (by omega)) i,?_,hlt,?_⟩ (by simp only;omega)
   (cM rfl) ⟨⟨_,rfl,.of_eq (de (dN ..))⟩,trivial⟩ rfl rfl
  ·simp only;split<;>omega
  ·simp only;rw[eL (by omega),hst,hst',Nat.pow_succ];refine yD hv ?_
   split<;>omega
 ·have:i=a.length:=by omega
  subst this;refine .ak (.cm rfl rfl (b:=false) (by simp[cP])<|.nil) rfl (.sq ?_);refine .cF rfl (.exit (Ok.on ?_));rw[List.take_length,List.take_of_length_le (by omega),List.take_of_length_le hly]at hv;have hz:=mi hzs;have hc0:c=0:=by
   rcases(show c=0\/c=1 by omega)with h|h
   ·exact h
   ·subst h;rw[hzl]at hz;omega
  subst hc0;have hlv:val zs=x-y:=by omega
  refine .sD (n:=a.length) (m':=1) 5 rfl rfl (by simp[bx,hzl]) rfl rfl ?_;refine .sub [(5,cS zs)] [] ⟨⟨_,rfl,.of_eq (kO hzl.symm rfl)⟩,trivial⟩ trivial rfl rfl ?_;refine .ak (.mv rfl<|.call (kc _ hzs (by omega)) ⟨rfl,trivial⟩<|.av rfl<|.nil) rfl ?_;exact .og rfl (.tmp rfl) (.of_eq (by rw[hlv])) rfl
theorem vj(x d:Nat)(hd0:d≠0)(hd:d<4294967296)(hx:(aD x).length<=1099511627776):j5 PP 225 [ah x,.int .u32 d] (.fA [ah (x/d),ah (x%d)]):=by
 show j5 PP _ [cS (aD x),.int .u32 d] _;have hvx:=dc x;have hlx:=cw x;generalize aD x=a at*;refine .of Go.Proofs.Tryz.func225 rfl (by kernel_rfl) rfl rfl rfl (fun A w0=>?_);refine .ak (.av rfl<|.av rfl<|.nil) rfl ?_;refine .ak (.mv rfl<|.ln rfl au<|.AM rfl rfl c0 rfl (by omega) (by omega) rfl<|.av rfl<|.nil) rfl ?_;refine .ak (.av rfl<|.nil) rfl (.sq ?_);refine .ak (.mv rfl<|.ln rfl au<|.ar rfl rfl (i2 (by omega))<|.av rfl<|.nil) rfl ?_;refine .block (.loop (ι:={p:List Nat×Nat×Nat//p.1.length=a.length/\cE p.1/\p.2.1<d/\p.2.2<=a.length/\val (a.drop p.2.2)=val (p.1.drop p.2.2)*d+p.2.1})
  (fun p=>[(0,cS a),(1,.int .u32 d),(11,.own 11),(6,.own 11),(7,.int .u64 p.1.2.1),(8,.int .i64 ((p.1.2.2:Nat)-1))]) (fun p=>[(11,.row 1 230 (bB p.1.1) (aR _))])
  (fun p=>p.1.2.2) ⟨(List.replicate a.length 0,0,a.length),by simp,fT _,by simp only;omega,Nat.le_refl _,by simp[val]⟩
  (cM rfl) ⟨⟨_,rfl,.of_eq (de (ks _))⟩,trivial⟩ rfl rfl ?_)
 rintro⟨⟨zs,c,j⟩,hzl,hzs,hc,hj,hv⟩;simp only at hzl hzs hc hj hv;show Ok PP _ [(0,cS a),(1,.int .u32 d),(11,.own 11),(6,.own 11),(7,.int .u64 c),(8,.int .i64 ((j:Nat)-1))] [(11,.row 1 230 (bB zs) (aR _))] _ _;refine .sq ?_
 cases j with
 |zero=>
  refine .ak (.mv rfl<|.cm rfl rfl (b:=false) (by simp[cP])<|.nil) rfl ?_;refine .cF rfl (.exit (Ok.on ?_));simp only[List.drop_zero]at hv;have hq:val zs=x/d:=by
   rw[←hvx,hv,Nat.mul_comm,Nat.mul_add_div (by omega),Nat.div_eq_of_lt hc];omega
  have hr:c=x%d:=by
   rw[←hvx,hv,Nat.mul_comm,Nat.mul_add_mod,Nat.mod_eq_of_lt hc]
  refine .sD (n:=a.length) (m':=1) 6 rfl rfl (by simp[bx,hzl]) rfl rfl ?_;refine .sub [(6,cS zs),(7,.int .u64 c)] [] ⟨⟨_,rfl,.of_eq (kO hzl.symm rfl)⟩,⟨_,rfl,.refl _⟩,trivial⟩ trivial rfl rfl ?_;refine .ak (.mv rfl<|.call (kc _ hzs (by omega)) ⟨rfl,trivial⟩<|.mv rfl<|.call (oR c (by omega)) ⟨rfl,trivial⟩<|.av rfl<|.av rfl<|.nil) rfl ?_;exact .yS rfl (.tmp rfl) (.tmp rfl) (.of_eq (by rw[hq,hr])) rfl
 |succ i=>
  have hxi:a[i]?=some (a.getD i 0):=by simp[show i<a.length by omega]
  have hel:=bO hlx i;have hdr:=eJ a i;have hdz:=eJ (zs.set i ((c*4294967296+a.getD i 0)/d)) i;generalize a.getD i 0=e at hxi hel hdr hdz;refine .ak (.mv rfl<|.cm rfl rfl (b:=true) (by simp[cP];try omega)<|.nil) rfl ?_;refine .cT rfl (.skip (Ok.on (.sq (.block ?_))));rw[show((i+1:Nat):Int)-1=i by omega];have hs0:c*4294967296+e<d*4294967296:=by omega
  have hq1:(c*4294967296+e)/d<4294967296:=by rw[Nat.div_lt_iff_lt_mul (by omega)];omega
  refine .ak (.mv rfl<|.sh rfl rfl (uW (n:=c) (by omega))<|.mv rfl<|.mv rfl<|.nA rfl rfl az (by omega) (by omega) (bj hxi)<|.iu rfl aQ<|.cv rfl bk (bJ (by omega))<|.ar rfl rfl (sA (by omega) hel)<|.av rfl<|.nil) rfl ?_;refine .ak (.mv rfl<|.mv rfl<|.mv rfl<|.mv rfl<|.cv rfl bk (bJ (by omega))<|.ar rfl rfl (yE hd0 (by omega))<|.cv rfl dw (eY hq1)<|
   .nG (n:=a.length) (m':=1) rfl rfl rfl az (by rw[bx,hzl];omega) rfl rfl (by omega) (by omega)<|.vC rfl rfl rfl aQ rfl rfl (by simp[bx,hzl];try omega)<|.nil) rfl ?_
  refine .region (.mv rfl<|.mv rfl<|.cv rfl bk (bJ (by omega))<|.ar rfl rfl (rQ hd0)<|.av rfl<|.nil) rfl fun _ _ hs=>?_;refine Ok.on ?_ _ _ hs;refine .region (.mv rfl<|.ar rfl rfl (i2 (by omega))<|.av rfl<|.nil) rfl fun _ _ hs=>?_;refine hs.round (m:=i+1) ⟨(zs.set i ((c*4294967296+e)/d),(c*4294967296+e)%d,i),by simpa using hzl,gP hzs hq1 i,Nat.mod_lt _ (by omega),by simp only;omega,?_⟩ (by simp)
   (cM rfl) ⟨⟨_,rfl,.of_eq (de (dN ..))⟩,trivial⟩ rfl rfl
  simp only;have hg:(zs.set i ((c*4294967296+e)/d)).getD i 0=(c*4294967296+e)/d:=by simp[show i<zs.length by omega]
  have hds:(zs.set i ((c*4294967296+e)/d)).drop (i+1)=zs.drop (i+1):=List.drop_set_of_lt (Nat.lt_succ_self i);rw[hg,hds]at hdz;rw[hdr,hdz,hv];have hdm:=Nat.div_add_mod (c*4294967296+e) d;generalize (c*4294967296+e)/d=q at*;generalize (c*4294967296+e)%d=r at*;generalize val (zs.drop (i+1))=Z at*;rw[Nat.add_mul,Nat.mul_assoc,Nat.mul_add,Nat.mul_comm q d];omega
end Go.Am
namespace Go.Am
open Go.RowKit
theorem w8{p q c x y o vz vb:Nat}{v:Nat}(h:v+p*q*c=vz+p*x*vb):
  v+p*q*((c+(x*y+o))%4294967296)+p*q*4294967296*((c+(x*y+o))/4294967296)=vz+p*q*o+p*x*(vb+q*y):=by
 have:p*q*((c+(x*y+o))%4294967296)+p*q*4294967296*((c+(x*y+o))/4294967296)=p*q*c+(p*q*(x*y)+p*q*o):=by
  rw[Nat.mul_assoc (p*q),←Nat.mul_add,Nat.mod_add_div,Nat.mul_add,Nat.mul_add]
 have e:p*q*(x*y)=p*x*(q*y):=by
  rw[Nat.mul_assoc,Nat.mul_assoc,Nat.mul_left_comm q x y]
 rw[Nat.mul_add];omega
theorem wq{x y c o:Nat}(hx:x<4294967296)(hy:y<4294967296)(hc:c<4294967296)(ho:o<4294967296):x*y+o<18446744073709551616/\c+(x*y+o)<18446744073709551616:=by
 have:x*y<=4294967295*4294967295:=Nat.mul_le_mul (by omega) (by omega);omega
theorem z8(x y:Nat)(hx:(aD x).length<=1099511627776)(hy:(aD y).length<=1099511627776):j5 PP 150 [ah x,ah y] (ah (x*y)):=by
 show j5 PP _ [cS (aD x),cS (aD y)] _;have hvx:=dc x;have hvy:=dc y;have hlx:=cw x;have hly:=cw y;generalize aD x=a at*;generalize aD y=b at*;refine .of Go.Proofs.Tryz.func150 rfl (by kernel_rfl) rfl rfl rfl (fun A w0=>?_);refine .ak (.av rfl<|.nil) rfl ?_;refine .ak (.mv rfl<|.ln rfl au<|.mv rfl<|.ln rfl au<|.ar rfl rfl (db (by omega))<|.AM rfl rfl c0 rfl (by omega) (by omega) rfl<|.av rfl<|.nil) rfl (.sq ?_);refine .ak (.mv rfl<|.ln rfl au<|.mv rfl<|.nil) rfl ?_;refine .block (.loop (ι:={p:List Nat×Nat//p.1.length=a.length+b.length/\cE p.1/\p.2<=a.length/\val (p.1.take (p.2+b.length))=val (a.take p.2)*val b})
  (fun p=>[(0,cS a),(1,cS b),(16,.own 16),(5,.own 16),(17,cS a),(18,.int .i64 a.length),(19,.int .i64 p.1.2)]) (fun p=>[(16,.row 1 230 (bB p.1.1) (aR _))])
  (fun p=>a.length-p.1.2) ⟨(List.replicate (a.length+b.length) 0,0),by simp,fT _,Nat.zero_le _,by
   simp only[Nat.zero_add,List.take_zero,val,Nat.zero_mul,List.take_replicate];exact lI _⟩
  (cM rfl) ⟨⟨_,rfl,.of_eq (de (ks _))⟩,trivial⟩ rfl rfl ?_)
 rintro⟨⟨zs,i⟩,hzl,hzs,hi,hv⟩;simp only at hzl hzs hi hv;show Ok PP _ [(0,cS a),(1,cS b),(16,.own 16),(5,.own 16),(17,cS a),(18,.int .i64 a.length),(19,.int .i64 i)] [(16,.row 1 230 (bB zs) (aR _))] _ _;by_cases hlt:i<a.length
 ·refine .ak (.cm rfl rfl (b:=true) (by simp[cP,hlt])<|.nil) rfl (.sq ?_);refine .cT rfl (.skip (Ok.on (.sq (.block ?_))));have hxi:a[i]?=some (a.getD i 0):=by simp[hlt]
  have hdl:=bO hlx i;have hst:=da a i;generalize a.getD i 0=d at hxi hdl hst;refine .ak (.mv rfl<|.nA rfl rfl az (by omega) (by omega) (bj hxi)<|.iu rfl aQ<|.av rfl<|.av rfl<|.nil) rfl ?_;refine .ak (.av rfl<|.nil) rfl (.sq ?_);refine .ak (.mv rfl<|.ln rfl au<|.mv rfl<|.nil) rfl ?_;refine .block (.loop (ι:={p:List Nat×Nat×Nat//p.1.length=a.length+b.length/\cE p.1/\p.2.1<4294967296/\p.2.2<=b.length/\(∀j,i+p.2.2<=j->p.1.getD j 0=zs.getD j 0)/\
    val (p.1.take (i+p.2.2))+4294967296^i*4294967296^p.2.2*p.2.1=val (zs.take (i+p.2.2))+4294967296^i*d*val (b.take p.2.2)})
   (fun p=>[(0,cS a),(1,cS b),(16,.own 16),(5,.own 16),(17,cS a),(18,.int .i64 a.length),(19,.int .i64 i),(6,.int .i64 i),(7,.int .u32 d),(8,.int .u64 p.1.2.1),(24,cS b),(25,.int .i64 b.length),(26,.int .i64 p.1.2.2)]) (fun p=>[(16,.row 1 230 (bB p.1.1) (aR _))])
   (fun p=>b.length-p.1.2.2) ⟨(zs,0,0),hzl,hzs,by simp,Nat.zero_le _,fun _ _=>rfl,by simp[val]⟩
   (cM rfl) (hP rfl) rfl rfl ?_)
  rintro⟨⟨us,c,k⟩,hul,hus,hc,hk,hsame,hu⟩;simp only at hul hus hc hk hsame hu;show Ok PP _ [(0,cS a),(1,cS b),(16,.own 16),(5,.own 16),(17,cS a),(18,.int .i64 a.length),(19,.int .i64 i),(6,.int .i64 i),(7,.int .u32 d),(8,.int .u64 c),(24,cS b),(25,.int .i64 b.length),(26,.int .i64 k)] [(16,.row 1 230 (bB us) (aR _))] _ _;by_cases hkl:k<b.length
  ·refine .ak (.cm rfl rfl (b:=true) (by simp[cP,hkl])<|.nil) rfl (.sq ?_);refine .cT rfl (.skip (Ok.on (.sq (.block ?_))));have hyk:b[k]?=some (b.getD k 0):=by simp[hkl]
   have hel:=bO hly k;have hst':=da b k;have hst2:=da zs (i+k);have hok:us[i+k]?=some (zs.getD (i+k) 0):=by
    rw[←hsame (i+k) (Nat.le_refl _)];simp[show i+k<us.length by omega]
   have hol:=bO hzs (i+k);generalize b.getD k 0=e at hyk hel hst';generalize zs.getD (i+k) 0=o at hok hol hst2;obtain⟨hm1,hm2⟩:=wq hdl hel hc hol;refine .ak (.mv rfl<|.nA rfl rfl az (by omega) (by omega) (bj hyk)<|.iu rfl aQ<|.av rfl<|.av rfl<|.nil) rfl ?_;refine .ak (.mv rfl<|.mv rfl<|.cv rfl bk (bJ (by omega))<|.mv rfl<|.cv rfl bk (bJ (by omega))<|.ar rfl rfl (o0 (by omega))<|.mv rfl<|.mv rfl<|.mv rfl<|.ar rfl rfl (db (by omega))<|
    .nG (n:=a.length+b.length) (m':=1) rfl rfl rfl az (by rw[bx,hul];omega) rfl rfl (by omega) (by omega)<|.tY rfl rfl aQ (d:=.int .u32 o) (by rw[Int.toNat_natCast,Nat.mul_one];exact bj hok)<|.cv rfl bk (bJ (by omega))<|
    .ar rfl rfl (o2 hm1)<|.ar rfl rfl (o2 hm2)<|.av rfl<|.nil) rfl ?_
   refine .ak (.mv rfl<|.mv rfl<|.mv rfl<|.ar rfl rfl (db (by omega))<|.mv rfl<|.cv rfl dw (ie _)<|.nG (n:=a.length+b.length) (m':=1) rfl rfl rfl az (by rw[bx,hul];omega) rfl rfl (by omega) (by omega)<|
    .vC rfl rfl rfl aQ rfl rfl (by simp[bx,hul];try omega)<|.nil) rfl ?_
   refine .region (.mv rfl<|.sh rfl rfl (tg (by decide))<|.av rfl<|.nil) rfl fun _ _ hs=>?_;refine Ok.on ?_ _ _ hs;refine .region (.ar rfl rfl (eK (by omega))<|.mv rfl<|.nil) rfl fun _ _ hs=>?_;refine hs.round (m:=b.length-k) ⟨(us.set (i+k) ((c+(d*e+o))%4294967296),(c+(d*e+o))/4294967296,k+1),by simpa using hul,gP hus (Nat.mod_lt _ (by omega)) _,by simp only;omega,hkl,?_,?_⟩ (by simp only;omega)
    (cM rfl) ⟨⟨_,rfl,.of_eq (de (dN ..))⟩,trivial⟩ rfl rfl
   ·intro j hj;simp only at hj|-;rw[←hsame j (by omega),List.getD_eq_getElem?_getD,List.getD_eq_getElem?_getD,List.getElem?_set_ne (by omega)]
   ·simp only;rw[←Nat.add_assoc,eL (by omega),hst2,hst',Nat.pow_succ,Nat.pow_add,←Nat.mul_assoc (4294967296^i)];exact w8 hu
  ·have hkb:k=b.length:=by omega
   subst hkb;refine .ak (.cm rfl rfl (b:=false) (by simp[cP])<|.nil) rfl (.sq ?_);refine .cF rfl (.exit (Ok.on ?_));refine .region (.mv rfl<|.mv rfl<|.mv rfl<|.ln rfl au<|.ar rfl rfl (db (by omega))<|.mv rfl<|.cv rfl dw (eY hc)<|.nG (n:=a.length+b.length) (m':=1) rfl rfl rfl az (by rw[bx,hul];omega) rfl rfl (by omega) (by omega)<|
    .vC rfl rfl rfl aQ rfl rfl (by simp[bx,hul];try omega)<|.nil) rfl fun _ _ hs=>?_
   refine Ok.on ?_ _ _ hs;refine .region (.ar rfl rfl (eK (by omega))<|.mv rfl<|.nil) rfl fun _ _ hs=>?_;refine hs.round (m:=a.length-i) ⟨(us.set (i+b.length) c,i+1),by simpa using hul,gP hus hc _,hlt,?_⟩ (by simp only;omega)
    (cM rfl) ⟨⟨_,rfl,.of_eq (de (dN ..))⟩,trivial⟩ rfl rfl
   simp only;rw[show i+1+b.length=i+b.length+1 by omega,eL (by omega),Nat.pow_add,hu,hv,hst,List.take_length,Nat.add_mul]
 ·have:i=a.length:=by omega
  subst this;refine .ak (.cm rfl rfl (b:=false) (by simp[cP])<|.nil) rfl (.sq ?_);refine .cF rfl (.exit (Ok.on ?_));rw[List.take_length,List.take_of_length_le (by omega),hvx,hvy]at hv;refine .sD (n:=a.length+b.length) (m':=1) 5 rfl rfl (by simp[bx,hzl]) rfl rfl ?_;refine .sub [(5,cS zs)] [] ⟨⟨_,rfl,.of_eq (kO hzl.symm rfl)⟩,trivial⟩ trivial rfl rfl ?_;refine .ak (.mv rfl<|.call (kc _ hzs (by omega)) ⟨rfl,trivial⟩<|.av rfl<|.nil) rfl ?_;exact .og rfl (.tmp rfl) (.of_eq (by rw[hv])) rfl
end Go.Am
namespace Go.Am
open Go.RowKit
theorem zi{n k:Nat}(hk:k<=64)(h:n*2^k<18446744073709551616):wx .shl .u64 (n:Int) (k:Int)=some ((n*2^k:Nat):Int):=by
 unfold wx;rw[if_neg (by omega)];have:min (k:Int).toNat IntKind.u64.bits=k:=by rw[Int.toNat_natCast,show IntKind.u64.bits=64 by decide];omega
 simp only[this];rw[show(n:Int)*2^k=((n*2^k:Nat):Int)by rw[Int.natCast_mul,Int.natCast_pow];rfl,bJ h]
theorem xb{n d k:Nat}(hn:n<2^k)(h:n+d*2^k<18446744073709551616):mA .or .u64 (n:Int) ((d*2^k:Nat):Int)=some ((n+d*2^k:Nat):Int):=by
 show some (bits .or .u64 _ _)=_;rw[bits_or_u64_nat _ _ (by omega) (by omega)];have:=Nat.two_pow_add_eq_or_of_lt hn d;rw[Nat.or_comm,Nat.mul_comm d,←this,Nat.add_comm]
theorem yV(x:Nat)(hx:(aD x).length<=2):j5 PP 185 [ah x] (.int .u64 x):=by
 show j5 PP _ [cS (aD x)] _;have hvx:=dc x;have hlx:=cw x;generalize aD x=a at*;refine .of Go.Proofs.Tryz.func185 rfl (by kernel_rfl) rfl rfl rfl (fun A w0=>?_);refine .ak (.av rfl<|.nil) rfl ?_;refine .ak (.av rfl<|.nil) rfl (.sq ?_);refine .ak (.mv rfl<|.ln rfl au<|.mv rfl<|.nil) rfl ?_;refine .block (.loop (ι:={i:Nat//i<=a.length}) (fun i=>[(3,.int .u64 (val (a.take i.1):Nat)),(6,cS a),(7,.int .i64 a.length),(8,.int .i64 i.1)]) (fun _=>[]) (fun i=>a.length-i.1)
  ⟨0,Nat.zero_le _⟩ (cM rfl) trivial rfl rfl ?_)
 rintro⟨i,hi⟩;show Ok PP _ [(3,.int .u64 (val (a.take i):Nat)),(6,cS a),(7,.int .i64 a.length),(8,.int .i64 i)] [] _ _;by_cases hlt:i<a.length
 ·refine .ak (.cm rfl rfl (b:=true) (by simp[cP,hlt])<|.nil) rfl (.sq ?_);refine .cT rfl (.skip (Ok.on (.sq (.block ?_))));have hxi:a[i]?=some (a.getD i 0):=by simp[hlt]
  have hel:=bO hlx i;have hst:=da a i;have htl:=dL hlx i;generalize a.getD i 0=e at hxi hel hst;have hi1:i=0\/i=1:=by omega
  have hp:(4294967296:Nat)^i=2^(32*i):=by rw[Nat.pow_mul]
  rw[hp]at htl hst;have hb2:val (a.take i)+e*2^(32*i)<18446744073709551616:=by
   rcases hi1 with h|h<;>subst h<;>simp at htl|-<;>omega
  refine .ak (.mv rfl<|.nA rfl rfl az (by omega) (by omega) (bj hxi)<|.iu rfl aQ<|.av rfl<|.av rfl<|.nil) rfl ?_;refine .region (.mv rfl<|.mv rfl<|.cv rfl bk (bJ (by omega))<|.mv rfl<|.ar rfl rfl (r:=((32*i:Nat):Int)) (congrArg some (fE (by omega) (by omega)))<|.sh rfl rfl (zi (n:=e) (k:=32*i) (by omega) (by omega))<|
   .ar rfl rfl (xb htl hb2)<|.av rfl<|.nil) rfl fun _ _ hs=>?_
  refine Ok.on ?_ _ _ hs;refine .region (.ar rfl rfl (eK (by omega))<|.mv rfl<|.nil) rfl fun _ _ hs=>?_;exact hs.round (m:=a.length-i) ⟨i+1,hlt⟩ (by simp only;omega) ⟨⟨_,rfl,int_eq (by rw[hst,Nat.mul_comm])⟩,⟨_,rfl,.refl _⟩,⟨_,rfl,.refl _⟩,⟨_,rfl,.refl _⟩,trivial⟩ trivial rfl rfl
 ·have:i=a.length:=by omega
  subst this;refine .ak (.cm rfl rfl (b:=false) (by simp[cP])<|.nil) rfl (.sq ?_);refine .cF rfl (.exit (Ok.on ?_));refine .ak (.mv rfl<|.av rfl<|.nil) rfl ?_;exact .og rfl (.tmp rfl) (int_eq (by rw[List.take_length,hvx])) rfl
theorem rn{x n d:Nat}(h:(aD x).length=n+1)(hd:(aD x)[n]?=some d):32*n+bn d=bn x:=by
 have hv:=dq hd;rw[←h,List.take_length,dc]at hv;have hx0:x≠0:=by intro e;subst e;rw[cB]at h;simp at h
 have hle:=o7 hx0;rw[h,Nat.add_sub_cancel]at hle;have hp:(4294967296:Nat)^n=2^(32*n):=by rw[Nat.pow_mul]
 have hlt:=dL (cw x) n;have hq:x/4294967296^n=d:=by
  rw[hv,Nat.add_mul_div_left _ _ (Nat.pow_pos (by omega)),Nat.div_eq_of_lt hlt,Nat.zero_add]
 rw[hp]at hle hq;have:=nf _ hle;rw[hq]at this;omega
theorem AE(x:Nat)(hx:(aD x).length<=1099511627776):j5 PP 186 [ah x] (.int .i64 (bn x:Nat)):=by
 show j5 PP _ [cS (aD x)] _;refine .of Go.Proofs.Tryz.func186 rfl (by kernel_rfl) rfl rfl rfl (fun A w0=>?_);refine .ak (.av rfl<|.nil) rfl (.sq ?_);by_cases h0:x=0
 ·subst h0;refine .ak (.mv rfl<|.ln rfl au<|.cm rfl rfl (b:=true) (by simp[cP,cB])<|.nil) rfl ?_;refine .cT rfl (.ak (.av rfl<|.nil) rfl ?_);exact .nR (fun _ _ h=>h) rfl (.tmp rfl) (int_eq (by rfl)) rfl
 ·have hl:=cu h0;obtain⟨n,hn⟩:∃n,(aD x).length=n+1:=⟨_,(Nat.succ_pred (by omega)).symm⟩;have hxi:(aD x)[n]?=some ((aD x).getD n 0):=by simp[hn]
  have hel:=bO (cw x) n;have hbl:∀d,(aD x)[n]?=some d->32*n+bn d=bn x:=fun d hd=>rn hn hd;generalize (aD x).getD n 0=e at hxi hel;have he:=hbl e hxi;refine .ak (.mv rfl<|.ln rfl au<|.cm rfl rfl (BM (by omega))<|.nil) rfl ?_;refine .cF rfl (.skip (Ok.on ?_));have hb:=eI (x:=e) (n:=32) (by omega);have hd1:IntKind.i64.wrap (((aD x).length:Int)-1)=(n:Int):=fE (by omega) (by omega);have hd2:IntKind.i64.wrap (32*(n:Int))=((32*n:Nat):Int):=fE (by omega) (by omega);refine .ak (.mv rfl<|.ln rfl au<|.ar rfl rfl (congrArg some hd1)<|.ar rfl rfl (congrArg some hd2)<|.mv rfl<|.mv rfl<|.ln rfl au<|.ar rfl rfl (congrArg some hd1)<|
   .nA rfl rfl az (by omega) (by omega) (bj hxi)<|.iu rfl aQ<|.call (u9 e hel) ⟨rfl,trivial⟩<|.ar rfl rfl (db (by omega))<|.av rfl<|.nil) rfl ?_
  exact .og rfl (.tmp rfl) (int_eq (by rw[he])) rfl
theorem tu(a:List Nat)(ha:a.length<=1099511627776):wK PP 252 [cS a] 1 230 (bB a):=by
 refine .of (hl:=aR a) Go.Proofs.Tryz.func252 rfl (by kernel_rfl) rfl rfl (fun A w0=>?_);refine .ak (.av rfl<|.nil) rfl (.sq ?_);refine .ak (.mv rfl<|.Ck au rfl rfl<|.nil) rfl ?_;refine .cQ rfl (fun h=>?_) (.skip (Ok.on ?_))
 ·have ha0:a=[]:=List.eq_nil_of_length_eq_zero h;subst ha0;refine .ak (.av rfl<|.nil) rfl ?_;refine .sM 2 2 1 230 rfl rfl ?_;exact .wm (fun _ _ h=>h) rfl rfl rfl
 ·refine .ak (.BX c0 rfl<|.mv rfl<|.B6 (n1:=0) rfl rfl rfl c0 rfl (by omega) (by omega) rfl<|.av rfl<|.nil) rfl ?_;exact .wm (fun _ _ h=>h) rfl rfl rfl
end Go.Am
namespace Go.Am
open Go.RowKit
theorem jd{k:Nat}(hk:k<=32):4294967296=2^k*2^(32-k):=by rw[←Nat.pow_add,show k+(32-k)=32 by omega]
theorem uT{n k:Nat}(hk:k<=32):wx .shl .u32 (n:Int) (k:Int)=some ((n*2^k%4294967296:Nat):Int):=by
 unfold wx;rw[if_neg (by omega)];have:min (k:Int).toNat IntKind.u32.bits=k:=by rw[Int.toNat_natCast,show IntKind.u32.bits=32 by decide];omega
 simp only[this];rw[show(n:Int)*2^k=((n*2^k:Nat):Int)by rw[Int.natCast_mul,Int.natCast_pow];rfl,ie]
theorem vB{e k:Nat}(hk:k<=32):e*2^(32-k)%4294967296=(e%2^k)*2^(32-k):=by
 conv=>lhs;rhs;rw[jd hk]
 rw[Nat.mul_mod_mul_right]
theorem Aw{n d k:Nat}(hn:n<2^k)(h:n+d*2^k<4294967296):mA .or .u32 (n:Int) ((d*2^k:Nat):Int)=some ((n+d*2^k:Nat):Int):=by
 show some (bits .or .u32 _ _)=_;rw[(iK _ _ (by omega) (by omega)).2.1];have:=Nat.two_pow_add_eq_or_of_lt hn d;rw[Nat.or_comm,Nat.mul_comm d,←this,Nat.add_comm]
theorem zh{n d k:Nat}(hn:n<2^k)(h:n+d*2^k<4294967296):mA .or .u32 ((d*2^k:Nat):Int) (n:Int)=some ((n+d*2^k:Nat):Int):=by
 show some (bits .or .u32 _ _)=_;rw[(iK _ _ (by omega) (by omega)).2.1];have:=Nat.two_pow_add_eq_or_of_lt hn d;rw[Nat.mul_comm d,←this,Nat.add_comm]
theorem ru{d e k:Nat}(hk:k<=32)(hd:d<4294967296):d/2^k<2^(32-k)/\d/2^k+(e%2^k)*2^(32-k)<4294967296:=by
 have hp:=Nat.two_pow_pos k;have hs:=jd hk;have h1:d/2^k<2^(32-k):=by
  rw[Nat.div_lt_iff_lt_mul hp,Nat.mul_comm,←hs];exact hd
 have h2:=Nat.mod_lt e hp;refine⟨h1,?_⟩;have:(e%2^k+1)*2^(32-k)<=2^k*2^(32-k):=Nat.mul_le_mul_right _ h2;rw[←hs,Nat.add_mul,Nat.one_mul]at this;omega
theorem yg{d R k:Nat}(hk:k<=32):(d+4294967296*R)/2^k=d/2^k+(R%2^k)*2^(32-k)+4294967296*(R/2^k):=by
 have hp:=Nat.two_pow_pos k;have hs:=jd hk;have h1:(d+4294967296*R)/2^k=d/2^k+2^(32-k)*R:=by
  conv=>lhs;rw[hs]
  rw[Nat.mul_assoc,Nat.add_mul_div_left _ _ hp]
 have h2:=Nat.div_add_mod R (2^k);rw[h1]
 conv=>lhs;rw[←h2]
 rw[Nat.mul_add,←Nat.mul_assoc,Nat.mul_comm (2^(32-k)) (2^k),←hs,Nat.mul_comm (2^(32-k))];omega
theorem zD{e R k:Nat}(hk:k<=32):(e+4294967296*R)%2^k=e%2^k:=by
 rw[jd hk,Nat.mul_assoc,Nat.add_mul_mod_self_left]
theorem xH{x i:Nat}(h:i<=(aD x).length):val ((aD x).drop i)=x/4294967296^i:=by
 have hs:=dJ (aD x) i h;rw[dc]at hs;have hlt:=dL (cw x) i
 conv=>rhs;rw[hs]
 rw[Nat.add_mul_div_left _ _ (Nat.pow_pos (by omega)),Nat.div_eq_of_lt hlt,Nat.zero_add]
theorem y9(l:List Nat)(i:Nat)(h:bF (((bB l).drop ((i:Int).toNat*1)).take ((l.length-(i:Int).toNat)*1))=[]):D.ib (l.length-(i:Int).toNat) 1 (((bB l).drop ((i:Int).toNat*1)).take ((l.length-(i:Int).toNat)*1)) h=cS (l.drop i):=by
 refine kO ?_ ?_
 ·rw[Int.toNat_natCast,List.length_drop]
 ·rw[Int.toNat_natCast,Nat.mul_one,Nat.mul_one,wL];exact List.take_of_length_le (by rw[bx,List.length_drop];exact Nat.le_refl _)
theorem Ab(x k:Nat)(hx:(aD x).length<=1099511627776)(hk:k<9223372036854775808):j5 PP 229 [ah x,.int .i64 k] (ah (x/2^k)):=by
 show j5 PP _ [cS (aD x),.int .i64 k] _;refine .of Go.Proofs.Tryz.func229 rfl (by kernel_rfl) rfl rfl rfl (fun A w0=>?_);have hkq:(2:Nat)^k=4294967296^(k/32)*2^(k%32):=by
  rw[show(4294967296:Nat)=2^32 by rfl,←Nat.pow_mul,←Nat.pow_add,Nat.div_add_mod]
 refine .ak (.av rfl<|.nil) rfl (.sq ?_);by_cases hge:(aD x).length<=k/32
 ·refine .ak (.mv rfl<|.ar rfl rfl (rZ (n:=k) (d:=32) (by omega) hk)<|.mv rfl<|.ln rfl au<|.cm rfl rfl (Ao (by omega))<|.nil) rfl ?_;refine .cT rfl (.ak (.av rfl<|.nil) rfl ?_);have hz:x/2^k=0:=by
   apply Nat.div_eq_of_lt;have h1:=jB (x:=x);have h2:4294967296^(aD x).length<=4294967296^(k/32):=Nat.pow_le_pow_right (by omega) hge;have h3:4294967296^(k/32)*1<=4294967296^(k/32)*2^(k%32):=Nat.mul_le_mul_left _ (Nat.two_pow_pos _);rw[hkq];omega
  rw[hz];exact .nR (fun _ _ h=>h) rfl (.tmp rfl) aM rfl
 ·refine .ak (.mv rfl<|.ar rfl rfl (rZ (n:=k) (d:=32) (by omega) hk)<|.mv rfl<|.ln rfl au<|.cm rfl rfl (yP (by omega))<|.nil) rfl ?_;refine .cF rfl (.skip (Ok.on ?_));have hval:=xH (x:=x) (i:=k/32) (by omega);have hres:x/2^k=(x/4294967296^(k/32))/2^(k%32):=by rw[hkq,Nat.div_div_eq_div_mul]
  rw[hres,←hval];have hla:cE ((aD x).drop (k/32)):=gX (cw x) _;have hll:((aD x).drop (k/32)).length=(aD x).length-k/32:=by simp
  have hslc:=y9 (aD x) (k/32);generalize (aD x).drop (k/32)=a at*;have hr:k%32<32:=Nat.mod_lt _ (by omega);refine .ak (.mv rfl<|.mv rfl<|.ar rfl rfl (rZ (n:=k) (d:=32) (by omega) hk)<|.C8 rfl rfl az (by omega) (by omega)<|.vD (hl:=aR a) (tu a (by omega)) ⟨congrArg some (hslc _),trivial⟩ rfl<|.av rfl<|.nil) rfl ?_;refine .pz (ι:={zs:List Nat//zs.length=a.length/\cE zs/\val zs=val a/2^(k%32)}) (fun zs=>[(5,.own 17)]) (fun zs=>[(17,.row 1 230 (bB zs.1) (aR _))]) ?_ ?_
  ·refine .ak (.mv rfl<|.ar rfl rfl (rQ (n:=k) (d:=32) (by omega))<|.av rfl<|.nil) rfl ?_;generalize k%32=r at*;refine .sub [(5,.own 17),(6,.int .i64 r)] [(17,.row 1 230 (bB a) (aR a))] (cM rfl) (hP rfl) rfl rfl ?_;by_cases hr0:r=0
   ·subst hr0;refine .ak (.mv rfl<|.cm rfl rfl (AQ (by omega))<|.nil) rfl ?_;exact .cF rfl (.skip fun _ _ hs=>hs.to ⟨a,rfl,hla,by simp⟩ (cM rfl) (hP rfl) rfl rfl)
   refine .ak (.mv rfl<|.cm rfl rfl (AJ (by omega))<|.nil) rfl ?_;refine .cT rfl ?_;refine .ak (.mv rfl<|.Bl (n:=a.length) (m':=1) rfl rfl au (by simp[bx]) rfl rfl<|.mv rfl<|.nil) rfl ?_;refine .block (.loop (ι:={p:List Nat×Nat//p.1.length=a.length/\cE p.1/\p.2<=a.length/\(∀j,p.2<=j->p.1.getD j 0=a.getD j 0)/\val (p.1.take p.2)+4294967296^p.2*(val (a.drop p.2)/2^r)=val a/2^r})
    (fun p=>[(5,.own 17),(6,.int .i64 r),(23,.int .i64 a.length),(24,.int .i64 p.1.2)]) (fun p=>[(17,.row 1 230 (bB p.1.1) (aR _))]) (fun p=>a.length-p.1.2)
    ⟨(a,0),rfl,hla,Nat.zero_le _,fun _ _=>rfl,by simp[val]⟩ (cM rfl) (hP rfl) rfl rfl ?_)
   rintro⟨⟨zs,i⟩,hzl,hzs,hi,hsame,hv⟩;simp only at hzl hzs hi hsame hv;show Ok PP _ [(5,.own 17),(6,.int .i64 r),(23,.int .i64 a.length),(24,.int .i64 i)] [(17,.row 1 230 (bB zs) (aR _))] _ _;by_cases hlt:i<a.length
   ·refine .ak (.cm rfl rfl (uo (by omega))<|.nil) rfl (.sq ?_);refine .cT rfl (.skip (Ok.on ?_));have hzi:zs[i]?=some (a.getD i 0):=by rw[←hsame i (Nat.le_refl _)];simp[show i<zs.length by omega]
    have hdl:=bO hla i;have hdr:=eJ a i;have hdr2:=eJ a (i+1);have hel:=bO hla (i+1);generalize a.getD i 0=d at hzi hdl hdr;have hpd:d/2^r<4294967296:=Nat.lt_of_le_of_lt (Nat.div_le_self _ _) hdl;refine .cut [(5,.own 17),(6,.int .i64 r),(23,.int .i64 a.length),(24,.int .i64 i)] [(17,.row 1 230 (bB (zs.set i (d/2^r+(a.getD (i+1) 0%2^r)*2^(32-r)))) (aR _))] ?_ ?_
    ·refine .block ?_;refine .ak (.mv rfl<|.av rfl<|.nil) rfl ?_;refine .ak (.mv rfl<|.mv rfl<|.nG (n:=a.length) (m':=1) rfl rfl rfl az (by rw[bx,hzl];omega) rfl rfl (by omega) (by omega)<|.tY rfl rfl aQ (d:=.int .u32 d) (by rw[Int.toNat_natCast,Nat.mul_one];exact bj hzi)<|.mv rfl<|.sh rfl rfl (oM (k:=r) (by omega))<|
      .nG (n:=a.length) (m':=1) rfl rfl rfl az (by rw[bx,hzl];omega) rfl rfl (by omega) (by omega)<|.vC rfl rfl rfl aQ rfl rfl (by simp[bx,hzl];try omega)<|.nil) rfl ?_
     refine .sub [(5,.own 17),(6,.int .i64 r),(7,.int .i64 i),(23,.int .i64 a.length),(24,.int .i64 i)] [(17,.row 1 230 (bB (zs.set i (d/2^r))) (aR _))] (cM rfl) ⟨⟨_,rfl,.of_eq (de (dN ..))⟩,trivial⟩ rfl rfl ?_;have hsd:=ru (e:=a.getD (i+1) 0) (show r<=32 by omega) hdl;by_cases hn:i+1<a.length
     ·have hze:(zs.set i (d/2^r))[i+1]?=some (a.getD (i+1) 0):=by
       rw[List.getElem?_set_ne (by omega),←hsame (i+1) (by omega)];simp[show i+1<zs.length by omega]
      have hzd:(zs.set i (d/2^r))[i]?=some (d/2^r):=by simp[show i<zs.length by omega]
      have hl2:(bB (zs.set i (d/2^r))).length=a.length*1:=by rw[bx,List.length_set,hzl];omega
      generalize a.getD (i+1) 0=e at hze hel hsd;refine .ak (.mv rfl<|.ar rfl rfl (eK (by omega))<|.mv rfl<|.Bl (n:=a.length) (m':=1) rfl rfl au hl2 rfl rfl<|.cm rfl rfl (uo (by omega))<|.nil) rfl ?_;refine .cT rfl ?_;refine .cJ bP (.mv rfl<|.mv rfl<|.nG (n:=a.length) (m':=1) rfl rfl rfl az hl2 rfl rfl (by omega) (by omega)<|.tY rfl rfl aQ (d:=.int .u32 (d/2^r:Nat)) (by rw[Int.toNat_natCast,Nat.mul_one];exact bj hzd)<|
       .mv rfl<|.mv rfl<|.ar rfl rfl (eK (by omega))<|.nG (n:=a.length) (m':=1) rfl rfl rfl az hl2 rfl rfl (by omega) (by omega)<|.tY rfl rfl aQ (d:=.int .u32 (e:Nat)) (by rw[Int.toNat_natCast,Nat.mul_one];exact bj hze)<|
       .mv rfl<|.ar rfl rfl (r:=((32-r:Nat):Int)) (congrArg some (fE (by omega) (by omega)))<|.sh rfl rfl (uT (n:=e) (k:=32-r) (by omega))<|.ar rfl rfl (r:=((d/2^r+(e%2^r)*2^(32-r):Nat):Int)) (by rw[vB (by omega)];exact Aw hsd.1 hsd.2)<|
       .nG (n:=a.length) (m':=1) rfl rfl rfl az hl2 rfl rfl (by omega) (by omega)<|.vC rfl rfl rfl aQ rfl rfl (by rw[hl2];omega)<|.nil) rfl (by kernel_rfl) fun _ _ hs=>?_
      exact hs.sub (cM rfl) ⟨⟨_,rfl,.of_eq (de (by rw[dN,List.set_set]))⟩,trivial⟩ rfl rfl
     ·have he0:a.getD (i+1) 0=0:=by simp[List.getElem?_eq_none (show a.length<=i+1 by omega)]
      rw[he0,Nat.zero_mod,Nat.zero_mul,Nat.add_zero];have hl2:(bB (zs.set i (d/2^r))).length=a.length*1:=by rw[bx,List.length_set,hzl];omega
      refine .ak (.mv rfl<|.ar rfl rfl (eK (by omega))<|.mv rfl<|.Bl (n:=a.length) (m':=1) rfl rfl au hl2 rfl rfl<|.cm rfl rfl (uz (by omega))<|.nil) rfl ?_;exact .cF rfl (.skip fun _ _ hs=>hs.sub (cM rfl) (hP rfl) rfl rfl)
    ·have hsd:=ru (e:=a.getD (i+1) 0) (show r<=32 by omega) hdl;have hml:=zD (e:=a.getD (i+1) 0) (R:=val (a.drop (i+1+1))) (show r<=32 by omega);rw[←hdr2]at hml;refine .region (.ar rfl rfl (eK (by omega))<|.mv rfl<|.nil) rfl fun _ _ hs=>?_;refine hs.round (m:=a.length-i) ⟨(zs.set i (d/2^r+(a.getD (i+1) 0%2^r)*2^(32-r)),i+1),by simpa using hzl,gP hzs hsd.2 i,hlt,?_,?_⟩ (by simp only;omega) (cM rfl) (hP rfl) rfl rfl
     ·intro j hj;simp only at hj|-;rw[←hsame j (by omega)];simp[List.getElem?_set_ne (show i≠j by omega)]
     ·simp only;rw[eL (by omega),←hv,hdr,yg (by omega),hml,Nat.pow_succ];generalize d/2^r+a.getD (i+1) 0%2^r*2^(32-r)=X;rw[Nat.mul_add,Nat.mul_assoc,Nat.add_assoc]
   ·have:i=a.length:=by omega
    subst this;refine .ak (.cm rfl rfl (uz (by omega))<|.nil) rfl (.sq ?_);refine .cF rfl (.exit fun _ _ hs=>?_);refine hs.to ⟨zs,hzl,hzs,?_⟩ (cM rfl) (hP rfl) rfl rfl;rw[List.take_of_length_le (by omega),List.drop_length]at hv;simpa [val]using hv
  ·rintro⟨zs,hzl,hzs,hv⟩;show Ok PP _ [(5,.own 17)] [(17,.row 1 230 (bB zs) (aR _))] _ _;refine .sD (n:=a.length) (m':=1) 5 rfl rfl (by simp[bx,hzl]) rfl rfl ?_;refine .sub [(5,cS zs)] [] ⟨⟨_,rfl,.of_eq (kO hzl.symm rfl)⟩,trivial⟩ trivial rfl rfl ?_;refine .ak (.mv rfl<|.call (kc _ hzs (by omega)) ⟨rfl,trivial⟩<|.av rfl<|.nil) rfl ?_;exact .og rfl (.tmp rfl) (.of_eq (by rw[hv])) rfl
end Go.Am
namespace Go.Am
open Go.RowKit
theorem y3{d r:Nat}(hr:r<=32):d*2^r%4294967296=(d%2^(32-r))*2^r:=by
 have:=vB (e:=d) (k:=32-r) (by omega)
 rwa [show 32-(32-r)=r by omega]at this
theorem wo{d c r:Nat}(hr:r<=32)(hd:d<4294967296)(hc:c<2^r):c+(d%2^(32-r))*2^r<4294967296/\d/2^(32-r)<2^r/\(d%2^(32-r))*2^r+4294967296*(d/2^(32-r))=2^r*d:=by
 have hs:=jd hr;have hp:=Nat.two_pow_pos (32-r);have hm:=Nat.mod_lt d hp;have h1:(d%2^(32-r)+1)*2^r<=2^(32-r)*2^r:=Nat.mul_le_mul_right _ hm;rw[Nat.mul_comm (2^(32-r)),←hs,Nat.add_mul,Nat.one_mul]at h1;refine⟨by omega,?_,?_⟩
 ·rw[Nat.div_lt_iff_lt_mul hp,←hs];exact hd
 ·have h2:=Nat.div_add_mod d (2^(32-r))
  conv=>rhs;rw[←h2]
  rw[Nat.mul_add,←Nat.mul_assoc,←hs,Nat.mul_comm (2^r) (d%2^(32-r)),Nat.add_comm]
theorem xN{p v c n d e t o:Nat}(h:v+p*c=t*o)(hd:d+4294967296*e=t*n):v+p*(c+d)+p*4294967296*e=t*(o+p*n):=by
 have h2:p*(d+4294967296*e)=p*(t*n):=by rw[hd]
 rw[Nat.mul_add,←Nat.mul_assoc]at h2;rw[Nat.mul_add,Nat.mul_add,Nat.mul_left_comm t p n];omega
theorem w7{P R W t c v o:Nat}(hR:P=R*W)(hp:t<=W)(ho:o<R)(h:v+P*c=t*o):v=t*o:=by
 subst hR;rcases Nat.eq_zero_or_pos c with h0|h0
 ·subst h0;simpa using h
 ·have h1:t*o<=W*o:=Nat.mul_le_mul_right _ hp;have h2:R*W*1<=R*W*c:=Nat.mul_le_mul_left _ h0;have h3:W*o<=W*R:=Nat.mul_le_mul_left _ (Nat.le_of_lt ho);rcases Nat.eq_zero_or_pos W with h4|h4
  ·subst h4;have:t=0:=by omega
   subst this;simp at h|-;omega
  ·have h5:W*o<W*R:=Nat.mul_lt_mul_of_pos_left ho h4;rw[Nat.mul_comm R W]at h h2;omega
theorem An{r:Nat}(hr:r<=32):(2:Nat)^r<=4294967296:=by
 have:=jd hr;rw[this];exact Nat.le_mul_of_pos_right _ (Nat.two_pow_pos _)
theorem yN{n r c v o:Nat}(hr:r<=32)(ho:o<4294967296^n)(h:v+4294967296^(n+1)*c=2^r*o):v=2^r*o:=
 w7 (Nat.pow_succ ..) (An hr) ho h
def laid(q:Nat)(a:List Nat):List Nat:=List.replicate q 0++a++[0]
theorem yc(q:Nat)(a:List Nat):(laid q a).length=q+a.length+1:=by simp[laid];omega
theorem tK(q:Nat)(a:List Nat):val (laid q a)=4294967296^q*val a:=by
 rw[laid,jm,jm,lI];simp[val]
theorem vN(q:Nat){a:List Nat}(h:cE a):cE (laid q a):=iI (iI (fT q) h) (fun d hd=>by simp at hd;omega)
theorem wN(q:Nat)(a:List Nat):(List.replicate (q+a.length+1) (D.int .u32 0)).take ((q:Int).toNat*1)++bB a++(List.replicate (q+a.length+1) (D.int .u32 0)).drop ((q:Int).toNat*1+a.length)=bB (laid q a):=by
 rw[Int.toNat_natCast,Nat.mul_one,List.take_replicate,List.drop_replicate,Nat.min_eq_left (by omega),show q+a.length+1-(q+a.length)=1 by omega];simp[laid,bB]
theorem xB(x k:Nat)(hx:(aD x).length<=1099511627776)(hk:k<35184372088832):j5 PP 166 [ah x,.int .i64 k] (ah (x*2^k)):=by
 show j5 PP _ [cS (aD x),.int .i64 k] _;refine .of Go.Proofs.Tryz.func166 rfl (by kernel_rfl) rfl rfl rfl (fun A w0=>?_);have hkq:(2:Nat)^k=4294967296^(k/32)*2^(k%32):=by
  rw[show(4294967296:Nat)=2^32 by rfl,←Nat.pow_mul,←Nat.pow_add,Nat.div_add_mod]
 have hq:k/32<1099511627776:=by omega
 have hr:k%32<32:=Nat.mod_lt _ (by omega);have hqi:mA .quo .i64 (k:Int) 32=some ((k/32:Nat):Int):=rZ (d:=32) (by omega) (by omega);have hri:mA .rem .i64 (k:Int) 32=some ((k%32:Nat):Int):=rQ (d:=32) (by omega);have hvx:=dc x;have hla:=cw x;generalize aD x=a at*;have hres:x*2^k=2^(k%32)*val (laid (k/32) a):=by
  rw[tK,hvx,hkq,Nat.mul_comm x,Nat.mul_assoc,Nat.mul_left_comm]
 rw[hres];generalize k/32=q at*;generalize k%32=r at*;have hlo:=vN q hla;have hln:=yc q a;have hcopy:=wN q a;have hsmall:val (laid q a)<4294967296^(q+a.length):=by
  rw[tK,Nat.pow_add];exact Nat.mul_lt_mul_of_pos_left (mi hla) (Nat.pow_pos (by omega))
 have hstart:val ((laid q a).take q)=0:=by
  rw[laid,List.append_assoc,List.take_append_of_le_length (by simp),List.take_of_length_le (by simp)];exact lI q
 generalize laid q a=o at*;refine .ak (.av rfl<|.nil) rfl ?_;refine .ak (.mv rfl<|.ar rfl rfl hqi<|.mv rfl<|.ln rfl au<|.ar rfl rfl (db (by omega))<|.ar rfl rfl (eK (by omega))<|.AM rfl rfl c0 rfl (by omega) (by omega) rfl<|.av rfl<|.nil) rfl ?_;refine .ak (.mv rfl<|.mv rfl<|.ar rfl rfl hqi<|.C0 (n:=q+a.length+1) (m':=1) rfl rfl rfl az (by simp) rfl rfl (by omega) (by omega)<|.mv rfl<|.Dd rfl rfl rfl c0 (by simp;try omega) (by simp;try omega)<|.nil) rfl ?_;refine .sub [(1,.int .i64 k),(5,.own 15)] [(15,.row 1 230 (bB o) (aR o))] (cM rfl) ⟨⟨_,rfl,.of_eq (de hcopy)⟩,trivial⟩ rfl rfl ?_;refine .pz (ι:={zs:List Nat//zs.length=q+a.length+1/\cE zs/\val zs=2^r*val o}) (fun zs=>[(5,.own 15)]) (fun zs=>[(15,.row 1 230 (bB zs.1) (aR _))]) ?_ ?_
 ·refine .ak (.mv rfl<|.ar rfl rfl hri<|.av rfl<|.nil) rfl ?_;by_cases hr0:r=0
  ·subst hr0;refine .ak (.mv rfl<|.cm rfl rfl (AQ (by omega))<|.nil) rfl ?_;exact .cF rfl (.skip fun _ _ hs=>hs.to ⟨o,hln,hlo,by simp⟩ (cM rfl) (hP rfl) rfl rfl)
  refine .ak (.mv rfl<|.cm rfl rfl (AJ (by omega))<|.nil) rfl ?_;refine .cT rfl ?_;refine .ak (.av rfl<|.nil) rfl ?_;refine .ak (.mv rfl<|.ar rfl rfl hqi<|.av rfl<|.nil) rfl ?_;refine .block (.loop (ι:={p:List Nat×Nat×Nat//p.1.length=q+a.length+1/\cE p.1/\p.2.1<2^r/\p.2.2<=q+a.length+1/\(∀j,p.2.2<=j->p.1.getD j 0=o.getD j 0)/\val (p.1.take p.2.2)+4294967296^p.2.2*p.2.1=2^r*val (o.take p.2.2)})
   (fun p=>[(5,.own 15),(6,.int .i64 r),(7,.int .u32 p.1.2.1),(8,.int .i64 p.1.2.2)]) (fun p=>[(15,.row 1 230 (bB p.1.1) (aR _))]) (fun p=>q+a.length+1-p.1.2.2)
   ⟨(o,0,q),hln,hlo,Nat.two_pow_pos r,by simp only;omega,fun _ _=>rfl,by simp[hstart]⟩ (cM rfl) (hP rfl) rfl rfl ?_)
  rintro⟨⟨zs,c,i⟩,hzl,hzs,hc,hi,hsame,hv⟩;simp only at hzl hzs hc hi hsame hv;show Ok PP _ [(5,.own 15),(6,.int .i64 r),(7,.int .u32 c),(8,.int .i64 i)] [(15,.row 1 230 (bB zs) (aR _))] _ _;have hl2:(bB zs).length=(q+a.length+1)*1:=by rw[bx,hzl];omega
  refine .sq ?_;by_cases hlt:i<q+a.length+1
  ·refine .ak (.mv rfl<|.mv rfl<|.Bl (n:=q+a.length+1) (m':=1) rfl rfl au hl2 rfl rfl<|.cm rfl rfl (uo (by omega))<|.nil) rfl ?_;refine .cT rfl (.skip (Ok.on (.sq (.block ?_))));have hzi:zs[i]?=some (o.getD i 0):=by rw[←hsame i (Nat.le_refl _)];simp[show i<zs.length by omega]
   have hdl:=bO hlo i;have hst:=da o i;generalize o.getD i 0=d at hzi hdl hst;obtain⟨h1,h2,h3⟩:=wo (r:=r) (by omega) hdl hc;refine .cJ bP (.mv rfl<|.mv rfl<|.mv rfl<|.mv rfl<|.nG (n:=q+a.length+1) (m':=1) rfl rfl rfl az hl2 rfl rfl (by omega) (by omega)<|.tY rfl rfl aQ (d:=.int .u32 d) (by rw[Int.toNat_natCast,Nat.mul_one];exact bj hzi)<|.mv rfl<|
    .ar rfl rfl (nr (n:=32) (d:=r) (by omega) (by omega))<|.sh rfl rfl (oM (n:=d) (k:=32-r) (by omega))<|.mv rfl<|.mv rfl<|.nG (n:=q+a.length+1) (m':=1) rfl rfl rfl az hl2 rfl rfl (by omega) (by omega)<|.tY rfl rfl aQ (d:=.int .u32 d) (by rw[Int.toNat_natCast,Nat.mul_one];exact bj hzi)<|
    .mv rfl<|.sh rfl rfl (uT (n:=d) (k:=r) (by omega))<|.mv rfl<|.ar rfl rfl (r:=((c+(d%2^(32-r))*2^r:Nat):Int)) (by rw[y3 (by omega)];exact zh hc h1)<|.av rfl<|.nG (n:=q+a.length+1) (m':=1) rfl rfl rfl az hl2 rfl rfl (by omega) (by omega)<|
    .vC rfl rfl rfl aQ rfl rfl (by rw[hl2];omega)<|.nil) rfl (by kernel_rfl) fun _ _ hs=>?_
   refine Ok.on ?_ _ _ hs;refine .region (.mv rfl<|.ar rfl rfl (eK (by omega))<|.av rfl<|.nil) rfl fun _ _ hs=>?_;refine hs.round (m:=q+a.length+1-i) ⟨(zs.set i (c+(d%2^(32-r))*2^r),d/2^(32-r),i+1),by simpa using hzl,gP hzs h1 i,h2,hlt,?_,?_⟩ (by simp only;omega) (cM rfl) ⟨⟨_,rfl,.of_eq (de (dN ..))⟩,trivial⟩ rfl rfl
   ·intro j hj;simp only at hj|-;rw[←hsame j (by omega)];simp[List.getElem?_set_ne (show i≠j by omega)]
   ·simp only;rw[eL (by omega),hst,Nat.pow_succ];exact xN hv h3
  ·have:i=q+a.length+1:=by omega
   subst this;refine .ak (.mv rfl<|.mv rfl<|.Bl (n:=q+a.length+1) (m':=1) rfl rfl au hl2 rfl rfl<|.cm rfl rfl (uz (by omega))<|.nil) rfl ?_;refine .cF rfl (.exit fun _ _ hs=>?_);rw[List.take_of_length_le (by omega),List.take_of_length_le (by omega)]at hv;exact hs.to ⟨zs,hzl,hzs,yN (by omega) hsmall hv⟩ (cM rfl) (hP rfl) rfl rfl
 ·rintro⟨zs,hzl,hzs,hv⟩;show Ok PP _ [(5,.own 15)] [(15,.row 1 230 (bB zs) (aR _))] _ _;refine .sD (n:=q+a.length+1) (m':=1) 5 rfl rfl (by simp[bx,hzl]) rfl rfl ?_;refine .sub [(5,cS zs)] [] ⟨⟨_,rfl,.of_eq (kO hzl.symm rfl)⟩,trivial⟩ trivial rfl rfl ?_;refine .ak (.mv rfl<|.call (kc _ hzs (by omega)) ⟨rfl,trivial⟩<|.av rfl<|.nil) rfl ?_;exact .og rfl (.tmp rfl) (.of_eq (by rw[hv])) rfl
end Go.Am
namespace Go.Am
def gC(t:Nat):List Nat->Nat->Nat->List Nat->List Nat
 |[],c,b,u::us=>(u+(8589934592-c%4294967296-b))%4294967296::us
 |y::v,c,b,u::us=>(u+(8589934592-(c+t*y)%4294967296-b))%4294967296::gC t v ((c+t*y)/4294967296) (if u<(c+t*y)%4294967296+b then 1 else 0) us
 |_,_,_,[]=>[]
def fY(t:Nat):List Nat->Nat->Nat->List Nat->Nat
 |[],c,b,u::_=>if u<c%4294967296+b then 1 else 0
 |y::v,c,b,u::us=>fY t v ((c+t*y)/4294967296) (if u<(c+t*y)%4294967296+b then 1 else 0) us
 |_,_,_,[]=>0
def iW:List Nat->Nat->List Nat->List Nat
 |[],c,u::us=>(u+c)%4294967296::us
 |y::v,c,u::us=>(u+y+c)%4294967296::iW v ((u+y+c)/4294967296) us
 |_,_,[]=>[]
theorem n6(t:Nat):∀(v:List Nat) (c b:Nat) (us:List Nat),(gC t v c b us).length=us.length
 |[],_,_,[]=>rfl
 |[],_,_,_::_=>rfl
 |_::_,_,_,[]=>rfl
 |_::v,_,_,_::us=>by simp[gC,n6 t v]
theorem mw(t:Nat):∀{v:List Nat} {c b:Nat} {us:List Nat},cE us->cE (gC t v c b us)
 |[],_,_,[],h=>h
 |[],_,_,u::us,h=>fun d hd=>by
  rcases List.mem_cons.1 hd with rfl|hd
  ·exact Nat.mod_lt _ (by omega)
  ·exact h d (by simp[hd])
 |_::_,_,_,[],h=>h
 |_::v,_,_,u::us,h=>fun d hd=>by
  rcases List.mem_cons.1 hd with rfl|hd
  ·exact Nat.mod_lt _ (by omega)
  ·exact mw t (v:=v) (fun x hx=>h x (by simp[hx])) d hd
theorem tP(t:Nat):∀(v:List Nat) (c b:Nat) (us:List Nat),fY t v c b us<=1
 |[],_,_,[]=>by simp[fY]
 |[],_,_,_::_=>by simp only[fY];split<;>omega
 |_::_,_,_,[]=>by simp[fY]
 |_::v,_,_,_::us=>tP t v _ _ us
theorem q8(t:Nat)(ht:t<4294967296):∀(v:List Nat) (c b:Nat) (us:List Nat),cE v->cE us->c<4294967296->b<=1->v.length<us.length->
  val ((gC t v c b us).take (v.length+1))+(t*val v+c+b)=val (us.take (v.length+1))+4294967296^(v.length+1)*fY t v c b us
 |[],c,b,u::us,_,hu,hc,hb,_=>by
  have h1:=hu u (by simp);simp only[gC,fY,List.length_nil,Nat.zero_add,List.take_succ_cons,List.take_zero,val,Nat.mul_zero,Nat.add_zero,Nat.pow_one];rw[Nat.mod_eq_of_lt hc]
  split<;>omega
 |y::v,c,b,u::us,hv,hu,hc,hb,hl=>by
  have h1:=hu u (by simp);have h2:=hv y (by simp);have hty:t*y<=4294967295*4294967295:=Nat.mul_le_mul (by omega) (by omega);have hc':(c+t*y)/4294967296<4294967296:=by omega
  have hb':(if u<(c+t*y)%4294967296+b then 1 else 0)<=1:=by split<;>omega
  have ih:=q8 t ht v ((c+t*y)/4294967296) (if u<(c+t*y)%4294967296+b then 1 else 0) us (fun x hx=>hv x (by simp[hx])) (fun x hx=>hu x (by simp[hx])) hc' hb' (by simpa using hl);simp only[gC,fY,List.length_cons,List.take_succ_cons,val];generalize fY t v _ _ us=B at*;generalize val ((gC t v _ _ us).take (v.length+1))=X at*;generalize val (us.take (v.length+1))=U at*;have hp:(4294967296:Nat)^(v.length+1+1)*B=4294967296*(4294967296^(v.length+1)*B):=by rw[Nat.pow_succ (n:=4294967296) (m:=v.length+1),Nat.mul_comm (4294967296^(v.length+1)),Nat.mul_assoc]
  rw[hp];generalize (4294967296:Nat)^(v.length+1)*B=Z at*;have htv:t*(y+4294967296*val v)=t*y+4294967296*(t*val v):=by rw[Nat.mul_add,Nat.mul_left_comm]
  rw[htv];generalize t*val v=W at*;generalize t*y=S at*
  split at ih<;>omega
theorem nM:∀(v:List Nat) (c:Nat) (us:List Nat),(iW v c us).length=us.length
 |[],_,[]=>rfl
 |[],_,_::_=>rfl
 |_::_,_,[]=>rfl
 |_::v,_,_::us=>by simp[iW,nM v]
theorem mB:∀{v:List Nat} {c:Nat} {us:List Nat},cE us->cE (iW v c us)
 |[],_,[],h=>h
 |[],_,u::us,h=>fun d hd=>by
  rcases List.mem_cons.1 hd with rfl|hd
  ·exact Nat.mod_lt _ (by omega)
  ·exact h d (by simp[hd])
 |_::_,_,[],h=>h
 |_::v,_,u::us,h=>fun d hd=>by
  rcases List.mem_cons.1 hd with rfl|hd
  ·exact Nat.mod_lt _ (by omega)
  ·exact mB (v:=v) (fun x hx=>h x (by simp[hx])) d hd
theorem q5:∀(v:List Nat) (c:Nat) (us:List Nat),cE v->cE us->c<=1->v.length<us.length->
  ∃k,k<=1/\val ((iW v c us).take (v.length+1))+4294967296^(v.length+1)*k=val (us.take (v.length+1))+val v+c
 |[],c,u::us,_,hu,hc,_=>by
  have h1:=hu u (by simp);refine⟨(u+c)/4294967296,by omega,?_⟩;simp only[iW,List.length_nil,Nat.zero_add,List.take_succ_cons,List.take_zero,val,Nat.mul_zero,Nat.add_zero,Nat.pow_one];omega
 |y::v,c,u::us,hv,hu,hc,hl=>by
  have h1:=hu u (by simp);have h2:=hv y (by simp);obtain⟨k,hk,ih⟩:=q5 v ((u+y+c)/4294967296) us (fun x hx=>hv x (by simp[hx])) (fun x hx=>hu x (by simp[hx])) (by omega) (by simpa using hl);refine⟨k,hk,?_⟩;simp only[iW,List.length_cons,List.take_succ_cons,val];have hp:(4294967296:Nat)^(v.length+1+1)*k=4294967296*(4294967296^(v.length+1)*k):=by rw[Nat.pow_succ (n:=4294967296) (m:=v.length+1),Nat.mul_comm (4294967296^(v.length+1)),Nat.mul_assoc]
  rw[hp];generalize (4294967296:Nat)^(v.length+1)*k=Z at*;generalize val ((iW v _ us).take (v.length+1))=X at*;generalize val (us.take (v.length+1))=U at*;omega
theorem mx(t:Nat):∀(v:List Nat) (c b:Nat) (us:List Nat),(gC t v c b us).drop (v.length+1)=us.drop (v.length+1)
 |[],_,_,[]=>rfl
 |[],_,_,_::_=>rfl
 |_::_,_,_,[]=>rfl
 |_::v,_,_,_::us=>by simpa [gC]using mx t v _ _ us
theorem po:∀(v:List Nat) (c:Nat) (us:List Nat),(iW v c us).drop (v.length+1)=us.drop (v.length+1)
 |[],_,[]=>rfl
 |[],_,_::_=>rfl
 |_::_,_,[]=>rfl
 |_::v,_,_::us=>by simpa [iW]using po v _ us
end Go.Am
namespace Go.Am
open Go.RowKit
theorem oQ{p:List Nat}{u d:Nat}{q:List Nat}{i:Nat}(h:p.length=i):(p++u::q).set i d=p++d::q:=by
 subst h;simp
theorem uP{p:List Nat}{u:Nat}{q:List Nat}{i:Nat}(h:p.length=i):(p++u::q)[i]?=some u:=by
 subst h;simp
def taken(us v:List Nat)(t at':Nat):List Nat:=us.take at'++gC t v 0 0 (us.drop at')
def given(us v:List Nat)(at':Nat):List Nat:=us.take at'++iW v 0 (us.drop at')
theorem AB(us v:List Nat)(t at':Nat)(hus:cE us)(hv:cE v)(ht:t<4294967296)(hl:at'+v.length<us.length)(hmax:us.length<=2199023255552):
  xA PP 227 [cS v,.int .u64 t,.int .i64 at'] 1 230 (bB us) (.bool (fY t v 0 0 (us.drop at') !=0)) (bB (taken us v t at')):=by
 refine .of (hl:=aR us) (hl':=aR _) Go.Proofs.Tryz.func227 rfl (by kernel_rfl) rfl rfl rfl (fun A w0 b F hF=>?_);refine .ak (.av rfl<|.nil) rfl ?_;refine .ak (.av rfl<|.av rfl<|.nil) rfl (.sq ?_);refine .ak (.mv rfl<|.ln rfl au<|.mv rfl<|.nil) rfl ?_;refine .block (.loop (ι:={p:List Nat×Nat×Nat×Nat//p.1.length=at'+p.2.2.2/\p.2.2.2<=v.length/\p.2.1<4294967296/\p.2.2.1<=1/\taken us v t at'=p.1++gC t (v.drop p.2.2.2) p.2.1 p.2.2.1 (us.drop (at'+p.2.2.2))/\
   fY t v 0 0 (us.drop at')=fY t (v.drop p.2.2.2) p.2.1 p.2.2.1 (us.drop (at'+p.2.2.2))})
  (fun p=>[(0,sN 0 b),(1,cS v),(2,.int .u64 t),(3,.int .i64 at'),(9,.int .u64 p.1.2.1),(10,.int .u32 p.1.2.2.1),(13,cS v),(14,.int .i64 v.length),(15,.int .i64 p.1.2.2.2)])
  (fun p=>[(0,.row 1 230 (bB (p.1.1++us.drop (at'+p.1.2.2.2))) (aR _))]) (fun p=>v.length-p.1.2.2.2)
  ⟨(us.take at',0,0,0),by simp;omega,Nat.zero_le _,by simp,by simp,rfl,rfl⟩ (cM rfl) ⟨⟨_,rfl,.of_eq (de (by simp))⟩,trivial⟩ rfl rfl ?_)
 rintro⟨⟨ps,c,bo,i⟩,hpl,hi,hc,hbo,htk,htb⟩;simp only at hpl hi hc hbo htk htb;show Ok PP _ [(0,sN 0 b),(1,cS v),(2,.int .u64 t),(3,.int .i64 at'),(9,.int .u64 c),(10,.int .u32 bo),(13,cS v),(14,.int .i64 v.length),(15,.int .i64 i)] [(0,.row 1 230 (bB (ps++us.drop (at'+i))) (aR _))] _ _;have hdu:us.drop (at'+i)=us.getD (at'+i) 0::us.drop (at'+i+1):=by
  rw[List.drop_eq_getElem_cons (show at'+i<us.length by omega)];simp[show at'+i<us.length by omega]
 have hul:=bO hus (at'+i);generalize us.getD (at'+i) 0=u at hdu hul;refine .sub [(0,sN 0 b),(1,cS v),(2,.int .u64 t),(3,.int .i64 at'),(9,.int .u64 c),(10,.int .u32 bo),(13,cS v),(14,.int .i64 v.length),(15,.int .i64 i)] [(0,.row 1 230 (bB (ps++u::us.drop (at'+i+1))) (aR _))] (cM rfl) ⟨⟨_,rfl,.of_eq (de (by rw[hdu]))⟩,trivial⟩ rfl rfl ?_;rw[hdu]at htk htb;have hrl:(bB (ps++u::us.drop (at'+i+1))).length=us.length*1:=by
  rw[bx,List.length_append,List.length_cons,List.length_drop,hpl];omega
 have hgu:(bB (ps++u::us.drop (at'+i+1)))[((at'+i:Nat):Int).toNat*1]?=some (.int .u32 u):=by
  rw[Int.toNat_natCast,Nat.mul_one];exact bj (uP hpl)
 by_cases hlt:i<v.length
 ·refine .ak (.cm rfl rfl (uo (by omega))<|.nil) rfl (.sq ?_);refine .cT rfl (.skip (Ok.on (.sq (.block ?_))));have hvi:v[i]?=some (v.getD i 0):=by simp[hlt]
  have hyl:=bO hv i;have hdv:v.drop i=v.getD i 0::v.drop (i+1):=by
   rw[List.drop_eq_getElem_cons hlt];simp[hlt]
  generalize v.getD i 0=y at hvi hyl hdv;rw[hdv]at htk htb;simp only[gC,fY]at htk htb;have hty:t*y<=4294967295*4294967295:=Nat.mul_le_mul (by omega) (by omega);have hs:c+t*y<18446744073709551616:=by omega
  have hm:(c+t*y)%4294967296<4294967296:=Nat.mod_lt _ (by omega);refine .ak (.mv rfl<|.nA rfl rfl az (by omega) (by omega) (bj hvi)<|.iu rfl aQ<|.av rfl<|.av rfl<|.nil) rfl ?_;refine .ak (.mv rfl<|.mv rfl<|.mv rfl<|.cv rfl bk (bJ (by omega))<|.ar rfl rfl (o0 (by omega))<|.ar rfl rfl (o2 hs)<|.av rfl<|.nil) rfl ?_;refine .ak (.Bc rfl ki<|.mv rfl<|.mv rfl<|.ar rfl rfl (db (by omega))<|.Bc rfl ki<|.mv rfl<|.mv rfl<|.ar rfl rfl (db (by omega))<|.nG (n:=us.length) (m':=1) rfl rfl rfl az hrl rfl rfl (by omega) (by omega)<|.tY rfl rfl aQ hgu<|
   .mv rfl<|.cv rfl dw (ie _)<|.mv rfl<|.call (se u ((c+t*y)%4294967296) bo hul hm hbo) ⟨rfl,rfl,rfl,trivial⟩<|.mv rfl<|.ext rfl rfl<|.ext rfl rfl<|.nG (n:=us.length) (m':=1) rfl rfl rfl az hrl rfl rfl (by omega) (by omega)<|
   .vC rfl rfl rfl aQ rfl rfl (by rw[hrl];omega)<|.av rfl<|.nil) rfl ?_
  refine .region (.mv rfl<|.sh rfl rfl (tg (by decide))<|.av rfl<|.nil) rfl fun _ _ hs=>?_;refine Ok.on ?_ _ _ hs;refine .region (.ar rfl rfl (eK (by omega))<|.mv rfl<|.nil) rfl fun _ _ hs=>?_;refine hs.round (m:=v.length-i) ⟨(ps++[(u+(8589934592-(c+t*y)%4294967296-bo))%4294967296],(c+t*y)/4294967296,if u<(c+t*y)%4294967296+bo then 1 else 0,i+1),by simp[hpl];omega,hlt,by simp only;omega,by simp only;split<;>omega,?_,?_⟩ (by simp only;omega)
   (cM rfl) ⟨⟨_,rfl,.of_eq (de (by rw[dN,oQ hpl];simp only[List.append_assoc,List.singleton_append,Nat.add_assoc]))⟩,trivial⟩ rfl rfl
  ·simp only;rw[htk,List.append_assoc,List.singleton_append,Nat.add_assoc]
  ·simp only;rw[htb,Nat.add_assoc]
 ·have:i=v.length:=by omega
  subst this;refine .ak (.cm rfl rfl (uz (by omega))<|.nil) rfl (.sq ?_);refine .cF rfl (.exit (Ok.on ?_));rw[List.drop_length]at htk htb;simp only[gC,fY]at htk htb;have hm:c%4294967296=c:=Nat.mod_eq_of_lt hc;rw[hm]at htk htb;refine .ak (.Bc rfl ki<|.mv rfl<|.mv rfl<|.ln rfl au<|.ar rfl rfl (db (by omega))<|.Bc rfl ki<|.mv rfl<|.mv rfl<|.ln rfl au<|.ar rfl rfl (db (by omega))<|.nG (n:=us.length) (m':=1) rfl rfl rfl az hrl rfl rfl (by omega) (by omega)<|.tY rfl rfl aQ hgu<|
   .mv rfl<|.cv rfl dw (eY hc)<|.mv rfl<|.call (se u c bo hul hc hbo) ⟨rfl,rfl,rfl,trivial⟩<|.mv rfl<|.ext rfl rfl<|.ext rfl rfl<|.nG (n:=us.length) (m':=1) rfl rfl rfl az hrl rfl rfl (by omega) (by omega)<|
   .vC rfl rfl rfl aQ rfl rfl (by rw[hrl];omega)<|.av rfl<|.nil) rfl ?_
  refine .ak (.mv rfl<|.cm rfl rfl (b:=fY t v 0 0 (us.drop at') !=0) (by rw[htb];split<;>rfl)<|.av rfl<|.nil) rfl ?_;refine .sub [(0,sN 0 b),(8,.bool (fY t v 0 0 (us.drop at') !=0))] [(0,.row 1 230 (bB (taken us v t at')) (aR _))] (cM rfl) ⟨⟨_,rfl,.of_eq (de (by rw[dN,oQ hpl,htk]))⟩,trivial⟩ rfl rfl ?_;exact .BE (t:=0) (r:=0) hF (fun _ _ h=>h) rfl (.tmp rfl) (.refl _) rfl rfl rfl
theorem Sat.BI{P:Program}{c:Ctx}{T:List (Nat×D)}{H:List (Nat×Hp)}{fn:Func}{t r m:Nat}{e:TypeId}{l:List D}{hl:bF l=[]}{b:Value}{a:Act}{w:World}(hL:∀k,c.L k->b≠.slice none 0 0/\k=iv b)(hx:fn.results=#[])
  (ht:aO T t=some (sN r b))(hh:ai H r=some (.row m e l hl))(hs:Sat c (aO T) (ai H) a w):bodyPost P fn (Ap c .any m e l hl b) .normal a w:=by
 obtain⟨ε,φ,hs⟩:=hs;obtain⟨hrow,hS⟩:=tj hL ht hh hs;refine⟨hs.df,.tuple #[],?_,.tuple #[],φ r,rfl,trivial,(Hp.row m e l hl).mono hrow (fun r h=>by cases h) (fun k hk _=>⟨hS k hk,rfl⟩) (fun _ _=>rfl),hs.oL⟩;rw[eE,hx];simp
theorem AU(us v:List Nat)(at':Nat)(hus:cE us)(hv:cE v)(hl:at'+v.length<us.length)(hmax:us.length<=2199023255552):
  xA PP 228 [cS v,.int .i64 at'] 1 230 (bB us) .any (bB (given us v at')):=by
 refine .of (hl:=aR us) (hl':=aR _) Go.Proofs.Tryz.func228 rfl (by kernel_rfl) rfl rfl rfl (fun A w0 b F hF=>?_);refine .ak (.av rfl<|.nil) rfl (.sq ?_);refine .ak (.mv rfl<|.ln rfl au<|.mv rfl<|.nil) rfl ?_;refine .block (.loop (ι:={p:List Nat×Nat×Nat//p.1.length=at'+p.2.2/\p.2.2<=v.length/\p.2.1<=1/\given us v at'=p.1++iW (v.drop p.2.2) p.2.1 (us.drop (at'+p.2.2))})
  (fun p=>[(0,sN 0 b),(1,cS v),(2,.int .i64 at'),(6,.int .u32 p.1.2.1),(9,cS v),(10,.int .i64 v.length),(11,.int .i64 p.1.2.2)])
  (fun p=>[(0,.row 1 230 (bB (p.1.1++us.drop (at'+p.1.2.2))) (aR _))]) (fun p=>v.length-p.1.2.2)
  ⟨(us.take at',0,0),by simp;omega,Nat.zero_le _,by simp,rfl⟩ (cM rfl) ⟨⟨_,rfl,.of_eq (de (by simp))⟩,trivial⟩ rfl rfl ?_)
 rintro⟨⟨ps,c,i⟩,hpl,hi,hc,htk⟩;simp only at hpl hi hc htk;show Ok PP _ [(0,sN 0 b),(1,cS v),(2,.int .i64 at'),(6,.int .u32 c),(9,cS v),(10,.int .i64 v.length),(11,.int .i64 i)] [(0,.row 1 230 (bB (ps++us.drop (at'+i))) (aR _))] _ _;have hdu:us.drop (at'+i)=us.getD (at'+i) 0::us.drop (at'+i+1):=by
  rw[List.drop_eq_getElem_cons (show at'+i<us.length by omega)];simp[show at'+i<us.length by omega]
 have hul:=bO hus (at'+i);generalize us.getD (at'+i) 0=u at hdu hul;refine .sub [(0,sN 0 b),(1,cS v),(2,.int .i64 at'),(6,.int .u32 c),(9,cS v),(10,.int .i64 v.length),(11,.int .i64 i)] [(0,.row 1 230 (bB (ps++u::us.drop (at'+i+1))) (aR _))] (cM rfl) ⟨⟨_,rfl,.of_eq (de (by rw[hdu]))⟩,trivial⟩ rfl rfl ?_;rw[hdu]at htk;have hrl:(bB (ps++u::us.drop (at'+i+1))).length=us.length*1:=by
  rw[bx,List.length_append,List.length_cons,List.length_drop,hpl];omega
 have hgu:(bB (ps++u::us.drop (at'+i+1)))[((at'+i:Nat):Int).toNat*1]?=some (.int .u32 u):=by
  rw[Int.toNat_natCast,Nat.mul_one];exact bj (uP hpl)
 by_cases hlt:i<v.length
 ·refine .ak (.cm rfl rfl (uo (by omega))<|.nil) rfl (.sq ?_);refine .cT rfl (.skip (Ok.on (.sq (.block ?_))));have hvi:v[i]?=some (v.getD i 0):=by simp[hlt]
  have hyl:=bO hv i;have hdv:v.drop i=v.getD i 0::v.drop (i+1):=by
   rw[List.drop_eq_getElem_cons hlt];simp[hlt]
  generalize v.getD i 0=y at hvi hyl hdv;rw[hdv]at htk;simp only[iW]at htk;refine .ak (.mv rfl<|.nA rfl rfl az (by omega) (by omega) (bj hvi)<|.iu rfl aQ<|.av rfl<|.av rfl<|.nil) rfl ?_;refine .region (.Bc rfl ki<|.mv rfl<|.mv rfl<|.ar rfl rfl (db (by omega))<|.Bc rfl ki<|.mv rfl<|.mv rfl<|.ar rfl rfl (db (by omega))<|.nG (n:=us.length) (m':=1) rfl rfl rfl az hrl rfl rfl (by omega) (by omega)<|.tY rfl rfl aQ hgu<|
   .mv rfl<|.mv rfl<|.call (yM u y c hul hyl hc) ⟨rfl,rfl,rfl,trivial⟩<|.mv rfl<|.ext rfl rfl<|.ext rfl rfl<|.nG (n:=us.length) (m':=1) rfl rfl rfl az hrl rfl rfl (by omega) (by omega)<|
   .vC rfl rfl rfl aQ rfl rfl (by rw[hrl];omega)<|.av rfl<|.nil) rfl fun _ _ hs=>?_
  refine Ok.on ?_ _ _ hs;refine .region (.ar rfl rfl (eK (by omega))<|.mv rfl<|.nil) rfl fun _ _ hs=>?_;refine hs.round (m:=v.length-i) ⟨(ps++[(u+y+c)%4294967296],(u+y+c)/4294967296,i+1),by simp[hpl];omega,hlt,by simp only;omega,?_⟩ (by simp only;omega)
   (cM rfl) ⟨⟨_,rfl,.of_eq (de (by rw[dN,oQ hpl];simp only[List.append_assoc,List.singleton_append,Nat.add_assoc]))⟩,trivial⟩ rfl rfl
  simp only;rw[htk,List.append_assoc,List.singleton_append,Nat.add_assoc at']
 ·have:i=v.length:=by omega
  subst this;refine .ak (.cm rfl rfl (uz (by omega))<|.nil) rfl (.sq ?_);refine .cF rfl (.exit (Ok.on ?_));rw[List.drop_length]at htk;simp only[iW]at htk;have hw:IntKind.u32.wrap ((u:Int)+(c:Int))=(((u+c)%4294967296:Nat):Int):=wrap_u32 (by omega);refine .region (.Bc rfl ki<|.mv rfl<|.mv rfl<|.ln rfl au<|.ar rfl rfl (db (by omega))<|.nG (n:=us.length) (m':=1) rfl rfl rfl az hrl rfl rfl (by omega) (by omega)<|.tY rfl rfl aQ hgu<|
   .mv rfl<|.ar rfl rfl (congrArg some hw)<|.nG (n:=us.length) (m':=1) rfl rfl rfl az hrl rfl rfl (by omega) (by omega)<|
   .vC rfl rfl rfl aQ rfl rfl (by rw[hrl];omega)<|.nil) rfl fun _ _ hs=>?_
  refine(hs.sub (T':=[(0,sN 0 b)]) (H':=[(0,.row 1 230 (bB (given us v at')) (aR _))]) (cM rfl) ⟨⟨_,rfl,.of_eq (de (by rw[dN,oQ hpl,htk]))⟩,trivial⟩ rfl rfl).BI (t:=0) (r:=0) hF rfl rfl rfl
end Go.Am
namespace Go.Am
theorem xy{U V v1 R two q:Nat}(hV:v1*R<=V)(hU:U<(two+1)*R)(hq:q*V<=U):q*v1<=two:=by
 have h1:q*(v1*R)<=q*V:=Nat.mul_le_mul_left _ hV;rw[←Nat.mul_assoc]at h1;have h2:q*v1*R<(two+1)*R:=by omega
 have:=Nat.lt_of_mul_lt_mul_right h2;omega
theorem xd{U V B v1 v2 u2 P two g rest q:Nat}(hV:(v1*B+v2)*P<=V)(hU:U<(two*B+u2+1)*P)(hg:g*v1+rest=two)(ht:rest*B+u2<g*v2)(hq:q*V<=U):q<g:=by
 apply Nat.lt_of_not_le;intro hle;have h1:g*((v1*B+v2)*P)<=q*V:=Nat.mul_le_mul hle hV;have h2:g*(v1*B+v2)*P<(two*B+u2+1)*P:=by rw[Nat.mul_assoc];omega
 have h3:=Nat.lt_of_mul_lt_mul_right h2;have h4:g*(v1*B+v2)=g*v1*B+g*v2:=by rw[Nat.mul_add,Nat.mul_assoc]
 have h5:two*B=g*v1*B+rest*B:=by rw[←hg,Nat.add_mul]
 omega
theorem xa{U V B v1 v2 u2 P two g rest:Nat}(hV1:B*P<=V)(hV:V<(v1*B+v2+1)*P)(hU:(two*B+u2)*P<=U)(hg:g*v1+rest=two)(ht:g*v2<=rest*B+u2)(hgB:g<=B):g*V<=U+V:=by
 have h4:g*(v1*B+v2)=g*v1*B+g*v2:=by rw[Nat.mul_add,Nat.mul_assoc]
 have h5:two*B=g*v1*B+rest*B:=by rw[←hg,Nat.add_mul]
 have h6:g*(v1*B+v2)<=two*B+u2:=by omega
 have h7:g*(v1*B+v2)*P<=(two*B+u2)*P:=Nat.mul_le_mul_right _ h6;have h8:g*V<=g*((v1*B+v2+1)*P):=Nat.mul_le_mul_left _ (Nat.le_of_lt hV);have h9:g*((v1*B+v2+1)*P)=g*(v1*B+v2)*P+g*P:=by rw[←Nat.mul_assoc,Nat.mul_add g,Nat.mul_one,Nat.add_mul]
 have h10:g*P<=B*P:=Nat.mul_le_mul_right _ hgB;omega
theorem AL{U V g q X Y M bo k:Nat}(hq:q=U/V)(hV:0<V)(h1:q<=g)(h2:g*V<=U+V)(_hUM:U<M)(hbo:bo<=1)(hX:X<M)(hT:X+g*V=U+M*bo)(hk:k<=1)(hY:Y<M)(_hVM:V<M)(hG:Y+M*k=X+V):
  (bo=0/\g=q/\X=U%V)\/(bo=1/\g=q+1/\Y=U%V):=by
 have hdm:=Nat.div_add_mod U V;have hm:=Nat.mod_lt U hV;rw[←hq]at hdm;have hc:V*q=q*V:=Nat.mul_comm _ _;have hg:g=q\/g=q+1:=by
  rcases Nat.lt_or_ge (q+1) g with h|h
  ·exfalso
   have h3:(q+2)*V<=g*V:=Nat.mul_le_mul_right _ h;rw[Nat.add_mul]at h3;omega
  ·omega
 have hb:bo=0\/bo=1:=by omega
 have hkk:k=0\/k=1:=by omega
 rcases hg with rfl|rfl
 ·left
  rcases hb with rfl|rfl
  ·refine⟨rfl,rfl,?_⟩;omega
  ·exfalso;omega
 ·right
  rw[Nat.add_mul,Nat.one_mul]at hT;rcases hb with rfl|rfl
  ·exfalso;omega
  ·refine⟨rfl,rfl,?_⟩;rcases hkk with rfl|rfl<;>omega
end Go.Am
namespace Go.Am
open Go.RowKit
theorem Ag(x y:Nat)(hx:(aD x).length<=1099511627776)(hy:(aD y).length<=1099511627776):j5 PP 212 [ah x,ah y] (ah (x+y)):=
 Au (aD x) (aD y) (cw x) (cw y) hx hy (by rw[dc,dc])
def ja(l:List UInt8):Nat:=l.foldl (fun a b=>a*10+(b.toNat-48)) 0
theorem lX(l:List UInt8)(b:UInt8):ja (l++[b])=ja l*10+(b.toNat-48):=by simp[ja]
def qH(l:List UInt8):Prop:=∀b∈l,48<=b.toNat/\b.toNat<=57
theorem vq{l:List UInt8}(h:qH l):ja l<4294967296^l.length:=by
 have key:∀(n:Nat) (l:List UInt8),l.length=n->qH l->ja l<4294967296^n:=by
  intro n
  induction n with
  |zero=>intro l hl _;rw[List.length_eq_zero_iff.1 hl];simp[ja]
  |succ n ih=>
   intro l hl hd;have hne:l≠[]:=by intro e;subst e;simp at hl
   rw[←List.dropLast_concat_getLast hne,lX];have h1:=ih l.dropLast (by simp[hl]) (fun b hb=>hd b (List.dropLast_subset _ hb));have h2:=hd (l.getLast hne) (List.getLast_mem hne);have hp:(4294967296:Nat)^(n+1)=4294967296^n*4294967296:=Nat.pow_succ ..;rw[hp];generalize (4294967296:Nat)^n=P at*;omega
 exact key _ l rfl h
theorem vU(s:ByteArray)(hs:s.size<=1000000)(hd:qH s.data.toList):j5 PP 148 [.str s] (ah (ja s.data.toList)):=by
 refine .of Go.Proofs.Tryz.func148 rfl (by kernel_rfl) rfl rfl rfl (fun A w0=>?_);have hsl:s.data.toList.length=s.size:=Array.length_toList;refine .ak (.av rfl<|.nil) rfl ?_;refine .ak (.av rfl<|.nil) rfl (.sq ?_);refine .ak (.mv rfl<|.Cy rfl cI<|.mv rfl<|.nil) rfl ?_;refine .block (.loop (ι:={i:Nat//i<=s.size}) (fun i=>[(0,.str s),(3,ah (ja (s.data.toList.take i.1))),(6,.int .i64 s.size),(7,.int .i64 i.1)]) (fun _=>[]) (fun i=>s.size-i.1)
  ⟨0,Nat.zero_le _⟩ ⟨⟨_,rfl,.refl _⟩,⟨_,rfl,aM⟩,⟨_,rfl,.refl _⟩,⟨_,rfl,.refl _⟩,trivial⟩ trivial rfl rfl ?_)
 rintro⟨i,hi⟩;show Ok PP _ [(0,.str s),(3,ah (ja (s.data.toList.take i))),(6,.int .i64 s.size),(7,.int .i64 i)] [] _ _;by_cases hlt:i<s.size
 ·refine .ak (.cm rfl rfl (uo (by omega))<|.nil) rfl (.sq ?_);refine .cT rfl (.skip (Ok.on (.sq (.block ?_))));have hb:s[i]?=some s[i]:=getElem?_pos s i hlt;have hbl:s.data.toList[i]?=some s[i]:=by
   rw[Array.getElem?_toList,ByteArray.getElem_eq_getElem_data];exact Array.getElem?_eq_getElem _
  have hdb:=hd s[i] (List.mem_of_getElem? hbl);have htk:s.data.toList.take (i+1)=s.data.toList.take i++[s[i]]:=by
   rw[List.take_add_one,hbl];rfl
  have hlen:(s.data.toList.take i).length=i:=by rw[List.length_take,hsl];omega
  have hdt:qH (s.data.toList.take i):=fun b hb=>hd b (List.mem_of_mem_take hb);have hvl:=vq hdt;rw[hlen]at hvl;have hl1:=dX hvl;have hvl2:=vq (l:=s.data.toList.take (i+1)) (fun b hb=>hd b (List.mem_of_mem_take hb));have hlen2:(s.data.toList.take (i+1)).length=i+1:=by rw[htk,List.length_append,hlen];rfl
  rw[hlen2,htk,lX]at hvl2;generalize s[i]=b at*;generalize hv0:ja (s.data.toList.take i)=v at*;have hl2:(aD (v*10)).length<=i+1:=dX (Nat.lt_of_le_of_lt (Nat.le_add_right _ _) hvl2);have hl3:(aD (b.toNat-48)).length<=1:=dX (by omega);have hl4:(aD 10).length<=1:=dX (by omega);have hw:IntKind.u8.wrap ((b.toNat:Int)-48)=((b.toNat-48:Nat):Int):=by rw[IntKind.wrap_u8];omega
  refine .ak (.mv rfl<|.av rfl<|.nil) rfl ?_;refine .cJ bP (.mv rfl<|.call (oR 10 (by omega)) ⟨rfl,trivial⟩<|.call (z8 v 10 (by omega) (by omega)) ⟨rfl,rfl,trivial⟩<|.mv rfl<|.mv rfl<|.Ca rfl rfl cI (by omega) hb<|.ar rfl rfl (congrArg some hw)<|.cv rfl oH (bJ (by omega))<|
   .call (oR (b.toNat-48) (by omega)) ⟨rfl,trivial⟩<|.call (Ag (v*10) (b.toNat-48) (by omega) (by omega)) ⟨rfl,rfl,trivial⟩<|.av rfl<|.nil) rfl (by kernel_rfl) fun _ _ hs=>?_
  refine Ok.on ?_ _ _ hs;refine .region (.ar rfl rfl (eK (by omega))<|.mv rfl<|.nil) rfl fun _ _ hs=>?_;exact hs.round (m:=s.size-i) ⟨i+1,hlt⟩ (by simp only;omega) ⟨⟨_,rfl,.refl _⟩,⟨_,rfl,.of_eq (by rw[htk,lX,hv0])⟩,⟨_,rfl,.refl _⟩,⟨_,rfl,.refl _⟩,trivial⟩ trivial rfl rfl
 ·have:i=s.size:=by omega
  subst this;refine .ak (.cm rfl rfl (uz (by omega))<|.nil) rfl (.sq ?_);refine .cF rfl (.exit (Ok.on ?_));refine .ak (.mv rfl<|.av rfl<|.nil) rfl ?_;exact .og rfl (.tmp rfl) (.of_eq (by rw[List.take_of_length_le (by omega)])) rfl
end Go.Am
namespace Go.Am
open Go.RowKit
end Go.Am
namespace Go.Am
theorem Ad(B P a b:Nat):P*a+P*B*b=P*(b*B+a):=by
 rw[Nat.mul_add,Nat.mul_assoc,Nat.mul_comm B b];omega
theorem Bv(B P a b c:Nat):P*a+P*B*b+P*B*B*c=P*((c*B+b)*B+a):=by
 have e:P*B*B*c=P*(c*B*B):=by rw[Nat.mul_assoc,Nat.mul_assoc,Nat.mul_comm B c,Nat.mul_comm B (c*B)]
 rw[e,Ad,←Nat.mul_add,Nat.add_mul]
 congr 1;omega
theorem zL{l:List Nat}{p a b:Nat}(ha:l[p]?=some a)(hb:l[p+1]?=some b):val (l.take (p+2))=val (l.take p)+4294967296^p*(b*4294967296+a):=by
 have h1:=dq hb;have h2:=dq ha;rw[←Ad,show p+2=p+1+1 from rfl,h1,h2,Nat.pow_succ,Nat.add_assoc]
theorem wb{l:List Nat}{p a b c:Nat}(ha:l[p]?=some a)(hb:l[p+1]?=some b)(hc:l[p+2]?=some c):val (l.take (p+3))=val (l.take p)+4294967296^p*((c*4294967296+b)*4294967296+a):=by
 have h1:=dq hc;have h2:=dq hb;have h3:=dq ha;rw[←Bv,show p+3=p+2+1 from rfl,h1,show p+2=p+1+1 from rfl,h2,h3,Nat.pow_succ,Nat.pow_succ,Nat.add_assoc,Nat.add_assoc,Nat.add_assoc,Nat.pow_succ]
theorem vv{X P t U:Nat}(h:U=X+P*t)(hX:X<P):t*P<=U/\U<(t+1)*P:=by
 rw[h,Nat.add_mul,Nat.one_mul,Nat.mul_comm P t];omega
theorem tX{q two v1:Nat}(h:q*v1<=two)(h1:0<v1):q<=two/v1:=(Nat.le_div_iff_mul_le h1).2 h
theorem t_{g v1 rest two:Nat}(h:g*v1+rest=two)(hg:0<g):(g-1)*v1+(rest+v1)=two:=by
 obtain⟨k,rfl⟩:∃k,g=k+1:=⟨g-1,by omega⟩;rw[Nat.add_mul,Nat.one_mul]at h;rw[Nat.add_sub_cancel];omega
theorem tE{g v1 rest B u1 u0:Nat}(h:g*v1+rest=u1*B+u0)(hr:B<=rest)(hu1:u1<=v1)(hu0:u0<B):g<B:=by
 have h1:u1*B<=v1*B:=Nat.mul_le_mul_right _ hu1;have h2:g*v1<B*v1:=by rw[Nat.mul_comm B v1];omega
 exact Nat.lt_of_mul_lt_mul_right h2
end Go.Am
namespace Go.Am
open Go.RowKit
structure mI(us v:List Nat)(i n:Nat):Prop where
 n2:2<=n
 vl:v.length=n
 lv:cE v
 lu:cE us
 fit:i+n<us.length
 C3:4294967296^n<=2*val v
 less:val (us.drop (i+1))<val v
theorem mI.rest{us v:List Nat}{i n:Nat}(h:mI us v i n):val (us.drop i)=val ((us.drop i).take (n+1)):=by
 have h1:=dJ (us.drop (i+1)) n (by rw[List.length_drop];have:=h.fit;omega);have h2:=mi h.lv;rw[h.vl]at h2;have h3:val ((us.drop (i+1)).drop n)=0:=by
  rcases Nat.eq_zero_or_pos (val ((us.drop (i+1)).drop n))with h|h'
  ·exact h
  ·exfalso
   have:=Nat.mul_le_mul_left (4294967296^n) h';have:=h.less;omega
 have h4:=dJ (us.drop i) (n+1) (by rw[List.length_drop];have:=h.fit;omega);rw[List.drop_drop]at h3 h4;rw[show i+(n+1)=i+1+n by omega,h3,Nat.mul_zero,Nat.add_zero]at h4;exact h4
theorem getD_some{l:List Nat}{i:Nat}(h:i<l.length):l[i]?=some (l.getD i 0):=by simp[h]
theorem mI.win{us v:List Nat}{i p:Nat}(h:mI us v i (p+2)):
  ((us.getD (i+p+2) 0*4294967296+us.getD (i+p+1) 0)*4294967296+us.getD (i+p) 0)*4294967296^p<=val (us.drop i)/\
  val (us.drop i)<((us.getD (i+p+2) 0*4294967296+us.getD (i+p+1) 0)*4294967296+us.getD (i+p) 0+1)*4294967296^p:=by
 have hf:=h.fit;have g:∀k,k<p+3->(us.drop i)[k]?=some (us.getD (i+k) 0):=fun k hk=>by
  rw[List.getElem?_drop];exact getD_some (by omega)
 have h3:=wb (l:=us.drop i) (p:=p) (g p (by omega)) (g (p+1) (by omega)) (g (p+2) (by omega));rw[h.rest];exact vv h3 (dL (gX h.lu i) p)
theorem mI.div{us v:List Nat}{i p:Nat}(h:mI us v i (p+2)):
  (v.getD (p+1) 0*4294967296+v.getD p 0)*4294967296^p<=val v/\val v<(v.getD (p+1) 0*4294967296+v.getD p 0+1)*4294967296^p:=by
 have hl:=h.vl;have h3:=zL (l:=v) (p:=p) (getD_some (by omega)) (getD_some (by omega));rw[←hl,List.take_length]at h3;exact vv h3 (dL h.lv p)
theorem BA(a B P:Nat):a*B*B*P=B*(a*B*P):=by
 rw[Nat.mul_right_comm (a*B) B P,Nat.mul_comm (a*B*P) B]
theorem zA{v1 v2:Nat}(h1:v1<2147483648)(h2:v2<4294967296):v1*4294967296+v2+1<=9223372036854775808:=by omega
theorem mI.size{us v:List Nat}{i p:Nat}(h:mI us v i (p+2)):4294967296*4294967296^p<=val v/\2147483648<=v.getD (p+1) 0:=by
 have hb:=h.C3;have hd:=h.div.2;have hv2:=bO h.lv p;rw[Nat.pow_succ,Nat.pow_succ]at hb;generalize (4294967296:Nat)^p=P at*;generalize v.getD (p+1) 0=v1 at*;generalize v.getD p 0=v2 at*;generalize val v=V at*;refine⟨by omega,?_⟩;apply Nat.le_of_not_lt;intro hlt;have h0:=zA hlt hv2;have h1:=Nat.mul_le_mul_right P h0;omega
theorem mI.top{us v:List Nat}{i p:Nat}(h:mI us v i (p+2)):us.getD (i+p+2) 0<=v.getD (p+1) 0:=by
 have hu:=h.win.1;have hd:=h.div.2;have hr:=eJ us i;have hul:=bO h.lu i;have hv2:=bO h.lv p;have hs:=h.less;generalize us.getD (i+p+2) 0=a at*;generalize us.getD (i+p+1) 0=b at*;generalize us.getD (i+p) 0=c at*;generalize us.getD i 0=d at*;generalize val (us.drop i)=U at*;generalize val (us.drop (i+1))=W at*;generalize (4294967296:Nat)^p=P at*;generalize v.getD (p+1) 0=v1 at*;generalize v.getD p 0=v2 at*;generalize val v=V at*;apply Nat.le_of_not_lt;intro hlt;have h1:((v1+1)*4294967296*4294967296)*P<=((a*4294967296+b)*4294967296+c)*P:=Nat.mul_le_mul_right _ (by omega);have h2:(v1*4294967296+v2+1)*P<=((v1+1)*4294967296)*P:=Nat.mul_le_mul_right _ (by omega);have h3:((v1+1)*4294967296*4294967296)*P=4294967296*(((v1+1)*4294967296)*P):=BA ..;omega
end Go.Am
namespace Go.Am
theorem zj{U V B P two c v1 v2 q:Nat}(hw:U<(two*B+c+1)*P)(hd:(v1*B+v2)*P<=V)(hc:c<B)(hq:q*V<=U):q*v1<=two:=by
 refine xy (R:=B*P) (Nat.le_trans ?_ hd) (Nat.lt_of_lt_of_le hw ?_) hq
 ·rw[←Nat.mul_assoc];exact Nat.mul_le_mul_right _ (Nat.le_add_right _ _)
 ·rw[←Nat.mul_assoc];exact Nat.mul_le_mul_right _ (by rw[Nat.add_mul,Nat.one_mul];omega)
theorem mI.ge{us v:List Nat}{i p q:Nat}(h:mI us v i (p+2))(hq:q*val v<=val (us.drop i)):q*v.getD (p+1) 0<=us.getD (i+p+2) 0*4294967296+us.getD (i+p+1) 0:=
 zj h.win.2 h.div.1 (bO h.lu (i+p)) hq
end Go.Am
namespace Go.Am
structure Stood(us v:List Nat)(i p g:Nat):Prop where
 ge:val (us.drop i)/val v<=g
 le:g*val v<=val (us.drop i)+val v
 lt:g<4294967296
theorem mI.stood{us v:List Nat}{i p g rest:Nat}(h:mI us v i (p+2))(hge:val (us.drop i)/val v<=g)(hg:g*v.getD (p+1) 0+rest=us.getD (i+p+2) 0*4294967296+us.getD (i+p+1) 0)
  (ht:g*v.getD p 0<=rest*4294967296+us.getD (i+p) 0)(hgB:g<4294967296):Stood us v i p g:=
 ⟨hge,xa h.size.1 h.div.2 h.win.1 hg ht (Nat.le_of_lt hgB),hgB⟩
theorem rf(us v:List Nat)(t i:Nat):(taken us v t i).length=us.length:=by
 rw[taken,List.length_append,n6,List.length_take,List.length_drop];omega
theorem pA{us v:List Nat}{t i:Nat}(h:i<=us.length):(taken us v t i).drop i=gC t v 0 0 (us.drop i):=by
 rw[taken,List.drop_append_of_le_length (by simp;omega),List.drop_of_length_le (by simp;omega),List.nil_append]
theorem tV{us v:List Nat}{t i:Nat}(h:i<=us.length):(taken us v t i).take i=us.take i:=by
 rw[taken,List.take_append_of_le_length (by simp;omega),List.take_of_length_le (by simp;omega)]
theorem uF{us v:List Nat}{t i:Nat}(h:cE us):cE (taken us v t i):=iI (j1 h i) (mw t (gX h i))
theorem v_(us v:List Nat)(i:Nat):(given us v i).length=us.length:=by
 rw[given,List.length_append,nM,List.length_take,List.length_drop];omega
theorem uI{us v:List Nat}{i:Nat}(h:i<=us.length):(given us v i).drop i=iW v 0 (us.drop i):=by
 rw[given,List.drop_append_of_le_length (by simp;omega),List.drop_of_length_le (by simp;omega),List.nil_append]
theorem uN{us v:List Nat}{i:Nat}(h:i<=us.length):(given us v i).take i=us.take i:=by
 rw[given,List.take_append_of_le_length (by simp;omega),List.take_of_length_le (by simp;omega)]
theorem uv{us v:List Nat}{i:Nat}(h:cE us):cE (given us v i):=iI (j1 h i) (mB (gX h i))
theorem mI.BP{us v:List Nat}{i n:Nat}(h:mI us v i n):val ((us.drop i).drop (n+1))=0:=by
 have h1:=h.rest;have h4:=dJ (us.drop i) (n+1) (by rw[List.length_drop];have:=h.fit;omega);have hp:0<4294967296^(n+1):=Nat.pow_pos (by omega);generalize (4294967296:Nat)^(n+1)=P at*;rcases Nat.eq_zero_or_pos (val ((us.drop i).drop (n+1)))with h0|h0
 ·exact h0
 ·have:=Nat.mul_le_mul hp h0;omega
theorem mI.step{us v:List Nat}{i p g:Nat}(h:mI us v i (p+2))(hs:Stood us v i p g):
  (fY g v 0 0 (us.drop i)=0/\g=val (us.drop i)/val v/\val ((taken us v g i).drop i)=val (us.drop i)%val v)\/
  (fY g v 0 0 (us.drop i)=1/\g=val (us.drop i)/val v+1/\val ((given (taken us v g i) v i).drop i)=val (us.drop i)%val v):=by
 have hf:=h.fit;have hil:i<=us.length:=by omega
 have hld:v.length<(us.drop i).length:=by rw[List.length_drop,h.vl];omega
 have hT:=q8 g hs.lt v 0 0 (us.drop i) h.lv (gX h.lu i) (by omega) (by omega) hld;have hlt:=mw g (v:=v) (c:=0) (b:=0) (gX h.lu i);have hlen:=n6 g v 0 0 (us.drop i);obtain⟨k,hk,hG⟩:=q5 v 0 (gC g v 0 0 (us.drop i)) h.lv hlt (by omega) (by rw[hlen];exact hld);have hbo:=tP g v 0 0 (us.drop i);have hV:0<val v:=by
  have:=h.size.1;have h2:0<4294967296*4294967296^p:=Nat.mul_pos (by omega) (Nat.pow_pos (by omega));exact Nat.lt_of_lt_of_le h2 this
 have hab:=h.BP;have hrest:=h.rest;rw[h.vl]at hT hG;have e1:val ((taken us v g i).drop i)=val ((gC g v 0 0 (us.drop i)).take (p+2+1)):=by
  rw[pA hil,dJ _ (p+2+1) (by rw[hlen,←h.vl];omega)];have:=mx g v 0 0 (us.drop i);rw[h.vl]at this;rw[this,hab,Nat.mul_zero,Nat.add_zero]
 have e2:val ((given (taken us v g i) v i).drop i)=val ((iW v 0 (gC g v 0 0 (us.drop i))).take (p+2+1)):=by
  rw[uI (by rw[rf];exact hil),pA hil,dJ _ (p+2+1) (by rw[nM,hlen,←h.vl];omega)];have g1:=po v 0 (gC g v 0 0 (us.drop i));have g2:=mx g v 0 0 (us.drop i);rw[h.vl]at g1 g2;rw[g1,g2,hab,Nat.mul_zero,Nat.add_zero]
 have hX:=dL hlt (p+2+1);have hY:=dL (mB (v:=v) (c:=0) hlt) (p+2+1);have hU:=dL (gX h.lu i) (p+2+1);have hVM:=mi h.lv;rw[h.vl]at hVM;have hMM:4294967296^(p+2)<=4294967296^(p+2+1):=Nat.pow_le_pow_right (by omega) (by omega);rw[e1,e2];rw[←hrest]at hT hU;exact AL rfl hV hs.ge hs.le hU hbo hX (by rw[←hT];omega) hk hY (Nat.lt_of_lt_of_le hVM hMM) hG
end Go.Am
namespace Go.Am
open Go.RowKit
theorem Le.B5{a b c d:D}(h:Le a c)(k:Le b d):Le (.fA [a,b]) (.fA [c,d]):=by
 refine⟨fun ε w S v ⟨vs,e,hv⟩=>⟨vs,e,?_⟩,fun r hr=>?_⟩
 ·match vs,hv with
  |[x,y],hv=>exact⟨h.1 _ _ _ _ hv.1,k.1 _ _ _ _ hv.2.1,trivial⟩
 ·obtain⟨e,he,hr'⟩:=bM.1 (show r∈bF [c,d]from hr);simp only[List.mem_cons,List.not_mem_nil,or_false]at he;rcases he with rfl|rfl
  ·exact bM.2 ⟨a,by simp,h.2 r hr'⟩
  ·exact bM.2 ⟨b,by simp,k.2 r hr'⟩
theorem yh{y:Nat}(h:(aD y).length=1):y<4294967296/\y≠0/\aD y=[y]:=by
 have h1:=jB (x:=y);rw[h]at h1;have h0:y≠0:=by intro e;subst e;rw[cB]at h;simp at h
 have hy:y<4294967296:=by omega
 refine⟨hy,h0,?_⟩;rw[jt h0,Nat.div_eq_of_lt hy,Nat.mod_eq_of_lt hy,cB]
theorem tR{x y:Nat}(h:y<=x):0<=fK x y:=by unfold fK;split<;>(try split)<;>omega
theorem xI{y k:Nat}(hy:y≠0):bn (y*2^k)=bn y+k:=by
 have hp:=Nat.two_pow_pos k;have h:=nf (x:=y*2^k) k (Nat.le_mul_of_pos_left _ (by omega));rw[Nat.mul_div_cancel _ hp]at h;exact h.symm
theorem zk{y n d:Nat}(hn:(aD y).length=n+1)(hd:(aD y)[n]?=some d)(hy:y≠0)(hd32:bn d<=32):
  4294967296^(n+1)<=2*(y*2^(32-bn d))/\(aD (y*2^(32-bn d))).length=n+1:=by
 have hb:=rn hn hd;have hm:=xI (k:=32-bn d) hy;have hV:bn (y*2^(32-bn d))=32*(n+1):=by omega
 have hV0:y*2^(32-bn d)≠0:=Nat.mul_ne_zero hy (Nat.pos_iff_ne_zero.1 (Nat.two_pow_pos _));generalize y*2^(32-bn d)=V at*;have h1:=lV V;have h2:=sC hV0;rw[hV]at h1 h2;have hp:(4294967296:Nat)^(n+1)=2^(32*(n+1)):=by rw[Nat.pow_mul]
 have hq:(2:Nat)^(32*(n+1))=2*2^(32*(n+1)-1):=by
  conv=>lhs;rw[show 32*(n+1)=(32*(n+1)-1)+1 by omega,Nat.pow_succ,Nat.mul_comm]
 have h3:4294967296^(n+1)<=2*V:=by rw[hp,hq];exact Nat.mul_le_mul_left _ h2
 refine⟨h3,?_⟩;have h4:=dX (x:=V) (n:=n+1) (by rw[hp];exact h1);have h5:¬(aD V).length<=n:=by
  intro hle;have h6:=jB (x:=V);have h7:4294967296^(aD V).length<=4294967296^n:=Nat.pow_le_pow_right (by omega) hle;rw[Nat.pow_succ]at h3;generalize (4294967296:Nat)^n=P at*;omega
 omega
theorem wM{t P U q r V Z X B:Nat}(h:t+P*U+V*(P*B*Z)=X)(hU:V*q+r=U):t+P*r+V*(P*(q+B*Z))=X:=by
 rw[←h,←hU,Nat.mul_add P q,Nat.mul_add V,Nat.mul_add P (V*q),Nat.mul_left_comm V P q,←Nat.mul_assoc P B Z];omega
end Go.Am
namespace Go.Am
open Go.RowKit
theorem yj{l:List Nat}{n:Nat}(hw:l.length<=n):(List.replicate (n+1) (D.int .u32 0)).take 0++bB l++(List.replicate (n+1) (D.int .u32 0)).drop (0+l.length)=bB (l++List.replicate (n+1-l.length) 0):=by
 rw[List.take_zero,List.nil_append,Nat.zero_add,List.drop_replicate];simp[bB]
theorem xh{l:List Nat}{n:Nat}(hw:l.length<=n):(l++List.replicate (n+1-l.length) 0).take n=l++List.replicate (n-l.length) 0:=by
 rw[List.take_append,List.take_of_length_le hw,List.take_replicate,Nat.min_eq_left (by omega)]
theorem zf(l:List Nat)(n:Nat):val (l++List.replicate n 0)=val l:=by
 rw[jm,lI,Nat.mul_zero,Nat.add_zero]
theorem mI.Cu{us v:List Nat}{i n:Nat}(h:mI us v i n):val (us.drop i)/val v<4294967296:=by
 have hV:0<val v:=by have:=h.less;omega
 rw[Nat.div_lt_iff_lt_mul hV];have hd:us.drop i=us.getD i 0::us.drop (i+1):=by
  rw[List.drop_eq_getElem_cons (by have:=h.fit;omega)];congr 1;simp[show i<us.length from by have:=h.fit;omega]
 have hl:=bO h.lu i;have hless:=h.less;rw[hd,val];omega
theorem mI.dec{us v:List Nat}{i p g rest:Nat}(h:mI us v i (p+2))(hge:val (us.drop i)/val v<=g)(hg:g*v.getD (p+1) 0+rest=us.getD (i+p+2) 0*4294967296+us.getD (i+p+1) 0)
  (ht:4294967296<=g\/rest*4294967296+us.getD (i+p) 0<g*v.getD p 0):val (us.drop i)/val v<g:=by
 rcases ht with ht|ht
 ·have:=h.Cu;omega
 ·exact xd h.div.1 h.win.2 hg ht (Nat.div_mul_le_self _ _)
theorem mI.cy{us v:List Nat}{i p g rest:Nat}(h:mI us v i (p+2))(hge:val (us.drop i)/val v<=g)(hg:g*v.getD (p+1) 0+rest=us.getD (i+p+2) 0*4294967296+us.getD (i+p+1) 0)
  (hr:4294967296<=rest):Stood us v i p g:=by
 have hgB:=tE hg hr h.top (bO h.lu (i+p+1));refine h.stood hge hg ?_ hgB;have h2:=bO h.lv p;have h3:g*v.getD p 0<=4294967296*4294967296:=Nat.mul_le_mul (by omega) (by omega);have h4:4294967296*4294967296<=rest*4294967296:=Nat.mul_le_mul_right _ hr;omega
theorem wi{x y n la m p:Nat}(hxl:x<4294967296^la)(hyl:4294967296^n<=y)(hm:n+m=la)(hp:0<p):x*p<y*p*4294967296^m:=by
 have h3:=Nat.mul_le_mul_right (4294967296^m) hyl;rw[←Nat.pow_add,hm]at h3;have h4:x<y*4294967296^m:=Nat.lt_of_lt_of_le hxl h3;rw[Nat.mul_right_comm];exact Nat.mul_lt_mul_of_pos_right h4 hp
theorem yT{us0:List Nat}{V X m:Nat}(h:val us0=X)(hl:m<=us0.length)(hVX:X<V*4294967296^m):val (us0.drop m)<V:=by
 have h1:=dJ us0 m hl;rw[h]at h1;have h2:val (us0.drop m)*4294967296^m<V*4294967296^m:=by
  rw[Nat.mul_comm (val _)];exact Nat.lt_of_le_of_lt (by rw[h1];exact Nat.le_add_left _ _) hVX
 exact Nat.lt_of_mul_lt_mul_right h2
theorem zB{x y p a b:Nat}(hp:0<p)(hy:0<y)(h:a+y*p*b=x*p)(hl:a<y*p):b=x/y/\a=(x%y)*p:=by
 have hV:0<y*p:=Nat.mul_pos hy hp
 constructor
 ·have h1:x*p/(y*p)=b:=by rw[←h,Nat.add_mul_div_left _ _ hV,Nat.div_eq_of_lt hl,Nat.zero_add]
  rw[←h1,Nat.mul_div_mul_right _ _ hp]
 ·have h1:x*p%(y*p)=a:=by rw[←h,Nat.add_mul_mod_self_left,Nat.mod_eq_of_lt hl]
  rw[←h1,Nat.mul_mod_mul_right]
theorem xQ{us v:List Nat}{n:Nat}(hn:n<=us.length)(hv:cE v)(hvl:v.length=n)(h:val us<val v):val (us.take n)=val us:=by
 have h1:=dJ us n hn;have h2:=mi hv;rw[hvl]at h2;have h3:val (us.drop n)=0:=by
  rcases Nat.eq_zero_or_pos (val (us.drop n))with h|h
  ·exact h
  ·exfalso
   have h4:=Nat.mul_le_mul_left (4294967296^n) h;rw[Nat.mul_succ,Nat.mul_zero,Nat.zero_add]at h4;have h5:4294967296^n*val (us.drop n)<=val us:=by rw[h1];exact Nat.le_add_left _ _
   have h6:=Nat.lt_trans ‹val us<val v› h2;exact Nat.lt_irrefl _ (Nat.lt_of_le_of_lt (Nat.le_trans h4 h5) h6)
 rw[h1,h3,Nat.mul_zero,Nat.add_zero]
structure sH(la m V X:Nat)(us qs:List Nat)(i:Nat):Prop where
 ul:us.length=la+1
 lu:cE us
 ql:qs.length=m
 lq:cE qs
 im:i<=m
 sum:val us+V*(4294967296^i*val (qs.drop i))=X
 less:val (us.drop i)<V
theorem sH.init{la m V X:Nat}{us:List Nat}(h1:us.length=la+1)(h2:cE us)(h3:val us=X)(h4:val (us.drop m)<V):sH la m V X us (List.replicate m 0) m:=
 ⟨h1,h2,List.length_replicate,fT m,Nat.le_refl _,by rw[List.drop_of_length_le (by simp),h3];simp[val],h4⟩
theorem sH.fin{la m V X x y p:Nat}{us qs v:List Nat}{n:Nat}(h:sH la m V X us qs 0)(hX:x*p=X)(hV:y*p=V)(hp:0<p)(hy:0<y)(hn:n<=us.length)(hv:cE v)(hvl:v.length=n)(hvv:val v=V):
  val qs=x/y/\val (us.take n)=(x%y)*p:=by
 have hless:=h.less;have hval:=h.sum;rw[List.drop_zero]at hless;rw[List.drop_zero,Nat.pow_zero,Nat.one_mul]at hval;rw[←hX,←hV]at hval;obtain⟨hq,hr⟩:=zB hp hy hval (by rw[hV];exact hless);have htk:=xQ hn hv hvl (by rw[hvv];exact hless);rw[hr]at htk;exact⟨hq,htk⟩
theorem sH.step{la m V X:Nat}{us qs us':List Nat}{i q:Nat}(h:sH la m V X us qs (i+1))(hlu:cE us')(hl:us'.length=us.length)(hm:val (us'.drop i)=val (us.drop i)%V)(htk:us'.take i=us.take i)(hq:q=val (us.drop i)/V)(hqB:q<4294967296)(hV:0<V)(hiu:i<=us.length):
  sH la m V X us' (qs.set i q) i:=by
 have hiq:i<qs.length:=by have:=h.im;have:=h.ql;omega
 refine⟨by rw[hl];exact h.ul,hlu,by rw[List.length_set];exact h.ql,gP h.lq hqB i,by have:=h.im;omega,?_,?_⟩
 ·have hd:(qs.set i q).drop i=q::qs.drop (i+1):=by
   rw[List.drop_eq_getElem_cons (by rw[List.length_set];exact hiq),List.getElem_set_self,List.drop_set_of_lt (Nat.lt_succ_self i)]
  have h1:=dJ us i hiu;have h2:=dJ us' i (by omega);have h3:=h.sum;rw[h1,Nat.pow_succ]at h3;rw[hd,val,h2,htk,hm];exact wM h3 (by rw[hq];exact Nat.div_add_mod _ _)
 ·rw[hm];exact Nat.mod_lt _ hV
theorem BS(x y:Nat)(hy0:y≠0)(hx:(aD x).length<=549755813888)(hy:(aD y).length<=549755813888):j5 PP 167 [ah x,ah y] (.fA [ah (x/y),ah (x%y)]):=by
 show j5 PP _ [cS (aD x),cS (aD y)] _;refine .of Go.Proofs.Tryz.func167 rfl (by kernel_rfl) rfl rfl rfl (fun A w0=>?_);refine .ak (.av rfl<|.av rfl<|.nil) rfl (.sq (.block ?_));by_cases hlt:x<y
 ·refine .ak (.mv rfl<|.mv rfl<|.call (yF x y (by omega) (by omega)) ⟨rfl,rfl,trivial⟩<|.cm rfl rfl (uo (by rw[sw hlt];decide))<|.av rfl<|.nil) rfl ?_;refine .cT rfl (.ak (.mv rfl<|.av rfl<|.av rfl<|.nil) rfl ?_);exact .x8 (fun _ _ h=>h) rfl (.tmp rfl) (.tmp rfl) (.B5 (by rw[Nat.div_eq_of_lt hlt];exact aM) (.of_eq (by rw[Nat.mod_eq_of_lt hlt];rfl))) rfl
 have hyx:y<=x:=Nat.le_of_not_lt hlt;refine .ak (.mv rfl<|.mv rfl<|.call (yF x y (by omega) (by omega)) ⟨rfl,rfl,trivial⟩<|.cm rfl rfl (uz (tR hyx))<|.av rfl<|.nil) rfl ?_;refine .cF rfl ?_;by_cases h1:(aD y).length=1
 ·obtain⟨hyb,_,hyd⟩:=yh h1;refine .ak (.mv rfl<|.ln rfl au<|.cm rfl rfl (B_ (by omega))<|.av rfl<|.nil) rfl ?_;refine .cT rfl (.ak (.mv rfl<|.mv rfl<|.nA rfl rfl az (by omega) (by omega) (bj (i:=0) (d:=y) (by rw[hyd];rfl))<|.iu rfl aQ<|.call (vj x y hy0 hyb (by omega)) ⟨rfl,rfl,trivial⟩<|.ext rfl rfl<|.ext rfl rfl<|.av rfl<|.av rfl<|.nil) rfl ?_);exact .x8 (fun _ _ h=>h) rfl (.tmp rfl) (.tmp rfl) (.refl _) rfl
 refine .ak (.mv rfl<|.ln rfl au<|.cm rfl rfl (BM (by omega))<|.av rfl<|.nil) rfl ?_;refine .cF rfl (.skip (Ok.on ?_));obtain⟨p,hp⟩:∃p,(aD y).length=p+2:=⟨(aD y).length-2,by have:=cu hy0;omega⟩;have htop:(aD y)[p+1]?=some ((aD y).getD (p+1) 0):=getD_some (by omega);have hdl:=bO (cw y) (p+1);generalize (aD y).getD (p+1) 0=d at htop hdl;have hb32:bn d<=32:=eI (n:=32) hdl;obtain⟨hbig,hvl⟩:=zk (n:=p+1) hp htop hy0 hb32;have hsub1:mA .sub .i64 (((aD y).length:Nat):Int) 1=some ((p+1:Nat):Int):=by rw[i2 (by omega)];congr 1;omega
 refine .ak (.mv rfl<|.mv rfl<|.ln rfl au<|.ar rfl rfl hsub1<|.nA rfl rfl az (by omega) (by omega) (bj (i:=p+1) (d:=d) htop)<|.iu rfl aQ<|.call (n9 d hdl) ⟨rfl,trivial⟩<|.av rfl<|.nil) rfl ?_;have hkl:32-bn d<35184372088832:=by omega
 have hk32:32-bn d<=32:=by omega
 generalize 32-bn d=k at hbig hvl hkl hk32;have hpk:2^k<=4294967296:=Nat.le_trans (Nat.pow_le_pow_right (by decide) hk32) (by decide);have hXlt:x*2^k<4294967296^((aD x).length+1):=by
  rw[Nat.pow_succ];exact Nat.mul_lt_mul_of_lt_of_le jB hpk (by decide)
 have hAl:(aD (x*2^k)).length<=(aD x).length+1:=dX hXlt;have hXlt':=hXlt;refine .ak (.mv rfl<|.mv rfl<|.call (xB y k (by omega) hkl) ⟨rfl,rfl,trivial⟩<|.av rfl<|.nil) rfl ?_;refine .sub [(0,ah x),(1,ah y),(6,.int .i64 (k:Nat)),(7,cS (aD (y*2^k)))] [] (cM rfl) (hP rfl) rfl rfl ?_;have hvv:=dc (y*2^k);have hvo:=cw (y*2^k);generalize aD (y*2^k)=v at hvl hvv hvo;have hvl:v.length=p+2:=hvl;have hln:mA .sub .i64 (((aD x).length:Nat):Int) ((p+1+1:Nat):Int)=some ((((aD x).length-(p+2):Nat)):Int):=nr (by have:=ig hyx;omega) (by omega);have hnx:p+2<=(aD x).length:=by have:=ig hyx;omega
 refine .ak (.mv rfl<|.ln rfl au<|.av rfl<|.nil) rfl ?_;refine .sub [(0,cS (aD x)),(6,.int .i64 (k:Nat)),(7,cS v),(8,.int .i64 ((p+2:Nat)))] [] ⟨⟨_,rfl,.refl _⟩,⟨_,rfl,.refl _⟩,⟨_,rfl,.refl _⟩,⟨_,rfl,.of_eq (by rw[hvl])⟩,trivial⟩ (hP rfl) rfl rfl ?_;refine .ak (.mv rfl<|.ln rfl au<|.ar rfl rfl (db (d:=2) (by omega))<|.AM rfl rfl c0 rfl (by omega) (by omega) rfl<|.av rfl<|.nil) rfl ?_;have hKx:j5 PP 166 [cS (aD x),.int .i64 (k:Nat)] (cS (aD (x*2^k))):=xB x k (by omega) hkl;refine .ak (.mv rfl<|.mv rfl<|.mv rfl<|.call hKx ⟨rfl,rfl,trivial⟩<|.CU rfl rfl rfl c0 (by simp;try omega)<|.nil) rfl ?_;have hcopy:=yj hAl;have hpt:=xh hAl;have hpv:=zf (aD (x*2^k)) ((aD x).length+1-(aD (x*2^k)).length);have hplo:cE (aD (x*2^k)++List.replicate ((aD x).length+1-(aD (x*2^k)).length) 0):=iI (cw _) (fT _);rw[dc]at hpv;have hpl:(aD (x*2^k)++List.replicate ((aD x).length+1-(aD (x*2^k)).length) 0).length=(aD x).length+1:=by rw[List.length_append,List.length_replicate];omega
 have hpl2:(aD (x*2^k)++List.replicate ((aD x).length+1+1-(aD (x*2^k)).length) 0).length=(aD x).length+2:=by rw[List.length_append,List.length_replicate];omega
 refine .sub [(0,cS (aD x)),(6,.int .i64 (k:Nat)),(7,cS v),(8,.int .i64 ((p+2:Nat))),(9,.own 47)] [(47,.row 1 230 (bB (aD (x*2^k)++List.replicate ((aD x).length+1+1-(aD (x*2^k)).length) 0)) (aR _))] (cM rfl) ⟨⟨_,rfl,.of_eq (de hcopy)⟩,trivial⟩ rfl rfl ?_;generalize aD (x*2^k)++List.replicate ((aD x).length+1-(aD (x*2^k)).length) 0=us0 at hpt hpv hplo hpl;generalize aD (x*2^k)++List.replicate ((aD x).length+1+1-(aD (x*2^k)).length) 0=us1 at hpt hpl2;refine .ak (.mv rfl<|.mv rfl<|.ln rfl au<|.ar rfl rfl (eK (by omega))<|.CX (n:=(aD x).length+2) (m':=1) rfl rfl rfl az (by rw[bx,hpl2];omega) rfl rfl (by omega) (by omega) (by omega)<|.av rfl<|.nil) rfl ?_;refine .BN 9 200 (n:=(aD x).length+1) (m':=1) rfl rfl rfl (by rw[bx,hpl2];omega) rfl (by rw[bx,hpl2];omega) ?_;refine .sub [(0,cS (aD x)),(6,.int .i64 (k:Nat)),(7,cS v),(8,.int .i64 ((p+2:Nat))),(9,.own 200)] [(200,.row 1 230 (bB us0) (aR _))] (cM rfl) ⟨⟨_,rfl,.of_eq (de (by rw[Nat.mul_one,qS,hpt]))⟩,trivial⟩ rfl rfl ?_;refine .ak (.mv rfl<|.ln rfl au<|.mv rfl<|.ar rfl rfl hln<|.ar rfl rfl (eK (by omega))<|.AM rfl rfl c0 rfl (by omega) (by omega) rfl<|.av rfl<|.nil) rfl ?_;refine .sq ?_;refine .ak (.mv rfl<|.Bl (n:=(aD x).length-(p+2)+1) (m':=1) rfl rfl au (by simp) rfl rfl<|.ar rfl rfl (i2 (by omega))<|.av rfl<|.nil) rfl ?_;generalize hm:(aD x).length-(p+2)+1=m;generalize hX:x*2^k=X at hpv;have hbig':=hbig;generalize hV:y*2^k=V at hvv hbig';have hpk0:0<2^k:=Nat.two_pow_pos k;have hVX:X<V*4294967296^m:=by
  rw[←hX,←hV];exact wi jB (o7 hy0) (by omega) hpk0
 have hini:val (us0.drop m)<V:=yT hpv (by omega) hVX;have hI0:sH (aD x).length m V X us0 (List.replicate m 0) m:=.init hpl hplo hpv hini;refine .block (.loop (ι:={s:List Nat×List Nat×Nat//sH (aD x).length m V X s.1 s.2.1 s.2.2})
  (fun s=>[(6,.int .i64 (k:Nat)),(7,cS v),(8,.int .i64 ((p+2:Nat))),(9,.own 200),(10,.own 63),(11,.int .i64 ((s.1.2.2:Nat)-1))]) (fun s=>[(200,.row 1 230 (bB s.1.1) (aR _)),(63,.row 1 230 (bB s.1.2.1) (aR _))]) (fun s=>s.1.2.2)
  ⟨(us0,List.replicate m 0,m),hI0⟩ (cM rfl) ⟨⟨_,rfl,.refl _⟩,⟨_,rfl,.of_eq (de (by simp[bB]))⟩,trivial⟩ rfl rfl ?_)
 rintro⟨⟨us,qs,i1⟩,hI⟩;simp only at hI;show Ok PP _ [(6,.int .i64 (k:Nat)),(7,cS v),(8,.int .i64 ((p+2:Nat))),(9,.own 200),(10,.own 63),(11,.int .i64 ((i1:Nat)-1))] [(200,.row 1 230 (bB us) (aR _)),(63,.row 1 230 (bB qs) (aR _))] _ _;have hul:=hI.ul;have hql:=hI.ql;refine .sq ?_
 cases i1 with
 |zero=>
  refine .ak (.mv rfl<|.cm rfl rfl (b:=false) (by simp[cP])<|.nil) rfl ?_;refine .cF rfl (.exit (Ok.on ?_));obtain⟨hq,hr⟩:=hI.fin hX hV hpk0 (Nat.pos_of_ne_zero hy0) (n:=p+2) (by omega) hvo hvl hvv;have hltk:cE (us.take (p+2)):=j1 hI.lu _;have wW:=hI.lq;refine .sD (n:=m) (m':=1) 10 rfl rfl (by rw[bx,hql];omega) rfl rfl ?_;refine .sD (n:=(aD x).length+1) (m':=1) 9 rfl rfl (by rw[bx,hul];omega) rfl rfl ?_;refine .sub [(6,.int .i64 (k:Nat)),(8,.int .i64 ((p+2:Nat))),(9,cS us),(10,cS qs)] [] ⟨⟨_,rfl,.refl _⟩,⟨_,rfl,.refl _⟩,⟨_,rfl,.of_eq (kO hul.symm rfl)⟩,⟨_,rfl,.of_eq (kO hql.symm rfl)⟩,trivial⟩ trivial rfl rfl ?_;have hKn:j5 PP 210 [cS (us.take (p+2))] (ah (x%y*2^k)):=by rw[←hr];exact kc _ hltk (by rw[List.length_take];omega)
  have hKq:j5 PP 210 [cS qs] (ah (x/y)):=by rw[←hq];exact kc _ wW (by omega)
  have hrl:(aD (x%y*2^k)).length<=1099511627776:=by
   have h1:x%y*2^k<4294967296^((aD x).length+1):=by
    refine Nat.lt_of_le_of_lt (Nat.mul_le_mul_right _ (Nat.mod_le x y)) hXlt'
   have:=dX h1;omega
  have hsl:∀h,D.ib ((p+2:Nat):Int).toNat 1 ((bB us).take (((p+2:Nat):Int).toNat*1)) h=cS (us.take (p+2)):=fun h=>kO (by rw[Int.toNat_natCast,List.length_take];omega) (by rw[Int.toNat_natCast,Nat.mul_one,qS]);have hKs:=Ab (x%y*2^k) k hrl (by omega);rw[Nat.mul_div_cancel _ hpk0]at hKs;refine .cn bP (.mv rfl<|.call hKq ⟨rfl,trivial⟩<|.mv rfl<|.mv rfl<|.C9 rfl rfl az (by omega) (by omega)<|.call hKn ⟨congrArg some (hsl _),trivial⟩<|.mv rfl<|.call hKs ⟨rfl,rfl,trivial⟩<|.av rfl<|.av rfl<|.nil) rfl (by kernel_rfl) ?_;exact .yS rfl (.tmp rfl) (.tmp rfl) (.refl _) rfl
 |succ i=>
  have hvl':v.length=p+2:=hvl;have cO:i+(p+2)<us.length:=by have:=hI.im;rw[hul];omega
  have hW:mI us v i (p+2):=⟨by omega,hvl,hvo,hI.lu,cO,by rw[hvv];exact hbig',by rw[hvv];exact hI.less⟩;have hiq:i<qs.length:=by have:=hI.im;omega
  refine .ak (.mv rfl<|.cm rfl rfl (b:=true) (by simp[cP];try omega)<|.nil) rfl ?_;refine .cT rfl (.skip (Ok.on (.sq (.block ?_))));rw[show((i+1:Nat):Int)-1=i by omega];have g0:us[i+p]?=some (us.getD (i+p) 0):=getD_some (by omega);have g1:us[i+p+1]?=some (us.getD (i+p+1) 0):=getD_some (by omega);have g2:us[i+(p+2)]?=some (us.getD (i+p+2) 0):=getD_some (by omega);have gv1:v[p+1]?=some (v.getD (p+1) 0):=getD_some (by omega);have gv2:v[p]?=some (v.getD p 0):=getD_some (by omega);have l0:=bO hI.lu (i+p);have l1:=bO hI.lu (i+p+1);have l2:=bO hI.lu (i+p+2);have lv1:=bO hvo (p+1);have lv2:=bO hvo p;have hv1p:2147483648<=v.getD (p+1) 0:=hW.size.2;have hwdec:=@mI.dec us v i p;have hwbrk:=@mI.cy us v i p;have hwst:=@mI.stood us v i p;have hwge:=fun q h=>mI.ge (q:=q) hW h;generalize hu0:us.getD (i+p) 0=u0 at*;generalize hu1:us.getD (i+p+1) 0=u1 at*;generalize hu2:us.getD (i+p+2) 0=u2 at*;generalize hv1:v.getD (p+1) 0=v1 at*;generalize hv2:v.getD p 0=v2 at*;have hrl:(bB us).length=((aD x).length+1)*1:=by rw[bx,hul];omega
  have s1:mA .sub .i64 ((i+(p+2):Nat):Int) 1=some ((i+p+1:Nat):Int):=by rw[i2 (by omega)];congr 1;omega
  have s2:mA .sub .i64 ((i+(p+2):Nat):Int) 2=some ((i+p:Nat):Int):=by rw[show(2:Int)=((2:Nat):Int)from rfl,nr (by omega) (by omega)];congr 2
  have s3:mA .sub .i64 ((p+2:Nat):Int) 1=some ((p+1:Nat):Int):=by rw[i2 (by omega)];congr 1;omega
  have s4:mA .sub .i64 ((p+2:Nat):Int) 2=some ((p:Nat):Int):=by rw[show(2:Int)=((2:Nat):Int)from rfl,nr (by omega) (by omega)];congr 2
  refine .cn bP (.mv rfl<|.mv rfl<|.mv rfl<|.ar rfl rfl (db (n:=i) (d:=p+2) (by omega))<|.nG (n:=(aD x).length+1) (m':=1) rfl rfl rfl az hrl rfl rfl (by omega) (by omega)<|.tY rfl rfl aQ (d:=.int .u32 u2) (by rw[Int.toNat_natCast,Nat.mul_one];exact bj g2)<|.cv rfl bk (bJ (by omega))<|.sh rfl rfl (uW (n:=u2) l2)<|
   .mv rfl<|.mv rfl<|.mv rfl<|.ar rfl rfl (db (n:=i) (d:=p+2) (by omega))<|.ar rfl rfl s1<|.nG (n:=(aD x).length+1) (m':=1) rfl rfl rfl az hrl rfl rfl (by omega) (by omega)<|.tY rfl rfl aQ (d:=.int .u32 u1) (by rw[Int.toNat_natCast,Nat.mul_one];exact bj g1)<|.cv rfl bk (bJ (by omega))<|.ar rfl rfl (sA l2 l1)<|.av rfl<|.nil) rfl (by kernel_rfl) ?_
  have htwo:u2*4294967296+u1<18446744073709551616:=by omega
  refine .cn bP (.mv rfl<|.mv rfl<|.mv rfl<|.ar rfl rfl s3<|.nA rfl rfl az (by omega) (by omega) (bj (i:=p+1) (d:=v1) gv1)<|.iu rfl aQ<|.cv rfl bk (bJ (by omega))<|.ar rfl rfl (yE (n:=u2*4294967296+u1) (d:=v1) (by omega) htwo)<|
   .mv rfl<|.mv rfl<|.mv rfl<|.ar rfl rfl s3<|.nA rfl rfl az (by omega) (by omega) (bj (i:=p+1) (d:=v1) gv1)<|.iu rfl aQ<|.cv rfl bk (bJ (by omega))<|.ar rfl rfl (rQ (n:=u2*4294967296+u1) (d:=v1) (by omega))<|.av rfl<|.av rfl<|.nil) rfl (by kernel_rfl) ?_
  have hVpos:0<val v:=by have:=hW.less;omega
  have hge0:val (us.drop i)/val v<=(u2*4294967296+u1)/v1:=tX (hwge _ (Nat.div_mul_le_self _ _)) (by omega);have hst0:(u2*4294967296+u1)/v1*v1+(u2*4294967296+u1)%v1=u2*4294967296+u1:=by rw[Nat.mul_comm];exact Nat.div_add_mod _ _
  have hr0:(u2*4294967296+u1)%v1<4294967296:=Nat.lt_trans (Nat.mod_lt _ (by omega)) lv1;generalize (u2*4294967296+u1)/v1=gu0 at hge0 hst0|-;generalize (u2*4294967296+u1)%v1=re0 at hr0 hst0|-;refine .pz (ι:={g:Nat//Stood us v i p g}) (fun g=>[(6,.int .i64 (k:Nat)),(7,cS v),(8,.int .i64 ((p+2:Nat))),(9,.own 200),(10,.own 63),(11,.int .i64 (i:Nat)),(13,.int .u64 (g.1:Nat))]) (fun _=>[(200,.row 1 230 (bB us) (aR _)),(63,.row 1 230 (bB qs) (aR _))]) ?_ ?_
  ·refine .block (.loop (ι:={s:Nat×Nat//val (us.drop i)/val v<=s.1/\s.1*v1+s.2=u2*4294967296+u1/\s.2<4294967296})
    (fun s=>[(6,.int .i64 (k:Nat)),(7,cS v),(8,.int .i64 ((p+2:Nat))),(9,.own 200),(10,.own 63),(11,.int .i64 (i:Nat)),(13,.int .u64 (s.1.1:Nat)),(14,.int .u64 (s.1.2:Nat))]) (fun _=>[(200,.row 1 230 (bB us) (aR _)),(63,.row 1 230 (bB qs) (aR _))]) (fun s=>s.1.1)
    ⟨(gu0,re0),hge0,hst0,hr0⟩ (cM rfl) (hP rfl) rfl rfl ?_)
   rintro⟨⟨g,re⟩,hge,hgr,hre⟩;simp only at hge hgr hre;show Ok PP _ [(6,.int .i64 (k:Nat)),(7,cS v),(8,.int .i64 ((p+2:Nat))),(9,.own 200),(10,.own 63),(11,.int .i64 (i:Nat)),(13,.int .u64 (g:Nat)),(14,.int .u64 (re:Nat))] [(200,.row 1 230 (bB us) (aR _)),(63,.row 1 230 (bB qs) (aR _))] _ _;have hgm:g<=g*v1:=Nat.le_mul_of_pos_right _ (by omega);have hg64:g<18446744073709551616:=by omega
   refine .pz (ι:={_u:Unit//4294967296<=g\/re*4294967296+u0<g*v2}) (fun _=>[(6,.int .i64 (k:Nat)),(7,cS v),(8,.int .i64 ((p+2:Nat))),(9,.own 200),(10,.own 63),(11,.int .i64 (i:Nat)),(13,.int .u64 (g:Nat)),(14,.int .u64 (re:Nat))]) (fun _=>[(200,.row 1 230 (bB us) (aR _)),(63,.row 1 230 (bB qs) (aR _))]) ?_ ?_
   ·by_cases hgB:4294967296<=g
    ·refine .cn bP (.mv rfl<|.cm rfl rfl (Ao (by omega))<|.mv rfl<|.qO rfl rfl rfl rfl<|.qO rfl rfl rfl rfl<|.qO rfl rfl rfl rfl<|.qO rfl rfl rfl rfl<|.qO rfl rfl rfl rfl<|.qO rfl rfl rfl rfl<|.qO rfl rfl rfl rfl<|.qO rfl rfl rfl rfl<|.qO rfl rfl rfl rfl<|.qO rfl rfl rfl rfl<|.qO rfl rfl rfl rfl<|.qO rfl rfl rfl rfl<|.qO rfl rfl rfl rfl<|.qO rfl rfl rfl rfl<|.qO rfl rfl rfl rfl<|.qO rfl rfl rfl rfl<|.qO rfl rfl rfl rfl<|.qO rfl rfl rfl rfl<|.qO rfl rfl rfl rfl<|.qO rfl rfl rfl rfl<|.an rfl rfl rfl<|.nil) rfl (by kernel_rfl) ?_;exact .cT rfl (.skip fun _ _ hs=>hs.to ⟨(),.inl hgB⟩ (cM rfl) (hP rfl) rfl rfl)
    ·have hprod:g*v2<18446744073709551616:=by
      have:g*v2<=4294967295*4294967295:=Nat.mul_le_mul (by omega) (by omega);omega
     have hng:¬(false=true):=by decide
     by_cases ht:re*4294967296+u0<g*v2
     ·refine .cn bP (.mv rfl<|.cm rfl rfl (yP (by omega))<|.mv rfl<|.jN rfl rfl rfl hng<|.mv rfl<|.jN rfl rfl rfl hng<|.mv rfl<|.jN rfl rfl rfl hng<|.mv rfl<|.jN rfl rfl rfl hng<|.ar rfl rfl s4<|.jN rfl rfl rfl hng<|.nA rfl rfl az (by omega) (by omega) (bj (i:=p) (d:=v2) gv2)<|.jN rfl rfl rfl hng<|.iu rfl aQ<|.jN rfl rfl rfl hng<|.cv rfl bk (bJ (by omega))<|.jN rfl rfl rfl hng<|.ar rfl rfl (o0 (n:=g) (d:=v2) hprod)<|
       .jN rfl rfl rfl hng<|.mv rfl<|.jN rfl rfl rfl hng<|.sh rfl rfl (uW (n:=re) hre)<|.jN rfl rfl rfl hng<|.mv rfl<|.jN rfl rfl rfl hng<|.mv rfl<|.jN rfl rfl rfl hng<|.mv rfl<|.jN rfl rfl rfl hng<|.ar rfl rfl (db (n:=i) (d:=p+2) (by omega))<|.jN rfl rfl rfl hng<|.ar rfl rfl s2<|.jN rfl rfl rfl hng<|.nG (n:=(aD x).length+1) (m':=1) rfl rfl rfl az hrl rfl rfl (by omega) (by omega)<|.jN rfl rfl rfl hng<|.tY rfl rfl aQ (d:=.int .u32 u0) (by rw[Int.toNat_natCast,Nat.mul_one];exact bj g0)<|.jN rfl rfl rfl hng<|.cv rfl bk (bJ (by omega))<|.jN rfl rfl rfl hng<|.ar rfl rfl (sA hre l0)<|.jN rfl rfl rfl hng<|.cm rfl rfl (AJ (by omega))<|.al rfl hng rfl<|.nil) rfl (by kernel_rfl) ?_
      exact .cT rfl (.skip fun _ _ hs=>hs.to ⟨(),.inr ht⟩ (cM rfl) (hP rfl) rfl rfl)
     ·refine .cn bP (.mv rfl<|.cm rfl rfl (yP (by omega))<|.mv rfl<|.jN rfl rfl rfl hng<|.mv rfl<|.jN rfl rfl rfl hng<|.mv rfl<|.jN rfl rfl rfl hng<|.mv rfl<|.jN rfl rfl rfl hng<|.ar rfl rfl s4<|.jN rfl rfl rfl hng<|.nA rfl rfl az (by omega) (by omega) (bj (i:=p) (d:=v2) gv2)<|.jN rfl rfl rfl hng<|.iu rfl aQ<|.jN rfl rfl rfl hng<|.cv rfl bk (bJ (by omega))<|.jN rfl rfl rfl hng<|.ar rfl rfl (o0 (n:=g) (d:=v2) hprod)<|
       .jN rfl rfl rfl hng<|.mv rfl<|.jN rfl rfl rfl hng<|.sh rfl rfl (uW (n:=re) hre)<|.jN rfl rfl rfl hng<|.mv rfl<|.jN rfl rfl rfl hng<|.mv rfl<|.jN rfl rfl rfl hng<|.mv rfl<|.jN rfl rfl rfl hng<|.ar rfl rfl (db (n:=i) (d:=p+2) (by omega))<|.jN rfl rfl rfl hng<|.ar rfl rfl s2<|.jN rfl rfl rfl hng<|.nG (n:=(aD x).length+1) (m':=1) rfl rfl rfl az hrl rfl rfl (by omega) (by omega)<|.jN rfl rfl rfl hng<|.tY rfl rfl aQ (d:=.int .u32 u0) (by rw[Int.toNat_natCast,Nat.mul_one];exact bj g0)<|.jN rfl rfl rfl hng<|.cv rfl bk (bJ (by omega))<|.jN rfl rfl rfl hng<|.ar rfl rfl (sA hre l0)<|.jN rfl rfl rfl hng<|.cm rfl rfl (AQ (by omega))<|.al rfl hng rfl<|.nil) rfl (by kernel_rfl) ?_
      have hS:Stood us v i p g:=hwst hW hge hgr (by omega) (by omega);exact .cF rfl (.exit fun _ _ hs=>hs.to ⟨g,hS⟩ (cM rfl) (hP rfl) rfl rfl)
   ·rintro⟨_,ht⟩;have hlt:val (us.drop i)/val v<g:=hwdec hW hge hgr ht;have hgpos:0<g:=Nat.lt_of_le_of_lt (Nat.zero_le _) hlt;have hge2:val (us.drop i)/val v<=g-1:=Nat.le_sub_one_of_lt hlt;have hnx:=t_ hgr hgpos;show Ok PP _ [(6,.int .i64 (k:Nat)),(7,cS v),(8,.int .i64 ((p+2:Nat))),(9,.own 200),(10,.own 63),(11,.int .i64 (i:Nat)),(13,.int .u64 (g:Nat)),(14,.int .u64 (re:Nat))] [(200,.row 1 230 (bB us) (aR _)),(63,.row 1 230 (bB qs) (aR _))] _ _;have s5:mA .sub .u64 (g:Int) 1=some ((g-1:Nat):Int):=congrArg some (wrap_u64 (by omega) (by omega));refine .block ?_;refine .ak (.mv rfl<|.ar rfl rfl s5<|.av rfl<|.nil) rfl ?_;refine .ak (.mv rfl<|.mv rfl<|.mv rfl<|.ar rfl rfl s3<|.nA rfl rfl az (by omega) (by omega) (bj (i:=p+1) (d:=v1) gv1)<|.iu rfl aQ<|.cv rfl bk (bJ (by omega))<|.ar rfl rfl (o2 (n:=re) (d:=v1) (by omega))<|.av rfl<|.nil) rfl ?_;by_cases hbk:4294967296<=re+v1
    ·refine .ak (.mv rfl<|.cm rfl rfl (Ao (by omega))<|.nil) rfl ?_;have hS:Stood us v i p (g-1):=hwbrk hW hge2 hnx hbk;exact .cT rfl (.exit fun _ _ hs=>hs.to ⟨g-1,hS⟩ (cM rfl) (hP rfl) rfl rfl)
    ·refine .ak (.mv rfl<|.cm rfl rfl (yP (by omega))<|.nil) rfl ?_;exact .cF rfl (.skip fun _ _ hs=>hs.round (m:=g) ⟨(g-1,re+v1),hge2,hnx,by omega⟩ (by simp only;omega) (cM rfl) (hP rfl) rfl rfl)
  ·rintro⟨g,hst⟩;show Ok PP _ [(6,.int .i64 (k:Nat)),(7,cS v),(8,.int .i64 ((p+2:Nat))),(9,.own 200),(10,.own 63),(11,.int .i64 (i:Nat)),(13,.int .u64 (g:Nat))] [(200,.row 1 230 (bB us) (aR _)),(63,.row 1 230 (bB qs) (aR _))] _ _;have hgl:g<4294967296:=hst.lt;have hilv:i+v.length<us.length:=by rw[hvl'];exact cO
   have humax:us.length<=2199023255552:=by rw[hul];omega
   have hKt:=AB us v g i hI.lu hvo hgl hilv humax;have htl:=rf us v g i;have htk:=tV (us:=us) (v:=v) (t:=g) (i:=i) (by omega);have hto:=uF (v:=v) (t:=g) (i:=i) hI.lu;refine .pz (ι:={s:List Nat×Nat//s.2=val (us.drop i)/V/\cE s.1/\s.1.length=us.length/\val (s.1.drop i)=val (us.drop i)%V/\s.1.take i=us.take i}) (fun s=>[(6,.int .i64 (k:Nat)),(7,cS v),(8,.int .i64 ((p+2:Nat))),(9,.own 200),(10,.own 63),(11,.int .i64 (i:Nat)),(13,.int .u64 (s.1.2:Nat))]) (fun s=>[(200,.row 1 230 (bB s.1.1) (aR _)),(63,.row 1 230 (bB qs) (aR _))]) ?_ ?_
   ·rcases mI.step hW hst with⟨b0,hq,hmod⟩|⟨b1,hq,hmod⟩
    ·rw[show(fY g v 0 0 (us.drop i) !=0)=false from by rw[b0];rfl]at hKt;rw[hvv]at hq hmod;refine .ak (.mv rfl<|.mv rfl<|.mv rfl<|.mv rfl<|.xF (hl:=aR us) (hl':=aR (taken us v g i)) hKt rfl ⟨rfl,rfl,rfl,trivial⟩ rfl<|.nil) rfl ?_;exact .cF rfl (.skip fun _ _ hs=>hs.to ⟨(taken us v g i,g),hq,hto,htl,hmod,htk⟩ (cM rfl) (hP rfl) rfl rfl)
    ·rw[show(fY g v 0 0 (us.drop i) !=0)=true from by rw[b1];rfl]at hKt;rw[hvv]at hq hmod;have hgpos:0<g:=by rw[hq];exact Nat.succ_pos _
     have s5:mA .sub .u64 (g:Int) 1=some ((g-1:Nat):Int):=congrArg some (wrap_u64 (by omega) (by omega));have hKg:=AU (taken us v g i) v i hto hvo (by rw[htl];exact hilv) (by rw[htl];exact humax);have hgk:=v_ (taken us v g i) v i;have hgt:=uN (us:=taken us v g i) (v:=v) (i:=i) (by omega);have hgo:=uv (v:=v) (i:=i) hto;refine .ak (.mv rfl<|.mv rfl<|.mv rfl<|.mv rfl<|.xF (hl:=aR us) (hl':=aR (taken us v g i)) hKt rfl ⟨rfl,rfl,rfl,trivial⟩ rfl<|.nil) rfl ?_;refine .cT rfl ?_;refine .ak (.mv rfl<|.ar rfl rfl s5<|.av rfl<|.nil) rfl ?_;refine .region (.mv rfl<|.mv rfl<|.mv rfl<|.xF (hl:=aR (taken us v g i)) (hl':=aR (given (taken us v g i) v i)) hKg rfl ⟨rfl,rfl,trivial⟩ rfl<|.nil) rfl fun _ _ hs=>?_;exact hs.to ⟨(given (taken us v g i) v i,g-1),by simp only;rw[hq];rfl,hgo,by simp only;rw[hgk,htl],hmod,by simp only;rw[hgt,htk]⟩ (cM rfl) (hP rfl) rfl rfl
   ·rintro⟨⟨us',q⟩,hq,hlu',hlen',hmod,htk'⟩;simp only at hq hlu' hlen' hmod htk';show Ok PP _ [(6,.int .i64 (k:Nat)),(7,cS v),(8,.int .i64 ((p+2:Nat))),(9,.own 200),(10,.own 63),(11,.int .i64 (i:Nat)),(13,.int .u64 (q:Nat))] [(200,.row 1 230 (bB us') (aR _)),(63,.row 1 230 (bB qs) (aR _))] _ _;have hqB:q<4294967296:=by rw[hq,←hvv];exact hW.Cu
    have hVp:0<V:=by rw[←hvv];exact Nat.lt_of_le_of_lt (Nat.zero_le _) hW.less
    have hD:=hI.step hlu' hlen' hmod htk' hq hqB hVp (by omega);have hqrl:(bB qs).length=m*1:=by rw[bx,hql];omega
    have him:i<m:=by rw[←hql];exact hiq
    have hmx:m<9223372036854775808:=by omega
    have hix:i<9223372036854775808:=by omega
    refine .region (.mv rfl<|.mv rfl<|.mv rfl<|.cv rfl dw (eY hqB)<|.nG (n:=m) (m':=1) rfl rfl rfl az hqrl rfl rfl (by omega) (by omega)<|.vC rfl rfl rfl aQ rfl rfl (by rw[hqrl];omega)<|.nil) rfl fun _ _ hs=>?_;refine Ok.on ?_ _ _ hs;refine .region (.mv rfl<|.ar rfl rfl (i2 hix)<|.av rfl<|.nil) rfl fun _ _ hs=>?_;exact hs.round (m:=i+1) ⟨(us',qs.set i q,i),hD⟩ (by simp) (cM rfl) ⟨⟨_,rfl,.refl _⟩,⟨_,rfl,.of_eq (de (dN ..))⟩,trivial⟩ rfl rfl
end Go.Am
namespace Go.Am
open Go.RowKit
def sm(x:Nat):Prop:=bn x<=4398046511104
instance (x:Nat):Decidable (sm x):=inferInstanceAs (Decidable (bn x<=4398046511104))
theorem jK(x:Nat):(aD x).length<=bn x/32+1:=by
 refine dX ?_;have h1:=lV x;have h2:(2:Nat)^bn x<=2^(32*(bn x/32+1)):=Nat.pow_le_pow_right (by omega) (by omega);rw[Nat.pow_mul]at h2;exact Nat.lt_of_lt_of_le h1 h2
theorem zt{x:Nat}(h:sm x):(aD x).length<=549755813888:=by
 have:=jK x;unfold sm at h;omega
theorem fv{x:Nat}(h:sm x):(aD x).length<=1099511627776:=by have:=zt h;omega
def jJ(n:Int):Option Nat:=bC (0<=n/\n<18446744073709551616) (some n.toNat)
theorem oF{a:Int}{r:Nat}(h:jJ a=some r):bb PP 145 [] [D.int .u64 a] [] (ah r):=by
 obtain⟨⟨h0,h1⟩,h⟩:=aG h;injection h with h;subst h;have:=oR a.toNat (by omega);rw[Int.toNat_of_nonneg h0]at this;exact this.gen
def qT(a b:Nat):Option Nat:=bC (sm a/\sm b) (some (a+b))
theorem vn{a b r:Nat}(h:qT a b=some r):bb PP 212 [] [ah a,ah b] [] (ah r):=by
 obtain⟨⟨h0,h1⟩,h⟩:=aG h;injection h with h;subst h;exact(Ag a b (fv h0) (fv h1)).gen
def tI(a b:Nat):Option Nat:=bC (b<=a/\sm a) (some (a-b))
theorem xr{a b r:Nat}(h:tI a b=some r):bb PP 215 [] [ah a,ah b] [] (ah r):=by
 obtain⟨⟨h0,h1⟩,h⟩:=aG h;injection h with h;subst h;exact(Bp a b h0 (fv h1)).gen
def lz(a b:Nat):Option Nat:=bC (sm a/\sm b) (some (a*b))
theorem mb{a b r:Nat}(h:lz a b=some r):bb PP 150 [] [ah a,ah b] [] (ah r):=by
 obtain⟨⟨h0,h1⟩,h⟩:=aG h;injection h with h;subst h;exact(z8 a b (fv h0) (fv h1)).gen
def om(a b:Nat):Option Int:=bC (sm a/\sm b) (some (fK a b))
theorem pc{a b:Nat}{r:Int}(h:om a b=some r):bb PP 224 [] [ah a,ah b] [] (D.int .i64 r):=by
 obtain⟨⟨h0,h1⟩,h⟩:=aG h;injection h with h;subst h;exact(yF a b (fv h0) (fv h1)).gen
def qA(a:Nat):Option Int:=bC (sm a) (some (bn a:Int))
theorem ug{a:Nat}{r:Int}(h:qA a=some r):bb PP 186 [] [ah a] [] (D.int .i64 r):=by
 obtain⟨h0,h⟩:=aG h;injection h with h;subst h;exact(AE a (fv h0)).gen
def jz(a:Nat):Option Int:=bC ((aD a).length<=2) (some (a:Int))
theorem pa{a:Nat}{r:Int}(h:jz a=some r):bb PP 185 [] [ah a] [] (D.int .u64 r):=by
 obtain⟨h0,h⟩:=aG h;injection h with h;subst h;exact(yV a h0).gen
def qV(a:Nat)(k:Int):Option Nat:=bC (sm a/\0<=k/\k<35184372088832) (some (a*2^k.toNat))
theorem w_{a:Nat}{k:Int}{r:Nat}(h:qV a k=some r):bb PP 166 [] [ah a,D.int .i64 k] [] (ah r):=by
 obtain⟨⟨h0,h1,h2⟩,h⟩:=aG h;injection h with h;subst h;have:=xB a k.toNat (fv h0) (by omega);rw[Int.toNat_of_nonneg h1]at this;exact this.gen
def ji(a b:Nat):Option (Nat×Nat):=bC (b≠0/\sm a/\sm b) (some (a/b,a%b))
theorem ow{a b q r:Nat}(h:ji a b=some (q,r)):bb PP 167 [] [ah a,ah b] [] (D.fA [ah q,ah r]):=by
 obtain⟨⟨h0,h1,h2⟩,h⟩:=aG h;cases h;have e1:(aD a).length<=549755813888:=by have:=jK a;unfold sm at h1;omega
 have e2:(aD b).length<=549755813888:=by have:=jK b;unfold sm at h2;omega
 exact(BS a b h0 e1 e2).gen
def rG(a:Nat)(d:Int):Option (Nat×Nat):=bC (sm a/\0<d/\d<4294967296) (some (a/d.toNat,a%d.toNat))
theorem y2{a q r:Nat}{d:Int}(h:rG a d=some (q,r)):bb PP 225 [] [ah a,D.int .u32 d] [] (D.fA [ah q,ah r]):=by
 obtain⟨⟨h0,h1,h2⟩,h⟩:=aG h;cases h;have:=vj a d.toNat (by omega) (by omega) (fv h0);rw[Int.toNat_of_nonneg (by omega)]at this;exact this.gen
def vG(a:Nat)(k:Int):Option Nat:=bC (sm a/\0<=k/\k<35184372088832) (some (a/2^k.toNat))
theorem Bq{a:Nat}{k:Int}{r:Nat}(h:vG a k=some r):bb PP 229 [] [ah a,D.int .i64 k] [] (ah r):=by
 obtain⟨⟨h0,h1,h2⟩,h⟩:=aG h;injection h with h;subst h;have:=Ab a k.toNat (fv h0) (by omega);rw[Int.toNat_of_nonneg h1]at this;exact this.gen
instance (l:List UInt8):Decidable (qH l):=inferInstanceAs (Decidable (∀b∈l,_))
def kS(s:List UInt8):Option Nat:=bC (s.length<=1000000/\qH s) (some (ja s))
theorem uG{s:List UInt8}{r:Nat}(h:kS s=some r):bb PP 148 [] [b_ s] [] (ah r):=by
 obtain⟨⟨h0,h1⟩,h⟩:=aG h;injection h with h;subst h;exact(vU ⟨s.toArray⟩ h0 h1).gen
theorem Bz{k:IntKind}{n m:Int}(h:m≠0):mA .quo k n m=some (k.wrap (n.tdiv m)):=if_neg h
theorem Bb{k:IntKind}{n m:Int}(h:m≠0):mA .rem k n m=some (n.tmod m):=if_neg h
section
variable {P:Program} {os:List Oper} {c:Ctx} {T T':List (Nat×D)} {H H':List (Nat×Hp)} {sps:List Spec}
variable {ops:Array Oper} {dst:Option Nat} {ty:TypeId} {pos:String} {aft:Array Edge}
theorem aj.qF{t:TypeId}{x:Operand}{a:Nat}(hx:ev T x=some (ah a))(ht:isSlice P t=true)(hr:aj P ops c os (bf T dst (.int .i64 (aD a).length)) H sps T' H'):
  aj P ops c (⟨dst,.call {callee:=.builtin .len,args:=#[x],argTypes:=#[t]},ty,pos,aft,none⟩::os) T H (ps [(x,ah a)] (.int .i64 (aD a).length)::sps) T' H':=.ln (hl:=aR _) hx ht hr
theorem aj.CC{t:TypeId}{x y:Operand}{a d:Nat}{k:IntKind}{z:Int}(hx:ev T x=some (ah a))(hy:ev T y=some (.int k z))(ht:sle P t=some 1)(h:ix (aD a) z=some d)
  (hr:aj P ops c os (bf T dst (.ptr [.int .u32 d] rfl)) H sps T' H'):
  aj P ops c (⟨dst,.indexAddr t x y,ty,pos,aft,none⟩::os) T H (ps [(x,ah a),(y,.int k z)] (.ptr [.int .u32 d] rfl)::sps) T' H':=
 .nA (hl:=aR _) hx hy ht (ag h).1 (by have:=bE h;have:=(ag h).1;omega) (bj (ag h).2) hr
def B0(T:List (Nat×D)):List (Nat×Operand×D×List D)->Prop
 |[]=>True
 |(_,x,d,_)::q=>ev T x=some d/\B0 T q
theorem sK{T:List (Nat×D)}:∀{q:List (Nat×Operand×D×List D)},B0 T q->∀x∈qs q,ev T x.1=some x.2
 |[],_,x,hx=>by cases hx
 |(o,y,d,m)::q,h,x,hx=>by
  simp only[qs,List.map_cons,List.mem_cons]at hx;rcases hx with rfl|hx
  ·exact h.1
  ·exact sK h.2 x hx
theorem aj.jb{t:TypeId}{parts:List (Nat×Operand)}{z:List D}{pl:List (Nat×Nat)}(l:List D)(q:List (Nat×Operand×D×List D))(hz:wX P t=some z)(hp:Aj P t=some pl)(hq:i4 pl z.length parts q)(he:B0 T q)(hle:oz (over z q) l)
  (hr:aj P ops c os (bf T dst (.agg l)) H sps T' H'):
  aj P ops c (⟨dst,.build t parts.toArray,ty,pos,aft,none⟩::os) T H (ps (qs q) (.agg l)::sps) T' H':=.Db q hz hp hq (sK he) hle hr
theorem aj.uV{α:Type}{e:aK α}{t te:TypeId}{parts:List (Nat×Operand)}{m bt n:Nat}{z:List D}(xs:List α)(q:List (Nat×Operand×D×List D))(hm:mj P t=some (te,m,bt,z))(hmn:m=e.n)(hs:Nat.ble (n*m) 16777216=true)(hn0:Nat.blt 0 n=true)(hq:i4 (yU m 0 n) (n*m) parts q)(he:B0 T q)
  (hle:over (List.replicate n z).flatten q=flat e xs)(hln:xs.length=n)
  (hr:aj P ops c os (bf T dst (br e xs)) H sps T' H'):
  aj P ops c (⟨dst,.buildSlice t n parts.toArray,ty,pos,aft,none⟩::os) T H (ps (qs q) (br e xs)::sps) T' H':=.Dh xs q hm hmn hs hn0 hq (sK he) hle hln hr
end
end Go.Am
namespace Go.Am
open Go.RowKit
set_option maxRecDepth 100000
noncomputable section
def fB(v18:Int)(v19:Int):Option (St (Int×Int) Int):=(if(v19 !=0)=true then bC ((v19:Int)≠0) (some (St.next (v19,(Int.tmod v18 v19))))else some (St.done v18))
def cL(v3:Nat)(v4:Nat):Option (St (Nat×Nat) (Ex Nat Nat)):=(if(decide (((aD v4).length:Int)>0))=true then((if(decide (((aD v3).length:Int)<=2))=true then(if(decide (((aD v4).length:Int)<=2))=true then(jz v3).bind fun v14=>(jz v4).bind fun v16=>(Loop (fun(s:Int×Int)=>fB s.1 s.2) (v14,v16)).bind fun v26=>(jJ v26).bind fun v27=>some (Ex.ret v27)else some (Ex.cy ()))else some (Ex.cy ()))).bind fun o10=>(match o10 with|Ex.cy ()=>(ji v3 v4).bind fun(v29,v30)=>some (St.next (v4,v30))|Ex.ret r32=>some (St.done (Ex.ret r32)))else some (St.done (Ex.cy v3)))
def lN(a1:Nat)(a2:Nat):Option Nat:=(Loop (fun(s:Nat×Nat)=>cL s.1 s.2) (a1,a2)).bind fun o5=>(match o5 with|Ex.cy v33=>some v33|Ex.ret r34=>some r34)
theorem wv{a1:Nat}{a2:Nat}{r35:Nat}(h:lN a1 a2=some r35):bb PP 214 [] [ah a1,ah a2] [] (ah r35):=by
 unfold lN at h;refine .of Go.Proofs.Tryz.func214 rfl (by kernel_rfl) rfl rfl rfl rfl rfl rfl (fun A w0 L b=>?_);show Ok PP _ [(0,ah a1),(1,ah a2)] [] _ _;refine .ak (.av rfl<|.nil) rfl ?_;obtain⟨o5,hl6,h⟩:=bind_some h;refine .du (fun i=>o5=Ex.cy i) (fun(i:Nat)=>[(0,ah i)]) (fun(i:Nat)=>[]) ?_ ?_
 ·have ho1:=h;refine .block (.cY (fun(s:Nat×Nat)=>[(0,ah s.1),(1,ah s.2)]) (fun(s:Nat×Nat)=>[]) hl6 (.of rfl) trivial rfl rfl ?_);rintro⟨v3,v4⟩ st7 hb8;have h:cL v3 v4=some st7:=hb8;unfold cL at h
  try dsimp only
  refine .sq ?_;refine .ak (.mv rfl<|.qF rfl au<|.cm rfl rfl rfl<|.nil) rfl ?_;by_cases c9:(decide (((aD v4).length:Int)>0))=true
  ·replace h:=ab c9 h;refine .bT rfl c9 ?_;refine .skip (Ok.on ?_);refine .block ?_;obtain⟨o10,hp11,h⟩:=bind_some h;refine .du (fun i=>o10=Ex.cy i) (fun(i:Unit)=>[(0,ah v3),(1,ah v4)]) (fun(i:Unit)=>[]) ?_ ?_
   ·have ho2:=h;have h:=hp11;by_cases c12:(decide (((aD v3).length:Int)<=2))=true
    ·replace h:=ab c12 h;refine .ak (.mv rfl<|.qF rfl au<|.cm rfl rfl rfl<|.mv rfl<|.gy c12<|.mv rfl<|.gy c12<|.qF rfl au<|.gy c12<|.cm rfl rfl rfl<|.an rfl c12 rfl<|.nil) rfl ?_;by_cases c13:(decide (((aD v4).length:Int)<=2))=true
     ·replace h:=ab c13 h;refine .bT rfl c13 ?_;obtain⟨v14,e15,h⟩:=bind_some h;obtain⟨v16,e17,h⟩:=bind_some h;refine .ak (.mv rfl<|.af (pa e15) ⟨rfl,trivial⟩ trivial trivial<|.mv rfl<|.af (pa e17) ⟨rfl,trivial⟩ trivial trivial<|.av rfl<|.av rfl<|.nil) rfl ?_;obtain⟨v26,hl21,h⟩:=bind_some h;refine .du (fun i=>v26=i) (fun(i:Int)=>[(5,D.int .u64 i)]) (fun(i:Int)=>[]) ?_ ?_
      ·have ho3:=h;refine .block (.cY (fun(s:Int×Int)=>[(5,D.int .u64 s.1),(6,D.int .u64 s.2)]) (fun(s:Int×Int)=>[]) hl21 (.of rfl) trivial rfl rfl ?_);rintro⟨v18,v19⟩ st22 hb23;have h:fB v18 v19=some st22:=hb23;unfold fB at h
       try dsimp only
       refine .sq ?_;refine .ak (.mv rfl<|.cm rfl rfl rfl<|.nil) rfl ?_;by_cases c24:(v19 !=0)=true
       ·replace h:=ab c24 h;refine .bT rfl c24 ?_;refine .skip (Ok.on ?_);refine .block ?_;obtain⟨k25,h⟩:=aG h;refine .cJ bP (.mv rfl<|.mv rfl<|.mv rfl<|.ar rfl rfl (Bb k25)<|.av rfl<|.av rfl<|.nil) rfl (by kernel_rfl) (fun _ _ hs=>⟨(v19,(Int.tmod v18 v19)),(sj h),hs.sub (.of rfl) trivial rfl rfl⟩)
       ·replace h:=ae c24 h;refine .cC rfl c24 ?_;refine .exit (fun _ _ hs=>⟨_,(sj h),fun e=>⟨v18,e.symm,hs.sub (.of rfl) trivial rfl rfl⟩⟩)
      ·rintro _ rfl
       try dsimp only
       obtain⟨v27,e28,h⟩:=bind_some h;refine .ak (.mv rfl<|.af (oF e28) ⟨rfl,trivial⟩ trivial trivial<|.av rfl<|.nil) rfl ?_;cases h;have h:=ho2;refine .aF (Hi:=[]) (Ho:=[]) (b:=b) (fn:=Go.Proofs.Tryz.f214) (d:=ah v27) (fun _ _ hb=>by exact⟨_,(sj h),fun e=>by subst e;have h:=ho1;cases h;exact hb⟩) rfl (.t1 (.tmp rfl)) (.refl _) trivial trivial
     ·replace h:=ae c13 h;refine .cC rfl c13 ?_;refine .skip (fun _ _ hs=>⟨(),(sj h),hs.sub (.of rfl) trivial rfl rfl⟩)
    ·replace h:=ae c12 h;refine .ak (.mv rfl<|.qF rfl au<|.cm rfl rfl rfl<|.mv rfl<|.gm c12<|.gm c12<|.gm c12<|.al rfl c12 rfl<|.nil) rfl ?_;refine .cC rfl (by decide) ?_;refine .skip (fun _ _ hs=>⟨(),(sj h),hs.sub (.of rfl) trivial rfl rfl⟩)
   ·rintro⟨⟩ rfl
    try dsimp only
    obtain⟨⟨v29,v30⟩,e31,h⟩:=bind_some h;refine .ak (.mv rfl<|.mv rfl<|.af (ow e31) ⟨rfl,rfl,trivial⟩ trivial trivial<|.mv rfl<|.ext rfl rfl<|.ext rfl rfl<|.av rfl<|.av rfl<|.nil) rfl ?_;refine .region (.mv rfl<|.mv rfl<|.av rfl<|.av rfl<|.nil) rfl (fun _ _ hs=>⟨(v4,v30),(sj h),hs.sub (.of rfl) trivial rfl rfl⟩)
  ·replace h:=ae c9 h;refine .cC rfl c9 ?_;refine .exit (fun _ _ hs=>⟨_,(sj h),fun e=>⟨v3,e.symm,hs.sub (.of rfl) trivial rfl rfl⟩⟩)
 ·rintro v33 rfl
  try dsimp only
  refine .ak (.mv rfl<|.av rfl<|.nil) rfl ?_;cases h;refine .aF (fun _ _ hb=>hb) rfl (.t1 (.tmp rfl)) (.refl _) trivial trivial
def fH(a1:Nat)(v9:Nat):Option (St Nat Nat):=(ji a1 v9).bind fun(v14,v15)=>(qT v9 v14).bind fun v17=>(vG v17 1).bind fun v19=>(om v19 v9).bind fun v21=>(if(decide (v21>=0))=true then some (St.done v9)else some (St.next v19))
def kb(a1:Nat):Option Nat:=(if(((aD a1).length:Int)==0)=true then some 0 else(jJ 1).bind fun v3=>(qA a1).bind fun v5=>(qV v3 (IntKind.i64.wrap (Int.tdiv (IntKind.i64.wrap (v5+1)) 2))).bind fun v7=>(Loop (fun(s:Nat)=>fH a1 s) v7).bind fun r24=>some r24)
theorem uj{a1:Nat}{r25:Nat}(h:kb a1=some r25):bb PP 170 [] [ah a1] [] (ah r25):=by
 unfold kb at h;refine .of Go.Proofs.Tryz.func170 rfl (by kernel_rfl) rfl rfl rfl rfl rfl rfl (fun A w0 L b=>?_);show Ok PP _ [(0,ah a1)] [] _ _;refine .ak (.av rfl<|.nil) rfl ?_;refine .sq ?_;refine .ak (.mv rfl<|.qF rfl au<|.cm rfl rfl rfl<|.nil) rfl ?_;by_cases c2:(((aD a1).length:Int)==0)=true
 ·replace h:=ab c2 h;refine .bT rfl c2 ?_;refine .ak (.av rfl<|.nil) rfl ?_;cases h;refine .aF (fun _ _ hb=>hb) rfl (.t1 (.tmp rfl)) (aM) trivial trivial
 ·replace h:=ae c2 h;refine .cC rfl c2 ?_;refine .skip (Ok.on ?_);obtain⟨v3,e4,h⟩:=bind_some h;obtain⟨v5,e6,h⟩:=bind_some h;obtain⟨v7,e8,h⟩:=bind_some h;refine .ak (.af (oF e4) ⟨rfl,trivial⟩ trivial trivial<|.mv rfl<|.af (ug e6) ⟨rfl,trivial⟩ trivial trivial<|.ar rfl rfl rfl<|.ar rfl rfl (Bz (by decide))<|.af (w_ e8) ⟨rfl,rfl,trivial⟩ trivial trivial<|.av rfl<|.nil) rfl ?_;obtain⟨o10,hl11,h⟩:=bind_some h;have ho1:=h;refine .block (.cY (fun(s:Nat)=>[(0,ah a1),(3,ah s)]) (fun(s:Nat)=>[]) hl11 (.of rfl) trivial rfl rfl ?_);rintro v9 st12 hb13;have h:fH a1 v9=some st12:=hb13;unfold fH at h
  try dsimp only
  refine .block ?_;obtain⟨⟨v14,v15⟩,e16,h⟩:=bind_some h;refine .ak (.mv rfl<|.mv rfl<|.af (ow e16) ⟨rfl,rfl,trivial⟩ trivial trivial<|.mv rfl<|.ext rfl rfl<|.ext rfl rfl<|.av rfl<|.av rfl<|.nil) rfl ?_;obtain⟨v17,e18,h⟩:=bind_some h;obtain⟨v19,e20,h⟩:=bind_some h;refine .ak (.mv rfl<|.mv rfl<|.af (vn e18) ⟨rfl,rfl,trivial⟩ trivial trivial<|.af (Bq e20) ⟨rfl,rfl,trivial⟩ trivial trivial<|.av rfl<|.nil) rfl ?_;refine .sq ?_;obtain⟨v21,e22,h⟩:=bind_some h;refine .ak (.mv rfl<|.mv rfl<|.af (pc e22) ⟨rfl,rfl,trivial⟩ trivial trivial<|.cm rfl rfl rfl<|.nil) rfl ?_;by_cases c23:(decide (v21>=0))=true
  ·replace h:=ab c23 h;refine .bT rfl c23 ?_;refine .ak (.mv rfl<|.av rfl<|.nil) rfl ?_;refine .aF (Hi:=[]) (Ho:=[]) (b:=b) (fn:=Go.Proofs.Tryz.f170) (d:=ah v9) (fun _ _ hb=>by exact⟨_,(sj h),fun e=>by subst e;have h:=ho1;cases h;exact hb⟩) rfl (.t1 (.tmp rfl)) (.refl _) trivial trivial
  ·replace h:=ae c23 h;refine .cC rfl c23 ?_;refine .skip (Ok.on ?_);refine .region (.mv rfl<|.av rfl<|.nil) rfl (fun _ _ hs=>⟨v19,(sj h),hs.sub (.of rfl) trivial rfl rfl⟩)
def dB(v2:Int)(v3:Int)(v4:List Int):Option (St (Int×Int×(List Int)) (List Int)):=(if(decide (v2<v3))=true then(ix v4 v3).bind fun v10=>(ix v4 v2).bind fun v12=>(ix (v4.set v2.toNat v10) v3).bind fun v14=>some (St.next ((IntKind.i64.wrap (v2+1)),(IntKind.i64.wrap (v3-1)),((v4.set v2.toNat v10).set v3.toNat v12)))else some (St.done v4))
def eU(a1:List Int):Option (List Int):=(Loop (fun(s:Int×Int×(List Int))=>dB s.1 s.2.1 s.2.2) (0,(IntKind.i64.wrap ((a1.length:Int)-1)),a1)).bind fun v16=>some v16
theorem oE{a1:List Int}{r17:List Int}(h:eU a1=some r17):bb PP 230 [(0,bm (aK.int .u8) 5 a1)] [D.own 0] [(0,bm (aK.int .u8) 5 r17)] (D.fA []):=by
 unfold eU at h;refine .of Go.Proofs.Tryz.func230 rfl (by kernel_rfl) rfl rfl rfl rfl rfl rfl (fun A w0 L b=>?_);show Ok PP _ [(0,D.own 0),(1000000,D.pinned 0 (b 0))] [(0,bm (aK.int .u8) 5 a1)] _ _;refine .sl 0 rfl rfl rfl ?_;refine .ak (.mv rfl<|.zx rfl vX<|.ar rfl rfl rfl<|.av rfl<|.av rfl<|.nil) rfl ?_;obtain⟨o5,hl6,h⟩:=bind_some h;have ho1:=h;refine .block (.cY (fun(s:Int×Int×(List Int))=>[(0,D.own 0),(2,D.int .i64 s.1),(3,D.int .i64 s.2.1),(1000000,D.pinned 0 (b 0))]) (fun(s:Int×Int×(List Int))=>[(0,bm (aK.int .u8) 5 s.2.2)]) hl6 (.p rfl .sl<|.k rfl<|.k rfl<|.k rfl<|trivial) (.of rfl) rfl rfl ?_);rintro⟨v2,v3,v4⟩ st7 hb8;have h:dB v2 v3 v4=some st7:=hb8;unfold dB at h
 try dsimp only
 refine .sq ?_;refine .ak (.mv rfl<|.mv rfl<|.cm rfl rfl rfl<|.nil) rfl ?_;by_cases c9:(decide (v2<v3))=true
 ·replace h:=ab c9 h;refine .bT rfl c9 ?_;refine .skip (Ok.on ?_);refine .sq ?_;refine .block ?_;refine .sl 0 rfl rfl rfl ?_;obtain⟨v10,e11,h⟩:=bind_some h;obtain⟨v12,e13,h⟩:=bind_some h;obtain⟨v14,e15,h⟩:=bind_some h;refine .cJ bP (.mv rfl<|.mv rfl<|.mv rfl<|.mv rfl<|.mv rfl<|.mv rfl<|.iS rfl rfl lE (ag e11).1 (by have:=dF e11;simpa using this)<|.CE rfl rfl m9 rfl (ag e11).2 rfl<|.mv rfl<|.mv rfl<|.iS rfl rfl lE (ag e13).1 (by have:=dF e13;simpa using this)<|.CE rfl rfl m9 rfl (ag e13).2 rfl<|.iS rfl rfl lE (ag e13).1 (by have:=dF e13;simpa using this)<|.BC v10 rfl rfl rfl m9 rfl rfl rfl rfl (bE e13)<|.iS rfl rfl lE (ag e15).1 (by have:=dF e15;simpa using this)<|.BC v12 rfl rfl rfl m9 rfl rfl rfl rfl (bE e15)<|.nil) rfl (by kernel_rfl) (Ok.on ?_);refine .region (.mv rfl<|.ar rfl rfl rfl<|.mv rfl<|.ar rfl rfl rfl<|.av rfl<|.av rfl<|.nil) rfl (fun _ _ hs=>⟨((IntKind.i64.wrap (v2+1)),(IntKind.i64.wrap (v3-1)),((v4.set v2.toNat v10).set v3.toNat v12)),(sj h),hs.sub (.p rfl .sl<|.k rfl<|.k rfl<|.k rfl<|trivial) (.of rfl) rfl rfl⟩)
 ·replace h:=ae c9 h;refine .cC rfl c9 ?_;refine .exit (fun a w hs=>⟨_,(sj h),fun e=>by subst e;have h:=ho1;cases h;exact bD (hs.Bu rfl .nil (.refl _) (.of rfl) (.of rfl))⟩)
def dz(v10:Nat)(v17:Int)(v18:Int)(v19:List Int):Option (St (Int×Int×(List Int)) (List Int)):=((if(decide (v18<9))=true then(if(decide (((aD v10).length:Int)>0))=true then some (Ex.cy ())else(if(decide (v17>0))=true then some (Ex.cy ())else some (Ex.ret ())))else some (Ex.ret ()))).bind fun o24=>(match o24 with|Ex.cy ()=>bC ((v19.length+([(IntKind.u8.wrap (IntKind.u64.wrap (48+(Int.tmod v17 10))))]).length)*1<=140737488355328/\v19.length+([(IntKind.u8.wrap (IntKind.u64.wrap (48+(Int.tmod v17 10))))]).length<=9223372036854775807) (some (St.next ((IntKind.u64.wrap (Int.tdiv v17 10)),(IntKind.i64.wrap (v18+1)),(v19++[(IntKind.u8.wrap (IntKind.u64.wrap (48+(Int.tmod v17 10))))]))))|Ex.ret ()=>some (St.done v19))
def dv(v3:Nat)(v4:List Int):Option (St (Nat×(List Int)) (List Int)):=(if(decide (((aD v3).length:Int)>0))=true then(rG v3 1000000000).bind fun(v10,v11)=>(jz v11).bind fun v13=>((Loop (fun(s:Int×Int×(List Int))=>dz v10 s.1 s.2.1 s.2.2) (v13,0,v4)).bind fun v30=>some (v30)).bind fun v31=>some (St.next (v10,v31))else some (St.done v4))
def iq(a1:Nat):Option (List UInt8):=(if(((aD a1).length:Int)==0)=true then some ([48]:List UInt8)else(Loop (fun(s:Nat×(List Int))=>dv s.1 s.2) (a1,[])).bind fun v32=>(eU v32).bind fun v33=>some (bytesOf v33))
theorem qM{a1:Nat}{r35:List UInt8}(h:iq a1=some r35):bb PP 176 [] [ah a1] [] (b_ r35):=by
 unfold iq at h;refine .of Go.Proofs.Tryz.func176 rfl (by kernel_rfl) rfl rfl rfl rfl rfl rfl (fun A w0 L b=>?_);show Ok PP _ [(0,ah a1)] [] _ _;refine .ak (.av rfl<|.nil) rfl ?_;refine .sq ?_;refine .ak (.mv rfl<|.qF rfl au<|.cm rfl rfl rfl<|.nil) rfl ?_;by_cases c2:(((aD a1).length:Int)==0)=true
 ·replace h:=ab c2 h;refine .bT rfl c2 ?_;refine .ak (.av rfl<|.nil) rfl ?_;cases h;refine .aF (fun _ _ hb=>hb) rfl (.t1 (.tmp rfl)) (.refl _) trivial trivial
 ·replace h:=ae c2 h;refine .cC rfl c2 ?_;refine .skip (Ok.on ?_);refine .ak (.av rfl<|.nil) rfl ?_;refine .iZ (aK.int .u8) 3 2000003 5 rfl rfl ?_;obtain⟨v32,hl6,h⟩:=bind_some h;refine .du (fun i=>v32=i) (fun(i:(List Int))=>[(3,D.own 2000003)]) (fun(i:(List Int))=>[(2000003,bm (aK.int .u8) 5 i)]) ?_ ?_
  ·have ho1:=h;refine .block (.cY (fun(s:Nat×(List Int))=>[(0,ah s.1),(3,D.own 2000003)]) (fun(s:Nat×(List Int))=>[(2000003,bm (aK.int .u8) 5 s.2)]) hl6 (.of rfl) (.of rfl) rfl rfl ?_);rintro⟨v3,v4⟩ st7 hb8;have h:dv v3 v4=some st7:=hb8;unfold dv at h
   try dsimp only
   refine .sq ?_;refine .ak (.mv rfl<|.qF rfl au<|.cm rfl rfl rfl<|.nil) rfl ?_;by_cases c9:(decide (((aD v3).length:Int)>0))=true
   ·replace h:=ab c9 h;refine .bT rfl c9 ?_;refine .skip (Ok.on ?_);refine .block ?_;obtain⟨⟨v10,v11⟩,e12,h⟩:=bind_some h;refine .ak (.mv rfl<|.af (y2 e12) ⟨rfl,rfl,trivial⟩ trivial trivial<|.mv rfl<|.ext rfl rfl<|.ext rfl rfl<|.av rfl<|.av rfl<|.nil) rfl ?_;obtain⟨v13,e14,h⟩:=bind_some h;refine .ak (.mv rfl<|.af (pa e14) ⟨rfl,trivial⟩ trivial trivial<|.av rfl<|.nil) rfl ?_;obtain⟨v31,hp16,h⟩:=bind_some h;refine .du (fun i=>v31=i) (fun(i:(List Int))=>[(3,D.own 2000003),(4,ah v10)]) (fun(i:(List Int))=>[(2000003,bm (aK.int .u8) 5 i)]) ?_ ?_
    ·have ho2:=h;have h:=hp16;refine .ak (.av rfl<|.nil) rfl ?_;obtain⟨o20,hl21,h⟩:=bind_some h;have ho3:=h;refine .block (.cY (fun(s:Int×Int×(List Int))=>[(3,D.own 2000003),(4,ah v10),(6,D.int .u64 s.1),(7,D.int .i64 s.2.1)]) (fun(s:Int×Int×(List Int))=>[(2000003,bm (aK.int .u8) 5 s.2.2)]) hl21 (.of rfl) (.of rfl) rfl rfl ?_);rintro⟨v17,v18,v19⟩ st22 hb23;have h:dz v10 v17 v18 v19=some st22:=hb23;unfold dz at h
     try dsimp only
     obtain⟨o24,hp25,h⟩:=bind_some h;refine .du (fun i=>o24=Ex.cy i) (fun(i:Unit)=>[(3,D.own 2000003),(4,ah v10),(6,D.int .u64 v17),(7,D.int .i64 v18)]) (fun(i:Unit)=>[(2000003,bm (aK.int .u8) 5 v19)]) ?_ ?_
     ·have ho4:=h;have h:=hp25;by_cases c26:(decide (v18<9))=true
      ·replace h:=ab c26 h;by_cases c27:(decide (((aD v10).length:Int)>0))=true
       ·replace h:=ab c27 h;refine .ak (.mv rfl<|.cm rfl rfl rfl<|.mv rfl<|.gy c26<|.mv rfl<|.gy c26<|.qF rfl au<|.gy c26<|.cm rfl rfl rfl<|.gy c26<|.mv rfl<|.gk c27<|.gk c27<|.gy c26<|.an rfl c27 rfl<|.an rfl c26 rfl<|.nil) rfl ?_;refine .bT rfl rfl ?_;refine .skip (fun _ _ hs=>⟨(),(sj h),hs.sub (.of rfl) (.of rfl) rfl rfl⟩)
       ·replace h:=ae c27 h;refine .ak (.mv rfl<|.cm rfl rfl rfl<|.mv rfl<|.gy c26<|.mv rfl<|.gy c26<|.qF rfl au<|.gy c26<|.cm rfl rfl rfl<|.gy c26<|.mv rfl<|.gz c27<|.mv rfl<|.gz c27<|.cm rfl rfl rfl<|.gy c26<|.al rfl c27 rfl<|.an rfl c26 rfl<|.nil) rfl ?_;by_cases c28:(decide (v17>0))=true
        ·replace h:=ab c28 h;refine .bT rfl c28 ?_;refine .skip (fun _ _ hs=>⟨(),(sj h),hs.sub (.of rfl) (.of rfl) rfl rfl⟩)
        ·replace h:=ae c28 h;refine .cC rfl c28 ?_;cases h;have h:=ho4;refine .exit (fun a w hs=>⟨_,(sj h),fun e=>by subst e;have h:=ho3;exact bD (⟨v19,(sj h),hs.sub (.of rfl) (.of rfl) rfl rfl⟩)⟩)
      ·replace h:=ae c26 h;refine .ak (.mv rfl<|.cm rfl rfl rfl<|.mv rfl<|.gm c26<|.gm c26<|.gm c26<|.gm c26<|.gu<|.gu<|.gm c26<|.al rfl c26 rfl<|.nil) rfl ?_;refine .cC rfl (by decide) ?_;cases h;have h:=ho4;refine .exit (fun a w hs=>⟨_,(sj h),fun e=>by subst e;have h:=ho3;exact bD (⟨v19,(sj h),hs.sub (.of rfl) (.of rfl) rfl rfl⟩)⟩)
     ·rintro⟨⟩ rfl
      try dsimp only
      refine .sq ?_;refine .block ?_;refine .sl 3 rfl rfl rfl ?_;obtain⟨k29,h⟩:=aG h;refine .ak (.mv rfl<|.mv rfl<|.ar rfl rfl (Bb (by decide))<|.ar rfl rfl rfl<|.cv rfl oJ rfl<|.uV (e:=(aK.int .u8)) [(IntKind.u8.wrap (IntKind.u64.wrap (48+(Int.tmod v17 10))))] [(0,_,D.int .u8 (IntKind.u8.wrap (IntKind.u64.wrap (48+(Int.tmod v17 10)))),[D.int .u8 (IntKind.u8.wrap (IntKind.u64.wrap (48+(Int.tmod v17 10))))])] qU rfl rfl rfl ⟨rfl,rfl,.one rfl,rfl,trivial⟩ ⟨rfl,trivial⟩ rfl rfl<|.Cb (ys:=[(IntKind.u8.wrap (IntKind.u64.wrap (48+(Int.tmod v17 10))))]) rfl .sl rfl (.refl _) rfl qU rfl k29.1 k29.2 rfl<|.av rfl<|.nil) rfl ?_;refine .region (.mv rfl<|.ar rfl rfl (Bz (by decide))<|.av rfl<|.nil) rfl (Ok.on ?_);refine .region (.mv rfl<|.ar rfl rfl rfl<|.av rfl<|.nil) rfl (fun _ _ hs=>⟨((IntKind.u64.wrap (Int.tdiv v17 10)),(IntKind.i64.wrap (v18+1)),(v19++[(IntKind.u8.wrap (IntKind.u64.wrap (48+(Int.tmod v17 10))))])),(sj h),hs.oG (fun r=>match r with|2000003=>40|r=>r) (.p rfl (.own (r:=2000003))<|.r rfl rfl<|.r rfl rfl<|.r rfl rfl<|trivial) (.r rfl rfl trivial) rfl rfl rfl⟩)
    ·rintro _ rfl
     try dsimp only
     refine .region (.mv rfl<|.av rfl<|.nil) rfl (fun _ _ hs=>⟨(v10,v31),(sj h),hs.sub (.of rfl) (.of rfl) rfl rfl⟩)
   ·replace h:=ae c9 h;refine .cC rfl c9 ?_;refine .exit (fun _ _ hs=>⟨_,(sj h),fun e=>⟨v4,e.symm,hs.sub (.of rfl) (.of rfl) rfl rfl⟩⟩)
  ·rintro _ rfl
   try dsimp only
   refine .sl 3 rfl rfl rfl ?_;obtain⟨v33,e34,h⟩:=bind_some h;refine .ak (.mv rfl<|.af (Hi:=[(2000003,bm (aK.int .u8) 5 v32)]) (Ho:=[(2000003,bm (aK.int .u8) 5 v33)]) (d:=D.fA []) (ds:=[D.sl 2000003 v32.length]) (.vo (oE e34) (fun r=>match r with|0=>2000003|r=>r) (fun r=>match r with|2000003=>0|r=>r) rfl (.r rfl rfl trivial) rfl ⟨.zm (r:=0),trivial⟩ (.r rfl rfl trivial) rfl (.refl rfl) rfl rfl rfl rfl rfl) ⟨rfl,trivial⟩ ⟨rfl,trivial⟩ trivial<|.nil) rfl ?_;refine .zp 3 (.own 2000003) rfl .sl ?_;refine .vx 3 rfl rfl rfl ?_;refine .ak (.mv rfl<|.CZ rfl (by kernel_rfl)<|.av rfl<|.nil) rfl ?_;cases h;refine .aF (fun _ _ hb=>hb) rfl (.t1 (.tmp rfl)) (.refl _) trivial trivial
end
end Go.Am
namespace Go.Am
open Go.RowKit
theorem jM{x:Nat}:(aD x).length=0↔x=0:=by
 constructor
 ·intro h;apply Classical.byContradiction;intro h0;have:=cu h0;omega
 ·rintro rfl;rw[cB];rfl
theorem eQ{x:Nat}:(aD x).length<=2↔x<18446744073709551616:=by
 constructor
 ·intro h;have h1:=jB (x:=x);have h2:(4294967296:Nat)^(aD x).length<=4294967296^2:=Nat.pow_le_pow_right (by omega) h;have:(4294967296:Nat)^2=18446744073709551616:=by decide
  omega
 ·exact fun h=>dX (n:=2) h
theorem ct{x y:Nat}(h:x<=y):bn x<=bn y:=by
 apply eI;exact Nat.lt_of_le_of_lt h (lV y)
theorem pY{x y:Nat}(h:x<=y)(hy:sm y):sm x:=Nat.le_trans (ct h) hy
theorem mH{x n:Nat}(h:bn x<=n):x<2^n:=Nat.lt_of_lt_of_le (lV x) (Nat.pow_le_pow_right (by omega) h)
theorem kH{x:Nat}(h:x<18446744073709551616):sm x:=by
 have:bn x<=64:=eI (n:=64) h;unfold sm;omega
theorem cZ{α:Type}{p:Prop}[Decidable p]{x y:Option α}(hp:p)(h:x=y):bC p x=y:=by rw[bK hp,h]
theorem i_{n:Nat}(h:n<18446744073709551616):jJ (n:Int)=some n:=cZ ⟨by omega,by omega⟩ rfl
theorem km{x:Nat}(h:x<18446744073709551616):jz x=some (x:Int):=cZ (eQ.2 h) rfl
theorem nv{a b:Nat}(h:sm a)(k:sm b):qT a b=some (a+b):=cZ ⟨h,k⟩ rfl
theorem qu{a b:Nat}(h:b<=a)(k:sm a):tI a b=some (a-b):=cZ ⟨h,k⟩ rfl
theorem gh{a b:Nat}(h:sm a)(k:sm b):lz a b=some (a*b):=cZ ⟨h,k⟩ rfl
theorem jV{a b:Nat}(h:sm a)(k:sm b):om a b=some (fK a b):=cZ ⟨h,k⟩ rfl
theorem od{a:Nat}(h:sm a):qA a=some (bn a:Int):=cZ h rfl
theorem gD{a b:Nat}(hb:b≠0)(h:sm a)(k:sm b):ji a b=some (a/b,a%b):=cZ ⟨hb,h,k⟩ rfl
theorem wT(x y:Nat):Loop (fun(s:Int×Int)=>fB s.1 s.2) ((x:Int),(y:Int))=some ((Nat.gcd x y:Nat):Int):=by
 obtain⟨r,hr,rfl⟩:=iF (body:=fun(s:Int×Int)=>fB s.1 s.2) ((x:Int),(y:Int)) (fun s=>∃a b:Nat,s=((a:Int),(b:Int))/\Nat.gcd a b=Nat.gcd x y) (fun s=>s.2.toNat) (fun r=>r=((Nat.gcd x y:Nat):Int)) ⟨x,y,rfl,rfl⟩ (by
  rintro s ⟨a,b,rfl,hg⟩;simp only[fB];by_cases hb:b=0
  ·right
   subst hb;rw[Nat.gcd_zero_right]at hg;exact⟨(a:Int),by simp,by rw[hg]⟩
  ·left
   refine⟨((b:Int),((a%b:Nat):Int)),?_,⟨b,a%b,rfl,?_⟩,?_⟩
   ·have h1:((b:Int) !=0)=true:=by simp;omega
    rw[if_pos h1];exact cZ (by omega) rfl
   ·rw[←hg,Nat.gcd_comm a b,Nat.gcd_rec b a,Nat.gcd_comm]
   ·simp only[Int.toNat_natCast];exact Nat.mod_lt _ (by omega))
 exact hr
def yq(a b:Nat):Option Nat:=bC (sm a/\sm b) (some (Nat.gcd a b))
theorem xf{a b:Nat}(h:sm a)(k:sm b):yq a b=some (Nat.gcd a b):=cZ ⟨h,k⟩ rfl
theorem uA{a:Nat}:cL a 0=some (.done (Ex.cy a)):=by simp[cL,cB]
theorem tM{a b:Nat}(h0:b≠0)(ha:(aD a).length<=2)(hb:(aD b).length<=2)(e1:jz a=some (a:Int))(e2:jz b=some (b:Int))(e3:jJ ((Nat.gcd a b:Nat):Int)=some (Nat.gcd a b)):cL a b=some (.done (Ex.ret (Nat.gcd a b))):=by
 have hl:(decide (((aD b).length:Int)>0))=true:=by have:=cu h0;simp;omega
 have h3:(decide (((aD a).length:Int)<=2))=true:=by simp;omega
 have h4:(decide (((aD b).length:Int)<=2))=true:=by simp;omega
 unfold cL;rw[if_pos hl,if_pos h3,if_pos h4,e1,e2,Option.bind_some,Option.bind_some,wT,Option.bind_some,e3]
 rfl
theorem uD{a b:Nat}(h0:b≠0)(ha:a<18446744073709551616)(hb:b<18446744073709551616):cL a b=some (.done (Ex.ret (Nat.gcd a b))):=
 tM h0 (eQ.2 ha) (eQ.2 hb) (km ha) (km hb) (i_ (Nat.lt_of_le_of_lt (Nat.gcd_le_right _ (Nat.pos_of_ne_zero h0)) hb))
theorem ud{a b:Nat}(h0:b≠0)(hab:¬(a<18446744073709551616/\b<18446744073709551616))(ha:sm a)(hb:sm b):cL a b=some (.next (b,a%b)):=by
 have hl:(decide (((aD b).length:Int)>0))=true:=by have:=cu h0;simp;omega
 unfold cL;rw[if_pos hl];by_cases h3:(aD a).length<=2
 ·have h4:¬(aD b).length<=2:=fun h=>hab ⟨eQ.1 h3,eQ.1 h⟩;rw[if_pos (by simp;omega),if_neg (by simp;omega)];simp only[Option.bind_some,gD h0 ha hb]
 ·rw[if_neg (by simp;omega)];simp only[Option.bind_some,gD h0 ha hb]
theorem Al(x y:Nat)(hx:sm x)(hy:sm y):lN x y=some (Nat.gcd x y):=by
 obtain⟨r,hr,hq⟩:=iF (body:=fun(s:Nat×Nat)=>cL s.1 s.2) (x,y) (fun s=>sm s.1/\sm s.2/\Nat.gcd s.1 s.2=Nat.gcd x y) (fun s=>s.2) (fun r=>r=Ex.cy (Nat.gcd x y)\/r=Ex.ret (Nat.gcd x y)) ⟨hx,hy,rfl⟩ (by
  rintro⟨a,b⟩ ⟨ha,hb,hg⟩;simp only at ha hb hg|-;by_cases h0:b=0
  ·right
   subst h0;rw[Nat.gcd_zero_right]at hg;exact⟨_,uA,.inl (by rw[hg])⟩
  by_cases h2:a<18446744073709551616/\b<18446744073709551616
  ·right
   exact⟨_,uD h0 h2.1 h2.2,.inr (by rw[hg])⟩
  ·left
   exact⟨_,ud h0 h2 ha hb,⟨hb,pY (Nat.le_of_lt (Nat.mod_lt _ (Nat.pos_of_ne_zero h0))) hb,by rw[←hg,Nat.gcd_comm a b,Nat.gcd_rec b a,Nat.gcd_comm]⟩,Nat.mod_lt _ (Nat.pos_of_ne_zero h0)⟩)
 unfold lN;rw[hr];rcases hq with rfl|rfl<;>rfl
theorem Bt{a b r:Nat}(h:yq a b=some r):bb PP 214 [] [ah a,ah b] [] (ah r):=by
 obtain⟨⟨h0,h1⟩,h⟩:=aG h;injection h with h;subst h;exact wv (Al a b h0 h1)
def cd:Nat->Nat
 |0=>0
 |x+1=>if(cd x+1)*(cd x+1)<=x+1 then cd x+1 else cd x
theorem j4:∀x,cd x*cd x<=x
 |0=>by simp[cd]
 |x+1=>by
  have:=j4 x;simp only[cd]
  split
  ·assumption
  ·omega
theorem mY:∀x,x<(cd x+1)*(cd x+1)
 |0=>by simp[cd]
 |x+1=>by
  have h:=mY x;simp only[cd]
  split
  ·have h2:(cd x+1+1)*(cd x+1+1)=(cd x+1)*(cd x+1)+2*(cd x+1)+1:=by
    rw[Nat.add_mul,Nat.mul_add];omega
   omega
  ·omega
theorem yf{x n:Nat}(h:n*n<=x):n<=cd x:=by
 apply Nat.le_of_lt_succ;apply Classical.byContradiction;intro hc;have h1:=Nat.mul_le_mul (Nat.le_of_not_lt hc) (Nat.le_of_not_lt hc);have:=mY x;simp only[Nat.succ_eq_add_one]at h1;omega
theorem wP{a x s:Nat}(hx:0<x)(hs:s*s<=a):s<=(x+a/x)/2:=by
 rw[Nat.le_div_iff_mul_le (by omega)];rcases Nat.lt_or_ge (2*s) x with h|h
 ·generalize a/x=q;omega
 ·have h1:2*s-x<=a/x:=by
   rw[Nat.le_div_iff_mul_le hx];refine Nat.le_trans ?_ hs;have h2:(2*s-x)*x+x*x=2*s*x:=by rw[←Nat.add_mul,Nat.sub_add_cancel h]
   have h3:2*s*x<=s*s+x*x:=by
    rcases Nat.le_total s x with h|h
    ·obtain⟨d,rfl⟩:=Nat.exists_eq_add_of_le h;rw[Nat.mul_add,Nat.add_mul,Nat.mul_add s,Nat.mul_add d];have:2*s*s=s*s+s*s:=by rw[Nat.mul_assoc];omega
     have:2*s*d=s*d+s*d:=by rw[Nat.mul_assoc];omega
     have:d*s=s*d:=Nat.mul_comm _ _;omega
    ·obtain⟨d,rfl⟩:=Nat.exists_eq_add_of_le h;have e1:2*(x+d)*x=x*x+x*x+(d*x+d*x):=by
      rw[Nat.mul_assoc,Nat.add_mul];omega
     have e2:(x+d)*(x+d)=x*x+x*d+(d*x+d*d):=by rw[Nat.add_mul,Nat.mul_add,Nat.mul_add]
     have e3:x*d=d*x:=Nat.mul_comm _ _;omega
   omega
  generalize a/x=q at h1|-;omega
theorem fu{x n:Nat}:bn x<=n↔x<2^n:=⟨mH,eI⟩
theorem pg{x y n:Nat}(h:bn x<=n)(k:bn y<=n):bn (x+y)<=n+1:=by
 rw[fu]at*;rw[Nat.pow_succ];omega
theorem p_{a n:Nat}(h:a<n):bn (2^a)<=n:=fu.2 (Nat.pow_lt_pow_right (by omega) h)
def nO(a:Nat):Option Nat:=bC (bn a<=2199023255552) (some (cd a))
theorem wrap_small{n:Int}(h0:-9223372036854775808<=n)(h1:n<9223372036854775808):IntKind.i64.wrap n=n:=by rw[IntKind.wrap_i64];omega
theorem xp{a k:Nat}(h:sm a)(hk:k<35184372088832):vG a (k:Int)=some (a/2^k):=cZ ⟨h,by omega,by omega⟩ (by rw[Int.toNat_natCast])
theorem pf{a k:Nat}(h:sm a)(hk:k<35184372088832):qV a (k:Int)=some (a*2^k):=cZ ⟨h,by omega,by omega⟩ (by rw[Int.toNat_natCast])
theorem tO{x y:Nat}(h:y<=x):fK x y>=0:=by unfold fK;rw[if_neg (by omega)];split<;>omega
theorem yJ(a:Nat)(h:bn a<=2199023255552):kb a=some (cd a):=by
 unfold kb;by_cases h0:a=0
 ·subst h0;simp[cB,cd]
 have hl:=cu h0;have hsa:sm a:=Nat.le_trans h (by omega);have hl2:¬(((aD a).length:Int)==0)=true:=by
  rw[beq_iff_eq];omega
 rw[if_neg hl2];have e1:jJ (1:Int)=some 1:=i_ (n:=1) (by omega);rw[e1,od hsa];simp only[Option.bind_some];have ew:IntKind.i64.wrap (Int.tdiv (IntKind.i64.wrap ((bn a:Int)+1)) 2)=(((bn a+1)/2:Nat):Int):=by
  rw[wrap_small (n:=(bn a:Int)+1) (by omega) (by omega),Int.tdiv_eq_ediv_of_nonneg (by omega),wrap_small (by omega) (by omega)];omega
 rw[ew,pf (kH (by omega)) (by omega),Nat.one_mul];simp only[Option.bind_some];have hp0:0<2^((bn a+1)/2):=Nat.two_pow_pos _;have hs0:cd a<=2^((bn a+1)/2):=by
  apply Classical.byContradiction;intro hc;have h1:=Nat.mul_le_mul (Nat.le_of_lt (Nat.lt_of_not_le hc)) (Nat.le_of_lt (Nat.lt_of_not_le hc));have h2:=j4 a;have h3:=lV a;rw[←Nat.pow_add]at h1;have h4:(2:Nat)^bn a<=2^((bn a+1)/2+(bn a+1)/2):=Nat.pow_le_pow_right (by omega) (by omega);omega
 have hb0:bn (2^((bn a+1)/2))<=1099511627778:=p_ (by omega);generalize 2^((bn a+1)/2)=x0 at*;obtain⟨r,hr,rfl⟩:=iF (body:=fun s=>fH a s) x0 (fun x=>0<x/\cd a<=x/\bn x<=1099511627778) id (fun r=>r=cd a) ⟨hp0,hs0,hb0⟩ (by
  intro x ⟨hx,hsx,hbx⟩;have hsx':sm x:=Nat.le_trans hbx (by omega);have hbd:bn (a/x)<=2199023255552:=Nat.le_trans (ct (Nat.div_le_self _ _)) h;have hsd:sm (a/x):=Nat.le_trans hbd (by omega);have hsum:sm (x+a/x):=by
   exact Nat.le_trans (pg (Nat.le_trans hbx (by omega)) hbd) (by omega)
  have hge:=wP (a:=a) hx (j4 a);have hy:sm ((x+a/x)/2):=pY (Nat.div_le_self _ _) hsum;unfold fH;rw[gD (by omega) hsa hsx'];simp only[Option.bind_some];rw[nv hsx' hsd];simp only[Option.bind_some];have e2:vG (x+a/x) 1=some ((x+a/x)/2):=xp (k:=1) hsum (by omega);rw[e2];simp only[Option.bind_some];rw[jV hy hsx'];simp only[Option.bind_some];by_cases hc:x<=(x+a/x)/2
  ·right
   refine⟨x,?_,?_⟩
   ·rw[if_pos (decide_eq_true (tO hc))]
   ·have h1:x<=a/x:=by omega
    rw[Nat.le_div_iff_mul_le hx]at h1;exact Nat.le_antisymm (yf h1) hsx
  ·left
   refine⟨(x+a/x)/2,?_,⟨?_,hge,?_⟩,by simp only[id];omega⟩
   ·rw[if_neg];have:fK ((x+a/x)/2) x=-1:=by unfold fK;rw[if_pos (by omega)]
    rw[this];decide
   ·apply Nat.pos_of_ne_zero;intro e;have h1:cd a=0:=by omega
    have h2:=mY a;rw[h1]at h2;omega
   ·exact Nat.le_trans (ct (by omega)) hbx)
 rw[hr];rfl
theorem uw{a r:Nat}(h:nO a=some r):bb PP 170 [] [ah a] [] (ah r):=by
 obtain⟨h0,h⟩:=aG h;injection h with h;subst h;exact uj (yJ a h0)
theorem AH{α:Type}{xs:List α}{n:Nat}(h:n<xs.length):ix xs (n:Int)=some xs[n]:=by
 unfold ix;rw[if_pos (by omega),Int.toNat_natCast,List.getElem?_eq_getElem h]
theorem rY{α:Type}{xs:List α}{i:Int}(n:Nat)(hi:i=(n:Int))(h:n<xs.length):ix xs i=some xs[n]:=by rw[hi,AH h]
theorem ub(a:List Int)(hl:a.length<=4398046511110):eU a=some a.reverse:=by
 unfold eU;have e0:IntKind.i64.wrap ((a.length:Int)-1)=(a.length:Int)-1:=wrap_small (by omega) (by omega);rw[e0];obtain⟨r,hr,rfl⟩:=iF (body:=fun(s:Int×Int×(List Int))=>dB s.1 s.2.1 s.2.2) (0,((a.length:Int)-1),a)
  (fun s=>∃k:Nat,s.1=(k:Int)/\s.2.1=(a.length:Int)-1-k/\k<=a.length/\s.2.2.length=a.length/\(2*k<=a.length+1)/\∀n (h:n<a.length),s.2.2[n]?=if n<k\/a.length-1-k<n then a[a.length-1-n]?else a[n]?)
  (fun s=>(s.2.1+1).toNat) (fun r=>r=a.reverse)
  ⟨0,rfl,by simp,by omega,rfl,by omega,fun n h=>by rw[if_neg (by omega)]⟩ (by
   rintro⟨i,j,xs⟩ ⟨k,hi,hj,hk,hlen,hk2,hx⟩;simp only at hi hj hlen hx|-;unfold dB;by_cases hlt:i<j
   ·left
    have h1:k<a.length-1-k:=by omega
    have hj':j=((a.length-1-k:Nat):Int):=by omega
    rw[if_pos (decide_eq_true hlt),rY (a.length-1-k) hj' (by omega),Option.bind_some,rY k hi (by omega),Option.bind_some];rw[rY (a.length-1-k) hj' (by rw[List.length_set];omega),Option.bind_some];refine⟨_,rfl,⟨k+1,?_,?_,by omega,by simp[hlen],by omega,?_⟩,by simp only;rw[wrap_small (by omega) (by omega)];omega⟩
    ·simp only;rw[wrap_small (by omega) (by omega)];omega
    ·simp only;rw[wrap_small (by omega) (by omega)];omega
    ·intro n hn;simp only;rw[show j.toNat=a.length-1-k from by omega,show i.toNat=k from by omega];have ek:=hx k (by omega);have ej:=hx (a.length-1-k) (by omega);rw[if_neg (by omega)]at ek ej;rw[List.getElem?_eq_getElem (by omega)]at ek ej;by_cases c1:n=a.length-1-k
     ·subst c1;rw[List.getElem?_set_self (by rw[List.length_set];omega),if_pos (by omega),ek];rw[show a.length-1-(a.length-1-k)=k from by omega]
     ·rw[List.getElem?_set_ne (by omega)];by_cases c2:n=k
      ·subst c2;rw[List.getElem?_set_self (by omega),if_pos (by omega),ej]
      ·rw[List.getElem?_set_ne (by omega),hx n hn];by_cases c3:n<k\/a.length-1-k<n
       ·rw[if_pos c3,if_pos (by omega)]
       ·rw[if_neg c3,if_neg (by omega)]
   ·right
    rw[if_neg (by simpa using hlt)];refine⟨xs,rfl,?_⟩;apply List.ext_getElem?;intro n;by_cases hn:n<a.length
    ·rw[hx n hn,List.getElem?_reverse hn]
     split
     ·rfl
     ·rw[show a.length-1-n=n from by omega]
    ·rw[List.getElem?_eq_none (by omega),List.getElem?_eq_none (by simp;omega)])
 rw[hr];rfl
def dR(x:Nat):List Int:=if h:x=0 then []else((48+x%10:Nat):Int)::dR (x/10)
termination_by x
decreasing_by exact Nat.div_lt_self (Nat.pos_of_ne_zero h) (by decide)
theorem si:dR 0=[]:=by rw[dR];rfl
theorem xl{x:Nat}(h:x≠0):dR x=((48+x%10:Nat):Int)::dR (x/10):=by rw[dR,dif_neg h]
theorem um:∀(n x:Nat),x<2^n->(dR x).length<=n
 |0,x,h=>by
  have:x=0:=by simp at h;exact h
  subst this;rw[si];exact Nat.le_refl _
 |n+1,x,h=>by
  by_cases h0:x=0
  ·subst h0;rw[si];exact Nat.zero_le _
  ·rw[xl h0,List.length_cons];have:=um n (x/10) (by rw[Nat.pow_succ]at h;omega);omega
def l7(x:Nat):List UInt8:=if x=0 then [48]else bytesOf (dR x).reverse
def uU(a:Nat):Option (List UInt8):=bC (sm a) (some (l7 a))
theorem Ba(n:Int)(h:0<=n/\n<=255):IntKind.u8.wrap n=n:=by rw[IntKind.wrap_u8];omega
theorem u64_in{n:Int}(h0:0<=n)(h1:n<18446744073709551616):IntKind.u64.wrap n=n:=by rw[IntKind.wrap_u64];omega
theorem uB{a:Nat}{d:Int}(h:sm a)(k:1<=d/\d<4294967296):rG a d=some (a/d.toNat,a%d.toNat):=cZ ⟨h,k⟩ rfl
theorem rh{x n:Nat}(h:bn x<=n):(dR x).length<=n:=um _ _ (mH h)
theorem x9(tgt:List Int)(q n:Nat)(b:List Int)(hn:n<1000000000)(ht:tgt.length<=4398046511104)(hq:(aD q).length=0↔q=0)(hb:b++dR (q*1000000000+n)=tgt):
  ∃b',Loop (fun(s:Int×Int×(List Int))=>dz q s.1 s.2.1 s.2.2) ((n:Int),0,b)=some b'/\b'++dR q=tgt:=by
 refine iF (body:=fun(s:Int×Int×(List Int))=>dz q s.1 s.2.1 s.2.2) ((n:Int),0,b)
  (fun s=>∃m k:Nat,s.1=(m:Int)/\s.2.1=((9-k:Nat):Int)/\k<=9/\m<10^k/\s.2.2++dR (q*10^k+m)=tgt)
  (fun s=>(9-s.2.1).toNat) (fun r=>r++dR q=tgt) ⟨n,9,rfl,rfl,by omega,hn,hb⟩ ?_
 rintro⟨i,j,b⟩ ⟨m,k,hi,hj,hk,hm,hb⟩;simp only at hi hj hb|-;subst hi;subst hj;unfold dz;by_cases h9:k=0
 ·right
  subst h9;rw[if_neg (by simp),Option.bind_some];simp only;rw[Nat.pow_zero]at hm hb;refine⟨b,rfl,?_⟩;rw[show q=q*1+m from by omega];exact hb
 obtain⟨k,rfl⟩:=Nat.exists_eq_succ_of_ne_zero h9;have hlt:((9-(k+1):Nat):Int)<9:=by omega
 rw[Nat.succ_eq_add_one,if_pos (decide_eq_true hlt)];by_cases hz:q=0/\m=0
 ·right
  obtain⟨rfl,rfl⟩:=hz;rw[if_neg (by rw[hq.2 rfl];decide),if_neg (by decide),Option.bind_some];refine⟨b,rfl,?_⟩;rw[Nat.zero_mul]at hb;exact hb
 ·left
  have hp:q*10^(k+1)+m≠0:=by
   intro h;apply hz
   constructor
   ·apply Classical.byContradiction;intro h1;have:=Nat.mul_pos (Nat.pos_of_ne_zero h1) (show 0<10^(k+1)from Nat.pow_pos (by decide));omega
   ·omega
  have hgo:(if(decide (((aD q).length:Int)>0))=true then some (Ex.cy ())else(if(decide ((m:Int)>0))=true then some (Ex.cy ())else some (Ex.ret ())):Option (Ex Unit Unit))=some (Ex.cy ()):=by
   by_cases h1:q=0
   ·rw[if_neg (by rw[hq.2 h1];decide),if_pos (decide_eq_true (by have:=fun h=>hz ⟨h1,h⟩;omega))]
   ·rw[if_pos (decide_eq_true (by have:=fun h=>h1 (hq.1 h);omega))]
  rw[hgo,Option.bind_some];simp only;have hm':m<1000000000:=Nat.lt_of_lt_of_le hm (show 10^(k+1)<=10^9 from Nat.pow_le_pow_right (by decide) (by omega));have e1:IntKind.u8.wrap (IntKind.u64.wrap (48+Int.tmod (m:Int) 10))=((48+(q*10^(k+1)+m)%10:Nat):Int):=by
   rw[Int.tmod_eq_emod_of_nonneg (by omega),u64_in (by omega) (by omega),Ba _ (by omega)];have:(q*10^(k+1)+m)%10=m%10:=by
    rw[Nat.pow_succ,←Nat.mul_assoc,Nat.add_comm,Nat.add_mul_mod_self_right]
   rw[this];omega
  have e2:IntKind.u64.wrap (Int.tdiv (m:Int) 10)=((m/10:Nat):Int):=by
   rw[Int.tdiv_eq_ediv_of_nonneg (by omega),u64_in (by omega) (by omega)];omega
  have e3:(q*10^(k+1)+m)/10=q*10^k+m/10:=by
   rw[Nat.pow_succ,←Nat.mul_assoc,Nat.add_comm,Nat.add_mul_div_right _ _ (by decide),Nat.add_comm]
  have e4:IntKind.i64.wrap (((9-(k+1):Nat):Int)+1)=((9-k:Nat):Int):=by rw[wrap_small (by omega) (by omega)];omega
  rw[xl hp,e3]at hb;rw[e1,e2,e4];have hbl:b.length+1<=tgt.length:=by rw[←hb,List.length_append,List.length_cons];omega
  refine⟨_,cZ ⟨by simp only[List.length_cons,List.length_nil];omega,by simp only[List.length_cons,List.length_nil];omega⟩ rfl,⟨m/10,k,rfl,rfl,by omega,?_,?_⟩,by simp only;omega⟩
  ·rw[Nat.pow_succ]at hm;exact Nat.div_lt_of_lt_mul (by rw[Nat.mul_comm];exact hm)
  ·simp only;rw[←hb,List.append_assoc];rfl
theorem y5(a:Nat)(h:sm a):Loop (fun(s:Nat×(List Int))=>dv s.1 s.2) (a,[])=some (dR a):=by
 obtain⟨r,hr,rfl⟩:=iF (body:=fun(s:Nat×(List Int))=>dv s.1 s.2) (a,[]) (fun s=>sm s.1/\s.2++dR s.1=dR a) (fun s=>s.1) (fun r=>r=dR a) ⟨h,rfl⟩ (by
  rintro⟨x,b⟩ ⟨hx,hb⟩;simp only at hx hb|-;unfold dv;by_cases h0:x=0
  ·right
   subst h0;rw[if_neg (by rw[jM.2 rfl];decide)];refine⟨b,rfl,?_⟩;rw[si,List.append_nil]at hb;exact hb
  ·left
   have hl:=cu h0;rw[if_pos (decide_eq_true (by omega)),uB hx ⟨by decide,by decide⟩,Option.bind_some];simp only;have en:(1000000000:Int).toNat=1000000000:=rfl;rw[en];have hlt:x%1000000000<1000000000:=Nat.mod_lt _ (by decide);rw[km (by omega),Option.bind_some];obtain⟨b',hb',hb2⟩:=x9 (dR a) (x/1000000000) (x%1000000000) b hlt (rh h) jM (by
    rw[show x/1000000000*1000000000+x%1000000000=x from Nat.div_add_mod' x 1000000000];exact hb)
   rw[hb'];exact⟨_,rfl,⟨pY (Nat.div_le_self _ _) hx,hb2⟩,Nat.div_lt_self (Nat.pos_of_ne_zero h0) (by decide)⟩)
 exact hr
theorem AK(a:Nat)(h:sm a):iq a=some (l7 a):=by
 unfold iq l7;by_cases h0:a=0
 ·subst h0;rw[if_pos (by rw[jM.2 rfl];rfl),if_pos rfl]
 ·have hl:=cu h0;have hl2:¬(((aD a).length:Int)==0)=true:=by rw[beq_iff_eq];omega
  rw[if_neg hl2,if_neg h0,y5 a h,Option.bind_some,ub _ (Nat.le_trans (rh h) (by omega))]
  rfl
theorem Ac{a:Nat}{r:List UInt8}(h:uU a=some r):bb PP 176 [] [ah a] [] (b_ r):=by
 obtain⟨h0,h⟩:=aG h;injection h with h;subst h;exact qM (AK a h0)
end Go.Am
namespace Go.Am
open Go.RowKit
def qC(x:Rat):List D:=[.bool (decide (x.num<0)),ah x.num.natAbs,ah (x.den-1)]
def qD(x:Rat):D:=.agg (qC x)
def aK.rat:aK Rat:=⟨3,qC,fun _=>rfl,fun _=>rfl⟩
theorem eB:Le (.bool false) (.bool (decide ((0:Rat).num<0))):=.refl _
theorem ep:Le .nil (ah (0:Rat).num.natAbs):=aM
theorem ee:Le .nil (ah ((0:Rat).den-1)):=aM
def sz(x:Rat):Nat:=max (bn x.num.natAbs) (bn x.den)
def fe(x:Rat):Prop:=sz x<=400000000000
instance (x:Rat):Decidable (fe x):=inferInstanceAs (Decidable (sz x<=400000000000))
def jv(n:Int):Prop:=-9223372036854775808<=n/\n<9223372036854775808
instance (n:Int):Decidable (jv n):=inferInstanceAs (Decidable (_/\_))
def yI(x:Rat):Int:=if x<0 then-1 else if x=0 then 0 else 1
def fV(x y:Rat):Int:=if x<y then-1 else if y<x then 1 else 0
def aT(n:Int):Option Rat:=bC (jv n) (some (n:Rat))
def dH(a b:Rat):Option Rat:=bC (fe a/\fe b) (some (a+b))
def gR(a b:Rat):Option Rat:=bC (fe a/\fe b) (some (a-b))
def cx(a b:Rat):Option Rat:=bC (fe a/\fe b) (some (a*b))
def cK(a b:Rat):Option Rat:=bC (b≠0/\fe a/\fe b) (some (a/b))
def yb(a b:Rat):Option (Rat×Int):=bC (fe a/\fe b) (some (if b=0 then(0,9)else(a/b,0)))
def jf(a:Rat):Option Rat:=some (-a)
def tG(a:Rat):Option Rat:=some (if a<0 then-a else a)
def j0(a b:Rat):Option Int:=bC (fe a/\fe b) (some (fV a b))
def cq(a:Rat):Option Int:=some (yI a)
def Af(a:Rat):Option Rat:=some (a.num:Rat)
def m_(a:Rat):Option Rat:=bC (fe a) (some (a.den:Rat))
def i3(a:Rat):Option Rat:=bC (fe a) (some (a.floor:Rat))
def uK(a:Rat):Option Rat:=bC (fe a) (some (a.ceil:Rat))
def Cc(a:Rat):Int:=if(((a+1/2).floor:Int):Rat)-a=1/2/\(a+1/2).floor%2=1 then(a+1/2).floor-1 else(a+1/2).floor
def kr(a:Rat):Option Rat:=bC (fe a) (some (Cc a:Rat))
def i7(a:Rat):Option (Int×Bool):=bC (fe a) (some (if a.den=1/\jv a.num then(a.num,true)else(0,false)))
def qh(a:Rat):Option Int:=bC (fe a) (some ((bn a.num.natAbs+bn a.den:Nat):Int))
def uM(k:Int):Option Rat:=bC (0<=k/\k<=100000) (some ((2:Rat)^k.toNat))
def Cm(a:Rat):List UInt8:=(if a.num<0 then [45]else [])++l7 a.num.natAbs++(if a.den=1 then []else 47::l7 a.den)
def xD(a:Rat):Option (List UInt8):=bC (fe a) (some (Cm a))
end Go.Am
namespace Go.Am
open Go.RowKit
set_option maxRecDepth 100000
noncomputable section
def cr(a1:Bool)(a2:Nat):Option (Bool×Nat):=(if a1=true then some ((decide (((aD a2).length:Int)>0)),a2)else some (false,a2))
theorem dI{a1:Bool}{a2:Nat}{r4:Bool}{r5:Nat}(h:cr a1 a2=some (r4,r5)):bb PP 152 [] [D.bool a1,ah a2] [] (D.agg ([D.bool r4,ah r5])):=by
 unfold cr at h;refine .of Go.Proofs.Tryz.func152 rfl (by kernel_rfl) rfl rfl rfl rfl rfl rfl (fun A w0 L b=>?_);show Ok PP _ [(0,D.bool a1),(1,ah a2)] [] _ _;refine .ak (.eZ ([D.bool false,ah 0]) cD ⟨.refl _,aM,trivial⟩ rfl<|.nil) rfl ?_;by_cases c3:a1=true
 ·replace h:=ab c3 h;refine .ak (.mv rfl<|.mv rfl<|.gy c3<|.mv rfl<|.gy c3<|.qF rfl au<|.gy c3<|.cm rfl rfl rfl<|.an rfl c3 rfl<|.mv rfl<|.jb ([D.bool (decide (((aD a2).length:Int)>0)),ah a2]) [(0,_,D.bool (decide (((aD a2).length:Int)>0)),[D.bool (decide (((aD a2).length:Int)>0))]),(1,_,ah a2,[ah a2])] cD dC ⟨rfl,rfl,.one rfl,rfl,rfl,rfl,.one rfl,rfl,trivial⟩ ⟨rfl,rfl,trivial⟩ ⟨.refl _,.refl _,trivial⟩<|.cc ([D.bool (decide (((aD a2).length:Int)>0)),ah a2]) rfl rfl rfl ba rfl rfl rfl<|.nil) rfl ?_;cases h;refine .aF (fun _ _ hb=>hb) rfl (.cons (.agg rfl rfl ba rfl) .nil) (.refl _) trivial trivial
 ·replace h:=ae c3 h;refine .ak (.mv rfl<|.mv rfl<|.gm c3<|.gm c3<|.gm c3<|.al rfl c3 rfl<|.mv rfl<|.jb ([D.bool false,ah a2]) [(0,_,D.bool false,[D.bool false]),(1,_,ah a2,[ah a2])] cD dC ⟨rfl,rfl,.one rfl,rfl,rfl,rfl,.one rfl,rfl,trivial⟩ ⟨rfl,rfl,trivial⟩ ⟨.refl _,.refl _,trivial⟩<|.cc ([D.bool false,ah a2]) rfl rfl rfl ba rfl rfl rfl<|.nil) rfl ?_;cases h;refine .aF (fun _ _ hb=>hb) rfl (.cons (.agg rfl rfl ba rfl) .nil) (.refl _) trivial trivial
def gj(a1:Bool)(a2:Nat):Option Int:=(if a1=true then some (-1)else(if(((aD a2).length:Int)==0)=true then some 0 else some 1))
theorem rW{a1:Bool}{a2:Nat}{r5:Int}(h:gj a1 a2=some r5):bb PP 153 [] [D.agg ([D.bool a1,ah a2])] [] (D.int .i64 r5):=by
 unfold gj at h;refine .of Go.Proofs.Tryz.func153 rfl (by kernel_rfl) rfl rfl rfl rfl rfl rfl (fun A w0 L b=>?_);show Ok PP _ [(0,D.agg ([D.bool a1,ah a2]))] [] _ _;refine .ak (.iL rfl rfl<|.av rfl<|.nil) rfl ?_;refine .sq ?_;refine .block ?_;refine .ak (.fa rfl aJ<|.bH (D.bool a1) rfl rfl bY rfl<|.av rfl<|.nil) rfl ?_;by_cases c3:a1=true
 ·replace h:=ab c3 h;refine .bT rfl c3 ?_;refine .ak (.av rfl<|.nil) rfl ?_;cases h;refine .aF (fun _ _ hb=>hb) rfl (.t1 (.tmp rfl)) (.refl _) trivial trivial
 ·replace h:=ae c3 h;refine .cC rfl c3 ?_;refine .ak (.fa rfl aC<|.bH (ah a2) rfl rfl aH rfl<|.qF rfl au<|.cm rfl rfl rfl<|.av rfl<|.nil) rfl ?_;by_cases c4:(((aD a2).length:Int)==0)=true
  ·replace h:=ab c4 h;refine .bT rfl c4 ?_;refine .ak (.av rfl<|.nil) rfl ?_;cases h;refine .aF (fun _ _ hb=>hb) rfl (.t1 (.tmp rfl)) (.refl _) trivial trivial
  ·replace h:=ae c4 h;refine .cC rfl c4 ?_;refine .skip (Ok.on ?_);refine .ak (.av rfl<|.nil) rfl ?_;cases h;refine .aF (fun _ _ hb=>hb) rfl (.t1 (.tmp rfl)) (.refl _) trivial trivial
def iG(a1:Bool)(a2:Nat)(a3:Bool)(a4:Nat):Option (Bool×Nat):=(if(a1==a3)=true then(qT a2 a4).bind fun v6=>(cr a1 v6).bind fun(v8,v9)=>some (v8,v9)else(om a2 a4).bind fun v11=>(if(decide (v11>=0))=true then(tI a2 a4).bind fun v14=>(cr a1 v14).bind fun(v16,v17)=>some (v16,v17)else(tI a4 a2).bind fun v19=>(cr a3 v19).bind fun(v21,v22)=>some (v21,v22)))
theorem tv{a1:Bool}{a2:Nat}{a3:Bool}{a4:Nat}{r24:Bool}{r25:Nat}(h:iG a1 a2 a3 a4=some (r24,r25)):bb PP 180 [] [D.agg ([D.bool a1,ah a2]),D.agg ([D.bool a3,ah a4])] [] (D.agg ([D.bool r24,ah r25])):=by
 unfold iG at h;refine .of Go.Proofs.Tryz.func180 rfl (by kernel_rfl) rfl rfl rfl rfl rfl rfl (fun A w0 L b=>?_);show Ok PP _ [(0,D.agg ([D.bool a1,ah a2])),(1,D.agg ([D.bool a3,ah a4]))] [] _ _;refine .ak (.iL rfl rfl<|.iL rfl rfl<|.eZ ([D.bool false,ah 0]) cD ⟨.refl _,aM,trivial⟩ rfl<|.nil) rfl ?_;refine .sq ?_;refine .block ?_;refine .ak (.fa rfl aJ<|.bH (D.bool a1) rfl rfl bY rfl<|.fa rfl aJ<|.bH (D.bool a3) rfl rfl bY rfl<|.bc kg rfl rfl rfl<|.av rfl<|.nil) rfl ?_;by_cases c5:(a1==a3)=true
 ·replace h:=ab c5 h;refine .bT rfl c5 ?_;obtain⟨v6,e7,h⟩:=bind_some h;obtain⟨⟨v8,v9⟩,e10,h⟩:=bind_some h;refine .cn bP (.fa rfl aJ<|.bH (D.bool a1) rfl rfl bY rfl<|.fa rfl aC<|.bH (ah a2) rfl rfl aH rfl<|.fa rfl aC<|.bH (ah a4) rfl rfl aH rfl<|.af (vn e7) ⟨rfl,rfl,trivial⟩ trivial trivial<|.af (dI e10) ⟨rfl,rfl,trivial⟩ trivial trivial<|.cc ([D.bool v8,ah v9]) rfl rfl rfl ba rfl rfl rfl<|.nil) rfl (by kernel_rfl) ?_;cases h;refine .aF (fun _ _ hb=>hb) rfl (.cons (.agg rfl rfl ba rfl) .nil) (.refl _) trivial trivial
 ·replace h:=ae c5 h;refine .cC rfl c5 ?_;obtain⟨v11,e12,h⟩:=bind_some h;refine .ak (.fa rfl aC<|.bH (ah a2) rfl rfl aH rfl<|.fa rfl aC<|.bH (ah a4) rfl rfl aH rfl<|.af (pc e12) ⟨rfl,rfl,trivial⟩ trivial trivial<|.cm rfl rfl rfl<|.av rfl<|.nil) rfl ?_;by_cases c13:(decide (v11>=0))=true
  ·replace h:=ab c13 h;refine .bT rfl c13 ?_;obtain⟨v14,e15,h⟩:=bind_some h;obtain⟨⟨v16,v17⟩,e18,h⟩:=bind_some h;refine .cn bP (.fa rfl aJ<|.bH (D.bool a1) rfl rfl bY rfl<|.fa rfl aC<|.bH (ah a2) rfl rfl aH rfl<|.fa rfl aC<|.bH (ah a4) rfl rfl aH rfl<|.af (xr e15) ⟨rfl,rfl,trivial⟩ trivial trivial<|.af (dI e18) ⟨rfl,rfl,trivial⟩ trivial trivial<|.cc ([D.bool v16,ah v17]) rfl rfl rfl ba rfl rfl rfl<|.nil) rfl (by kernel_rfl) ?_;cases h;refine .aF (fun _ _ hb=>hb) rfl (.cons (.agg rfl rfl ba rfl) .nil) (.refl _) trivial trivial
  ·replace h:=ae c13 h;refine .cC rfl c13 ?_;refine .skip (Ok.on ?_);obtain⟨v19,e20,h⟩:=bind_some h;obtain⟨⟨v21,v22⟩,e23,h⟩:=bind_some h;refine .cn bP (.fa rfl aJ<|.bH (D.bool a3) rfl rfl bY rfl<|.fa rfl aC<|.bH (ah a4) rfl rfl aH rfl<|.fa rfl aC<|.bH (ah a2) rfl rfl aH rfl<|.af (xr e20) ⟨rfl,rfl,trivial⟩ trivial trivial<|.af (dI e23) ⟨rfl,rfl,trivial⟩ trivial trivial<|.cc ([D.bool v21,ah v22]) rfl rfl rfl ba rfl rfl rfl<|.nil) rfl (by kernel_rfl) ?_;cases h;refine .aF (fun _ _ hb=>hb) rfl (.cons (.agg rfl rfl ba rfl) .nil) (.refl _) trivial trivial
def dt(a1:Bool)(a2:Nat)(a3:Nat):Option (Bool×Nat):=(lz a2 a3).bind fun v4=>(cr a1 v4).bind fun(v6,v7)=>some (v6,v7)
theorem ik{a1:Bool}{a2:Nat}{a3:Nat}{r9:Bool}{r10:Nat}(h:dt a1 a2 a3=some (r9,r10)):bb PP 177 [] [D.agg ([D.bool a1,ah a2]),ah a3] [] (D.agg ([D.bool r9,ah r10])):=by
 unfold dt at h;refine .of Go.Proofs.Tryz.func177 rfl (by kernel_rfl) rfl rfl rfl rfl rfl rfl (fun A w0 L b=>?_);show Ok PP _ [(0,D.agg ([D.bool a1,ah a2])),(1,ah a3)] [] _ _;refine .ak (.iL rfl rfl<|.eZ ([D.bool false,ah 0]) cD ⟨.refl _,aM,trivial⟩ rfl<|.nil) rfl ?_;obtain⟨v4,e5,h⟩:=bind_some h;obtain⟨⟨v6,v7⟩,e8,h⟩:=bind_some h;refine .cn bP (.fa rfl aJ<|.bH (D.bool a1) rfl rfl bY rfl<|.fa rfl aC<|.bH (ah a2) rfl rfl aH rfl<|.mv rfl<|.af (mb e5) ⟨rfl,rfl,trivial⟩ trivial trivial<|.af (dI e8) ⟨rfl,rfl,trivial⟩ trivial trivial<|.cc ([D.bool v6,ah v7]) rfl rfl rfl ba rfl rfl rfl<|.nil) rfl (by kernel_rfl) ?_;cases h;refine .aF (fun _ _ hb=>hb) rfl (.cons (.agg rfl rfl ba rfl) .nil) (.refl _) trivial trivial
def iB(a1:Bool)(a2:Nat)(a3:Bool)(a4:Nat):Option Int:=(if(!(a1==a3))=true then(if a1=true then some (-1)else some 1)else(if a1=true then(om a4 a2).bind fun v8=>some v8 else(om a2 a4).bind fun v10=>some v10))
theorem s7{a1:Bool}{a2:Nat}{a3:Bool}{a4:Nat}{r12:Int}(h:iB a1 a2 a3 a4=some r12):bb PP 178 [] [D.agg ([D.bool a1,ah a2]),D.agg ([D.bool a3,ah a4])] [] (D.int .i64 r12):=by
 unfold iB at h;refine .of Go.Proofs.Tryz.func178 rfl (by kernel_rfl) rfl rfl rfl rfl rfl rfl (fun A w0 L b=>?_);show Ok PP _ [(0,D.agg ([D.bool a1,ah a2])),(1,D.agg ([D.bool a3,ah a4]))] [] _ _;refine .ak (.iL rfl rfl<|.iL rfl rfl<|.av rfl<|.nil) rfl ?_;refine .sq ?_;refine .block ?_;by_cases c5:(!(a1==a3))=true
 ·replace h:=ab c5 h;refine .ak (.fa rfl aJ<|.bH (D.bool a1) rfl rfl bY rfl<|.fa rfl aJ<|.bH (D.bool a3) rfl rfl bY rfl<|.bc kg rfl rfl rfl<|.mv rfl<|.gy c5<|.fa rfl aJ<|.gy c5<|.bH (D.bool a1) rfl rfl bY rfl<|.an rfl c5 rfl<|.av rfl<|.nil) rfl ?_;by_cases c6:a1=true
  ·replace h:=ab c6 h;refine .bT rfl c6 ?_;refine .ak (.av rfl<|.nil) rfl ?_;cases h;refine .aF (fun _ _ hb=>hb) rfl (.t1 (.tmp rfl)) (.refl _) trivial trivial
  ·replace h:=ae c6 h;refine .cC rfl c6 ?_;refine .ak (.fa rfl aJ<|.bH (D.bool a1) rfl rfl bY rfl<|.fa rfl aJ<|.bH (D.bool a3) rfl rfl bY rfl<|.bc kg rfl rfl rfl<|.av rfl<|.nil) rfl ?_;refine .bT rfl c5 ?_;refine .ak (.av rfl<|.nil) rfl ?_;cases h;refine .aF (fun _ _ hb=>hb) rfl (.t1 (.tmp rfl)) (.refl _) trivial trivial
 ·replace h:=ae c5 h;refine .ak (.fa rfl aJ<|.bH (D.bool a1) rfl rfl bY rfl<|.fa rfl aJ<|.bH (D.bool a3) rfl rfl bY rfl<|.bc kg rfl rfl rfl<|.mv rfl<|.gm c5<|.gm c5<|.al rfl c5 rfl<|.av rfl<|.nil) rfl ?_;refine .cC rfl (by decide) ?_;refine .ak (.fa rfl aJ<|.bH (D.bool a1) rfl rfl bY rfl<|.fa rfl aJ<|.bH (D.bool a3) rfl rfl bY rfl<|.bc kg rfl rfl rfl<|.av rfl<|.nil) rfl ?_;refine .cC rfl c5 ?_;refine .ak (.fa rfl aJ<|.bH (D.bool a1) rfl rfl bY rfl<|.av rfl<|.nil) rfl ?_;by_cases c7:a1=true
  ·replace h:=ab c7 h;refine .bT rfl c7 ?_;obtain⟨v8,e9,h⟩:=bind_some h;refine .ak (.fa rfl aC<|.bH (ah a4) rfl rfl aH rfl<|.fa rfl aC<|.bH (ah a2) rfl rfl aH rfl<|.af (pc e9) ⟨rfl,rfl,trivial⟩ trivial trivial<|.av rfl<|.nil) rfl ?_;cases h;refine .aF (fun _ _ hb=>hb) rfl (.t1 (.tmp rfl)) (.refl _) trivial trivial
  ·replace h:=ae c7 h;refine .cC rfl c7 ?_;refine .skip (Ok.on ?_);obtain⟨v10,e11,h⟩:=bind_some h;refine .ak (.fa rfl aC<|.bH (ah a2) rfl rfl aH rfl<|.fa rfl aC<|.bH (ah a4) rfl rfl aH rfl<|.af (pc e11) ⟨rfl,rfl,trivial⟩ trivial trivial<|.av rfl<|.nil) rfl ?_;cases h;refine .aF (fun _ _ hb=>hb) rfl (.t1 (.tmp rfl)) (.refl _) trivial trivial
def fN(a1:Bool)(a2:Nat)(a3:Nat):Option (Bool×Nat):=(ji a2 a3).bind fun(v4,v5)=>((if a1=true then(if(decide (((aD v5).length:Int)>0))=true then(jJ 1).bind fun v11=>(qT v4 v11).bind fun v13=>some (v13)else some (v4))else some (v4))).bind fun v15=>(cr a1 v15).bind fun(v16,v17)=>some (v16,v17)
theorem qG{a1:Bool}{a2:Nat}{a3:Nat}{r19:Bool}{r20:Nat}(h:fN a1 a2 a3=some (r19,r20)):bb PP 188 [] [D.agg ([D.bool a1,ah a2]),ah a3] [] (D.agg ([D.bool r19,ah r20])):=by
 unfold fN at h;refine .of Go.Proofs.Tryz.func188 rfl (by kernel_rfl) rfl rfl rfl rfl rfl rfl (fun A w0 L b=>?_);show Ok PP _ [(0,D.agg ([D.bool a1,ah a2])),(1,ah a3)] [] _ _;refine .ak (.iL rfl rfl<|.eZ ([D.bool false,ah 0]) cD ⟨.refl _,aM,trivial⟩ rfl<|.nil) rfl ?_;obtain⟨⟨v4,v5⟩,e6,h⟩:=bind_some h;refine .ak (.fa rfl aC<|.bH (ah a2) rfl rfl aH rfl<|.mv rfl<|.af (ow e6) ⟨rfl,rfl,trivial⟩ trivial trivial<|.mv rfl<|.ext rfl rfl<|.ext rfl rfl<|.av rfl<|.av rfl<|.nil) rfl ?_;obtain⟨v15,hp8,h⟩:=bind_some h;refine .du (fun i=>v15=i) (fun(i:Nat)=>[(2,D.ref 2 0),(4,D.ref 4 0),(5,ah i)]) (fun(i:Nat)=>[(2,Hp.box 26 ([D.bool a1,ah a2])),(4,Hp.box 26 ([D.bool false,ah 0]))]) ?_ ?_
 ·have ho1:=h;have h:=hp8;by_cases c9:a1=true
  ·replace h:=ab c9 h;refine .ak (.fa rfl aJ<|.bH (D.bool a1) rfl rfl bY rfl<|.mv rfl<|.gy c9<|.mv rfl<|.gy c9<|.qF rfl au<|.gy c9<|.cm rfl rfl rfl<|.an rfl c9 rfl<|.nil) rfl ?_;by_cases c10:(decide (((aD v5).length:Int)>0))=true
   ·replace h:=ab c10 h;refine .bT rfl c10 ?_;obtain⟨v11,e12,h⟩:=bind_some h;obtain⟨v13,e14,h⟩:=bind_some h;refine .region (.mv rfl<|.af (oF e12) ⟨rfl,trivial⟩ trivial trivial<|.af (vn e14) ⟨rfl,rfl,trivial⟩ trivial trivial<|.av rfl<|.nil) rfl (fun _ _ hs=>⟨v13,(sj h),hs.sub (.of rfl) (.of rfl) rfl rfl⟩)
   ·replace h:=ae c10 h;refine .cC rfl c10 ?_;refine .skip (fun _ _ hs=>⟨v4,(sj h),hs.sub (.of rfl) (.of rfl) rfl rfl⟩)
  ·replace h:=ae c9 h;refine .ak (.fa rfl aJ<|.bH (D.bool a1) rfl rfl bY rfl<|.mv rfl<|.gm c9<|.gm c9<|.gm c9<|.al rfl c9 rfl<|.nil) rfl ?_;refine .cC rfl (by decide) ?_;refine .skip (fun _ _ hs=>⟨v4,(sj h),hs.sub (.of rfl) (.of rfl) rfl rfl⟩)
 ·rintro _ rfl
  try dsimp only
  obtain⟨⟨v16,v17⟩,e18,h⟩:=bind_some h;refine .ak (.fa rfl aJ<|.bH (D.bool a1) rfl rfl bY rfl<|.mv rfl<|.af (dI e18) ⟨rfl,rfl,trivial⟩ trivial trivial<|.cc ([D.bool v16,ah v17]) rfl rfl rfl ba rfl rfl rfl<|.nil) rfl ?_;cases h;refine .aF (fun _ _ hb=>hb) rfl (.cons (.agg rfl rfl ba rfl) .nil) (.refl _) trivial trivial
def dp(a1:Bool)(a2:Nat)(a3:Nat):Option Nat:=(jJ 1).bind fun v4=>(qT a3 v4).bind fun v6=>some v6
theorem eG{a1:Bool}{a2:Nat}{a3:Nat}{r8:Nat}(h:dp a1 a2 a3=some r8):bb PP 168 [] [D.agg ([D.bool a1,ah a2,ah a3])] [] (ah r8):=by
 unfold dp at h;refine .of Go.Proofs.Tryz.func168 rfl (by kernel_rfl) rfl rfl rfl rfl rfl rfl (fun A w0 L b=>?_);show Ok PP _ [(0,D.agg ([D.bool a1,ah a2,ah a3]))] [] _ _;refine .ak (.iL rfl rfl<|.av rfl<|.nil) rfl ?_;obtain⟨v4,e5,h⟩:=bind_some h;obtain⟨v6,e7,h⟩:=bind_some h;refine .cn bP (.fa rfl fW<|.bH (ah a3) rfl rfl aH rfl<|.af (oF e5) ⟨rfl,trivial⟩ trivial trivial<|.af (vn e7) ⟨rfl,rfl,trivial⟩ trivial trivial<|.av rfl<|.nil) rfl (by kernel_rfl) ?_;cases h;refine .aF (fun _ _ hb=>hb) rfl (.t1 (.tmp rfl)) (.refl _) trivial trivial
def dD(a1:Bool)(a2:Nat)(a3:Nat):Option ((Bool×Nat)×Nat):=((yq a2 a3).bind fun v6=>(if(((aD v6).length:Int) !=1)=true then(ji a2 v6).bind fun(v9,v10)=>(ji a3 v6).bind fun(v12,v13)=>some ((v12,v9))else(ix (aD v6) 0).bind fun v15=>(if((v15:Int) !=1)=true then(ji a2 v6).bind fun(v18,v19)=>(ji a3 v6).bind fun(v21,v22)=>some ((v21,v18))else some ((a3,a2))))).bind fun(v24,v25)=>(cr a1 v25).bind fun(v26,v27)=>(jJ 1).bind fun v29=>(tI v24 v29).bind fun v31=>some ((v26,v27),v31)
theorem jq{a1:Bool}{a2:Nat}{a3:Nat}{r33:Bool}{r34:Nat}{r35:Nat}(h:dD a1 a2 a3=some ((r33,r34),r35)):bb PP 151 [] [D.agg ([D.bool a1,ah a2]),ah a3] [] (D.agg ([D.bool r33,ah r34,ah r35])):=by
 unfold dD at h;refine .of Go.Proofs.Tryz.func151 rfl (by kernel_rfl) rfl rfl rfl rfl rfl rfl (fun A w0 L b=>?_);show Ok PP _ [(0,D.agg ([D.bool a1,ah a2])),(1,ah a3)] [] _ _;refine .ak (.iL rfl rfl<|.eZ ([D.bool false,ah 0,ah 0]) ay ⟨.refl _,aM,aM,trivial⟩ rfl<|.nil) rfl ?_;obtain⟨o4,hp5,h⟩:=bind_some h;refine .du (fun i=>o4=i) (fun(i:Nat×Nat)=>[(1,ah i.1),(2,D.ref 2 0),(4,D.ref 4 0)]) (fun(i:Nat×Nat)=>[(2,Hp.box 26 ([D.bool a1,ah i.2])),(4,Hp.box 28 ([D.bool false,ah 0,ah 0]))]) ?_ ?_
 ·have ho1:=h;have h:=hp5;obtain⟨v6,e7,h⟩:=bind_some h;refine .ak (.fa rfl aC<|.bH (ah a2) rfl rfl aH rfl<|.mv rfl<|.af (Bt e7) ⟨rfl,rfl,trivial⟩ trivial trivial<|.av rfl<|.nil) rfl ?_;by_cases c8:(((aD v6).length:Int) !=1)=true
  ·replace h:=ab c8 h;refine .ak (.mv rfl<|.qF rfl au<|.cm rfl rfl rfl<|.mv rfl<|.gk c8<|.gk c8<|.gk c8<|.gk c8<|.an rfl c8 rfl<|.nil) rfl ?_;refine .bT rfl rfl ?_;obtain⟨⟨v9,v10⟩,e11,h⟩:=bind_some h;refine .ak (.fa rfl aC<|.bH (ah a2) rfl rfl aH rfl<|.mv rfl<|.af (ow e11) ⟨rfl,rfl,trivial⟩ trivial trivial<|.mv rfl<|.ext rfl rfl<|.ext rfl rfl<|.fa rfl aC<|.zR ([D.bool a1,ah v9]) rfl rfl rfl aH rfl rfl rfl<|.nil) rfl ?_;obtain⟨⟨v12,v13⟩,e14,h⟩:=bind_some h;refine .region (.mv rfl<|.mv rfl<|.af (ow e14) ⟨rfl,rfl,trivial⟩ trivial trivial<|.mv rfl<|.ext rfl rfl<|.ext rfl rfl<|.av rfl<|.nil) rfl (fun _ _ hs=>⟨(v12,v9),(sj h),hs.sub (.of rfl) (.of rfl) rfl rfl⟩)
  ·replace h:=ae c8 h;obtain⟨v15,e16,h⟩:=bind_some h;refine .ak (.mv rfl<|.qF rfl au<|.cm rfl rfl rfl<|.mv rfl<|.gz c8<|.mv rfl<|.gz c8<|.CC rfl rfl az e16<|.gz c8<|.iu rfl aQ<|.gz c8<|.cm rfl rfl rfl<|.al rfl c8 rfl<|.nil) rfl ?_;by_cases c17:((v15:Int) !=1)=true
   ·replace h:=ab c17 h;refine .bT rfl c17 ?_;obtain⟨⟨v18,v19⟩,e20,h⟩:=bind_some h;refine .ak (.fa rfl aC<|.bH (ah a2) rfl rfl aH rfl<|.mv rfl<|.af (ow e20) ⟨rfl,rfl,trivial⟩ trivial trivial<|.mv rfl<|.ext rfl rfl<|.ext rfl rfl<|.fa rfl aC<|.zR ([D.bool a1,ah v18]) rfl rfl rfl aH rfl rfl rfl<|.nil) rfl ?_;obtain⟨⟨v21,v22⟩,e23,h⟩:=bind_some h;refine .region (.mv rfl<|.mv rfl<|.af (ow e23) ⟨rfl,rfl,trivial⟩ trivial trivial<|.mv rfl<|.ext rfl rfl<|.ext rfl rfl<|.av rfl<|.nil) rfl (fun _ _ hs=>⟨(v21,v18),(sj h),hs.sub (.of rfl) (.of rfl) rfl rfl⟩)
   ·replace h:=ae c17 h;refine .cC rfl c17 ?_;refine .skip (fun _ _ hs=>⟨(a3,a2),(sj h),hs.sub (.of rfl) (.of rfl) rfl rfl⟩)
 ·rintro⟨v24,v25⟩ rfl
  try dsimp only
  obtain⟨⟨v26,v27⟩,e28,h⟩:=bind_some h;obtain⟨v29,e30,h⟩:=bind_some h;obtain⟨v31,e32,h⟩:=bind_some h;refine .ak (.fa rfl aJ<|.bH (D.bool a1) rfl rfl bY rfl<|.fa rfl aC<|.bH (ah v25) rfl rfl aH rfl<|.af (dI e28) ⟨rfl,rfl,trivial⟩ trivial trivial<|.mv rfl<|.af (oF e30) ⟨rfl,trivial⟩ trivial trivial<|.af (xr e32) ⟨rfl,rfl,trivial⟩ trivial trivial<|.jb ([D.bool v26,ah v27,ah v31]) [(0,_,D.agg ([D.bool v26,ah v27]),[D.bool v26,ah v27]),(2,_,ah v31,[ah v31])] ay bw ⟨rfl,rfl,.agg _,rfl,rfl,rfl,.one rfl,rfl,trivial⟩ ⟨rfl,rfl,trivial⟩ ⟨.refl _,.refl _,.refl _,trivial⟩<|.cc ([D.bool v26,ah v27,ah v31]) rfl rfl rfl aa rfl rfl rfl<|.nil) rfl ?_;cases h;refine .aF (fun _ _ hb=>hb) rfl (.cons (.agg rfl rfl aa rfl) .nil) (.refl _) trivial trivial
def qe(a1:Bool)(a2:Nat):Option ((Bool×Nat)×Nat):=some ((a1,a2),0)
theorem wk{a1:Bool}{a2:Nat}{r3:Bool}{r4:Nat}{r5:Nat}(h:qe a1 a2=some ((r3,r4),r5)):bb PP 169 [] [D.agg ([D.bool a1,ah a2])] [] (D.agg ([D.bool r3,ah r4,ah r5])):=by
 unfold qe at h;refine .of Go.Proofs.Tryz.func169 rfl (by kernel_rfl) rfl rfl rfl rfl rfl rfl (fun A w0 L b=>?_);show Ok PP _ [(0,D.agg ([D.bool a1,ah a2]))] [] _ _;refine .ak (.iL rfl rfl<|.eZ ([D.bool false,ah 0,ah 0]) ay ⟨.refl _,aM,aM,trivial⟩ rfl<|.nil) rfl ?_;refine .ak (.bg ([D.bool a1,ah a2]) rfl rfl ba rfl rfl<|.jb ([D.bool a1,ah a2,ah 0]) [(0,_,D.agg ([D.bool a1,ah a2]),[D.bool a1,ah a2])] ay bw ⟨rfl,rfl,.agg _,rfl,trivial⟩ ⟨rfl,trivial⟩ ⟨.refl _,.refl _,aM,trivial⟩<|.cc ([D.bool a1,ah a2,ah 0]) rfl rfl rfl aa rfl rfl rfl<|.nil) rfl ?_;cases h;refine .aF (fun _ _ hb=>hb) rfl (.cons (.agg rfl rfl aa rfl) .nil) (.refl _) trivial trivial
def iy(a1:Int):Option Nat:=(if(decide (a1<0))=true then(jJ (IntKind.u64.wrap (0-(IntKind.u64.wrap a1)))).bind fun v3=>some v3 else(jJ (IntKind.u64.wrap a1)).bind fun v5=>some v5)
theorem tq{a1:Int}{r7:Nat}(h:iy a1=some r7):bb PP 179 [] [D.int .i64 a1] [] (ah r7):=by
 unfold iy at h;refine .of Go.Proofs.Tryz.func179 rfl (by kernel_rfl) rfl rfl rfl rfl rfl rfl (fun A w0 L b=>?_);show Ok PP _ [(0,D.int .i64 a1)] [] _ _;refine .ak (.av rfl<|.nil) rfl ?_;refine .sq ?_;refine .ak (.mv rfl<|.cm rfl rfl rfl<|.nil) rfl ?_;by_cases c2:(decide (a1<0))=true
 ·replace h:=ab c2 h;refine .bT rfl c2 ?_;obtain⟨v3,e4,h⟩:=bind_some h;refine .ak (.mv rfl<|.cv rfl ku rfl<|.neg rfl rfl<|.af (oF e4) ⟨rfl,trivial⟩ trivial trivial<|.av rfl<|.nil) rfl ?_;cases h;refine .aF (fun _ _ hb=>hb) rfl (.t1 (.tmp rfl)) (.refl _) trivial trivial
 ·replace h:=ae c2 h;refine .cC rfl c2 ?_;refine .skip (Ok.on ?_);obtain⟨v5,e6,h⟩:=bind_some h;refine .ak (.mv rfl<|.cv rfl ku rfl<|.af (oF e6) ⟨rfl,trivial⟩ trivial trivial<|.av rfl<|.nil) rfl ?_;cases h;refine .aF (fun _ _ hb=>hb) rfl (.t1 (.tmp rfl)) (.refl _) trivial trivial
def ti(a1:Int):Option ((Bool×Nat)×Nat):=(iy a1).bind fun v2=>(cr (decide (a1<0)) v2).bind fun(v4,v5)=>(qe v4 v5).bind fun((v7,v8),v9)=>some ((v7,v8),v9)
theorem Aa{a1:Int}{r11:Bool}{r12:Nat}{r13:Nat}(h:ti a1=some ((r11,r12),r13)):bb PP 40 [] [D.int .i64 a1] [] (D.agg ([D.bool r11,ah r12,ah r13])):=by
 unfold ti at h;refine .of Go.Proofs.Tryz.func40 rfl (by kernel_rfl) rfl rfl rfl rfl rfl rfl (fun A w0 L b=>?_);show Ok PP _ [(0,D.int .i64 a1)] [] _ _;refine .ak (.eZ ([D.bool false,ah 0,ah 0]) ay ⟨.refl _,aM,aM,trivial⟩ rfl<|.nil) rfl ?_;obtain⟨v2,e3,h⟩:=bind_some h;obtain⟨⟨v4,v5⟩,e6,h⟩:=bind_some h;obtain⟨⟨⟨v7,v8⟩,v9⟩,e10,h⟩:=bind_some h;refine .ak (.mv rfl<|.cm rfl rfl rfl<|.mv rfl<|.af (tq e3) ⟨rfl,trivial⟩ trivial trivial<|.af (dI e6) ⟨rfl,rfl,trivial⟩ trivial trivial<|.af (wk e10) ⟨rfl,trivial⟩ trivial trivial<|.cc ([D.bool v7,ah v8,ah v9]) rfl rfl rfl aa rfl rfl rfl<|.nil) rfl ?_;cases h;refine .aF (fun _ _ hb=>hb) rfl (.cons (.agg rfl rfl aa rfl) .nil) (.refl _) trivial trivial
def m4(a1:Bool)(a2:Nat)(a3:Nat):Option (List UInt8):=(uU a2).bind fun v4=>((if a1=true then bC (([45]:List UInt8).length+v4.length<=9223372036854775807) (some ((([45]:List UInt8)++v4)))else some (v4))).bind fun v10=>((if(decide (((aD a3).length:Int)>0))=true then(dp a1 a2 a3).bind fun v14=>(uU v14).bind fun v16=>bC (([47]:List UInt8).length+v16.length<=9223372036854775807) (bC (v10.length+(([47]:List UInt8)++v16).length<=9223372036854775807) (some ((v10++(([47]:List UInt8)++v16)))))else some (v10))).bind fun v20=>some v20
theorem x7{a1:Bool}{a2:Nat}{a3:Nat}{r21:List UInt8}(h:m4 a1 a2 a3=some r21):bb PP 33 [] [D.agg ([D.bool a1,ah a2,ah a3])] [] (b_ r21):=by
 unfold m4 at h;refine .of Go.Proofs.Tryz.func33 rfl (by kernel_rfl) rfl rfl rfl rfl rfl rfl (fun A w0 L b=>?_);show Ok PP _ [(0,D.agg ([D.bool a1,ah a2,ah a3]))] [] _ _;refine .ak (.iL rfl rfl<|.av rfl<|.nil) rfl ?_;obtain⟨v4,e5,h⟩:=bind_some h;refine .ak (.fa rfl aU<|.fa rfl aC<|.bH (ah a2) rfl rfl aH rfl<|.af (Ac e5) ⟨rfl,trivial⟩ trivial trivial<|.av rfl<|.nil) rfl ?_;obtain⟨v10,hp7,h⟩:=bind_some h;refine .du (fun i=>v10=i) (fun(i:(List UInt8))=>[(1,D.ref 1 0),(3,b_ i)]) (fun(i:(List UInt8))=>[(1,Hp.box 28 ([D.bool a1,ah a2,ah a3]))]) ?_ ?_
 ·have ho1:=h;have h:=hp7;refine .ak (.fa rfl aU<|.fa rfl aJ<|.bH (D.bool a1) rfl rfl bY rfl<|.nil) rfl ?_;by_cases c8:a1=true
  ·replace h:=ab c8 h;refine .bT rfl c8 ?_;obtain⟨k9,h⟩:=aG h;refine .region (.mv rfl<|.zC rfl rfl k9<|.av rfl<|.nil) rfl (fun _ _ hs=>⟨(([45]:List UInt8)++v4),(sj h),hs.sub (.of rfl) (.of rfl) rfl rfl⟩)
  ·replace h:=ae c8 h;refine .cC rfl c8 ?_;refine .skip (fun _ _ hs=>⟨v4,(sj h),hs.sub (.of rfl) (.of rfl) rfl rfl⟩)
 ·rintro _ rfl
  try dsimp only
  obtain⟨v20,hp12,h⟩:=bind_some h;refine .du (fun i=>v20=i) (fun(i:(List UInt8))=>[(3,b_ i)]) (fun(i:(List UInt8))=>[]) ?_ ?_
  ·have ho1:=h;have h:=hp12;refine .ak (.fa rfl fW<|.bH (ah a3) rfl rfl aH rfl<|.qF rfl au<|.cm rfl rfl rfl<|.nil) rfl ?_;by_cases c13:(decide (((aD a3).length:Int)>0))=true
   ·replace h:=ab c13 h;refine .bT rfl c13 ?_;obtain⟨v14,e15,h⟩:=bind_some h;obtain⟨v16,e17,h⟩:=bind_some h;obtain⟨k18,h⟩:=aG h;obtain⟨k19,h⟩:=aG h;refine .region (.mv rfl<|.bg ([D.bool a1,ah a2,ah a3]) rfl rfl aa rfl rfl<|.af (eG e15) ⟨rfl,trivial⟩ trivial trivial<|.af (Ac e17) ⟨rfl,trivial⟩ trivial trivial<|.zC rfl rfl k18<|.zC rfl rfl k19<|.av rfl<|.nil) rfl (fun _ _ hs=>⟨(v10++(([47]:List UInt8)++v16)),(sj h),hs.sub (.of rfl) trivial rfl rfl⟩)
   ·replace h:=ae c13 h;refine .cC rfl c13 ?_;refine .skip (fun _ _ hs=>⟨v10,(sj h),hs.sub (.of rfl) trivial rfl rfl⟩)
  ·rintro _ rfl
   try dsimp only
   refine .ak (.mv rfl<|.av rfl<|.nil) rfl ?_;cases h;refine .aF (fun _ _ hb=>hb) rfl (.t1 (.tmp rfl)) (.refl _) trivial trivial
def lP(a1:Bool)(a2:Nat)(a3:Nat)(a4:Bool)(a5:Nat)(a6:Nat):Option ((Bool×Nat)×Nat):=(dp a1 a2 a3).bind fun v7=>(dp a4 a5 a6).bind fun v9=>(dt a1 a2 v9).bind fun(v11,v12)=>(dt a4 a5 v7).bind fun(v14,v15)=>(iG v11 v12 v14 v15).bind fun(v17,v18)=>(lz v7 v9).bind fun v20=>(dD v17 v18 v20).bind fun((v22,v23),v24)=>some ((v22,v23),v24)
theorem rO{a1:Bool}{a2:Nat}{a3:Nat}{a4:Bool}{a5:Nat}{a6:Nat}{r26:Bool}{r27:Nat}{r28:Nat}(h:lP a1 a2 a3 a4 a5 a6=some ((r26,r27),r28)):bb PP 42 [] [D.agg ([D.bool a1,ah a2,ah a3]),D.agg ([D.bool a4,ah a5,ah a6])] [] (D.agg ([D.bool r26,ah r27,ah r28])):=by
 unfold lP at h;refine .of Go.Proofs.Tryz.func42 rfl (by kernel_rfl) rfl rfl rfl rfl rfl rfl (fun A w0 L b=>?_);show Ok PP _ [(0,D.agg ([D.bool a1,ah a2,ah a3])),(1,D.agg ([D.bool a4,ah a5,ah a6]))] [] _ _;refine .ak (.iL rfl rfl<|.iL rfl rfl<|.eZ ([D.bool false,ah 0,ah 0]) ay ⟨.refl _,aM,aM,trivial⟩ rfl<|.nil) rfl ?_;obtain⟨v7,e8,h⟩:=bind_some h;obtain⟨v9,e10,h⟩:=bind_some h;refine .cn bP (.bg ([D.bool a1,ah a2,ah a3]) rfl rfl aa rfl rfl<|.af (eG e8) ⟨rfl,trivial⟩ trivial trivial<|.bg ([D.bool a4,ah a5,ah a6]) rfl rfl aa rfl rfl<|.af (eG e10) ⟨rfl,trivial⟩ trivial trivial<|.av rfl<|.av rfl<|.nil) rfl (by kernel_rfl) ?_;obtain⟨⟨v11,v12⟩,e13,h⟩:=bind_some h;obtain⟨⟨v14,v15⟩,e16,h⟩:=bind_some h;obtain⟨⟨v17,v18⟩,e19,h⟩:=bind_some h;obtain⟨v20,e21,h⟩:=bind_some h;obtain⟨⟨⟨v22,v23⟩,v24⟩,e25,h⟩:=bind_some h;refine .cn bP (.fa rfl aU<|.bg ([D.bool a1,ah a2]) rfl rfl ba rfl rfl<|.mv rfl<|.af (ik e13) ⟨rfl,rfl,trivial⟩ trivial trivial<|.fa rfl aU<|.bg ([D.bool a4,ah a5]) rfl rfl ba rfl rfl<|.mv rfl<|.af (ik e16) ⟨rfl,rfl,trivial⟩ trivial trivial<|.af (tv e19) ⟨rfl,rfl,trivial⟩ trivial trivial<|.mv rfl<|.mv rfl<|.af (mb e21) ⟨rfl,rfl,trivial⟩ trivial trivial<|.af (jq e25) ⟨rfl,rfl,trivial⟩ trivial trivial<|.cc ([D.bool v22,ah v23,ah v24]) rfl rfl rfl aa rfl rfl rfl<|.nil) rfl (by kernel_rfl) ?_;cases h;refine .aF (fun _ _ hb=>hb) rfl (.cons (.agg rfl rfl aa rfl) .nil) (.refl _) trivial trivial
def kk(a1:Bool)(a2:Nat)(a3:Nat):Option ((Bool×Nat)×Nat):=(cr (!a1) a2).bind fun(v4,v5)=>some ((v4,v5),a3)
theorem oU{a1:Bool}{a2:Nat}{a3:Nat}{r7:Bool}{r8:Nat}{r9:Nat}(h:kk a1 a2 a3=some ((r7,r8),r9)):bb PP 48 [] [D.agg ([D.bool a1,ah a2,ah a3])] [] (D.agg ([D.bool r7,ah r8,ah r9])):=by
 unfold kk at h;refine .of Go.Proofs.Tryz.func48 rfl (by kernel_rfl) rfl rfl rfl rfl rfl rfl (fun A w0 L b=>?_);show Ok PP _ [(0,D.agg ([D.bool a1,ah a2,ah a3]))] [] _ _;refine .ak (.iL rfl rfl<|.eZ ([D.bool false,ah 0,ah 0]) ay ⟨.refl _,aM,aM,trivial⟩ rfl<|.nil) rfl ?_;obtain⟨⟨v4,v5⟩,e6,h⟩:=bind_some h;refine .cn bP (.fa rfl aU<|.fa rfl aJ<|.bH (D.bool a1) rfl rfl bY rfl<|.not rfl<|.fa rfl aU<|.fa rfl aC<|.bH (ah a2) rfl rfl aH rfl<|.af (dI e6) ⟨rfl,rfl,trivial⟩ trivial trivial<|.fa rfl fW<|.bH (ah a3) rfl rfl aH rfl<|.jb ([D.bool v4,ah v5,ah a3]) [(0,_,D.agg ([D.bool v4,ah v5]),[D.bool v4,ah v5]),(2,_,ah a3,[ah a3])] ay bw ⟨rfl,rfl,.agg _,rfl,rfl,rfl,.one rfl,rfl,trivial⟩ ⟨rfl,rfl,trivial⟩ ⟨.refl _,.refl _,.refl _,trivial⟩<|.cc ([D.bool v4,ah v5,ah a3]) rfl rfl rfl aa rfl rfl rfl<|.nil) rfl (by kernel_rfl) ?_;cases h;refine .aF (fun _ _ hb=>hb) rfl (.cons (.agg rfl rfl aa rfl) .nil) (.refl _) trivial trivial
def lQ(a1:Bool)(a2:Nat)(a3:Nat)(a4:Bool)(a5:Nat)(a6:Nat):Option ((Bool×Nat)×Nat):=(kk a4 a5 a6).bind fun((v7,v8),v9)=>(lP a1 a2 a3 v7 v8 v9).bind fun((v11,v12),v13)=>some ((v11,v12),v13)
theorem mL{a1:Bool}{a2:Nat}{a3:Nat}{a4:Bool}{a5:Nat}{a6:Nat}{r15:Bool}{r16:Nat}{r17:Nat}(h:lQ a1 a2 a3 a4 a5 a6=some ((r15,r16),r17)):bb PP 44 [] [D.agg ([D.bool a1,ah a2,ah a3]),D.agg ([D.bool a4,ah a5,ah a6])] [] (D.agg ([D.bool r15,ah r16,ah r17])):=by
 unfold lQ at h;refine .of Go.Proofs.Tryz.func44 rfl (by kernel_rfl) rfl rfl rfl rfl rfl rfl (fun A w0 L b=>?_);show Ok PP _ [(0,D.agg ([D.bool a1,ah a2,ah a3])),(1,D.agg ([D.bool a4,ah a5,ah a6]))] [] _ _;refine .ak (.iL rfl rfl<|.iL rfl rfl<|.eZ ([D.bool false,ah 0,ah 0]) ay ⟨.refl _,aM,aM,trivial⟩ rfl<|.nil) rfl ?_;obtain⟨⟨⟨v7,v8⟩,v9⟩,e10,h⟩:=bind_some h;obtain⟨⟨⟨v11,v12⟩,v13⟩,e14,h⟩:=bind_some h;refine .cn bP (.bg ([D.bool a1,ah a2,ah a3]) rfl rfl aa rfl rfl<|.bg ([D.bool a4,ah a5,ah a6]) rfl rfl aa rfl rfl<|.af (oU e10) ⟨rfl,trivial⟩ trivial trivial<|.af (rO e14) ⟨rfl,rfl,trivial⟩ trivial trivial<|.cc ([D.bool v11,ah v12,ah v13]) rfl rfl rfl aa rfl rfl rfl<|.nil) rfl (by kernel_rfl) ?_;cases h;refine .aF (fun _ _ hb=>hb) rfl (.cons (.agg rfl rfl aa rfl) .nil) (.refl _) trivial trivial
def oN(a1:Bool)(a2:Nat)(a3:Nat)(a4:Bool)(a5:Nat)(a6:Nat):Option ((Bool×Nat)×Nat):=(lz a2 a5).bind fun v7=>(cr (!(a1==a4)) v7).bind fun(v9,v10)=>(dp a1 a2 a3).bind fun v12=>(dp a4 a5 a6).bind fun v14=>(lz v12 v14).bind fun v16=>(dD v9 v10 v16).bind fun((v18,v19),v20)=>some ((v18,v19),v20)
theorem zc{a1:Bool}{a2:Nat}{a3:Nat}{a4:Bool}{a5:Nat}{a6:Nat}{r22:Bool}{r23:Nat}{r24:Nat}(h:oN a1 a2 a3 a4 a5 a6=some ((r22,r23),r24)):bb PP 46 [] [D.agg ([D.bool a1,ah a2,ah a3]),D.agg ([D.bool a4,ah a5,ah a6])] [] (D.agg ([D.bool r22,ah r23,ah r24])):=by
 unfold oN at h;refine .of Go.Proofs.Tryz.func46 rfl (by kernel_rfl) rfl rfl rfl rfl rfl rfl (fun A w0 L b=>?_);show Ok PP _ [(0,D.agg ([D.bool a1,ah a2,ah a3])),(1,D.agg ([D.bool a4,ah a5,ah a6]))] [] _ _;refine .ak (.iL rfl rfl<|.iL rfl rfl<|.eZ ([D.bool false,ah 0,ah 0]) ay ⟨.refl _,aM,aM,trivial⟩ rfl<|.nil) rfl ?_;obtain⟨v7,e8,h⟩:=bind_some h;obtain⟨⟨v9,v10⟩,e11,h⟩:=bind_some h;obtain⟨v12,e13,h⟩:=bind_some h;obtain⟨v14,e15,h⟩:=bind_some h;obtain⟨v16,e17,h⟩:=bind_some h;obtain⟨⟨⟨v18,v19⟩,v20⟩,e21,h⟩:=bind_some h;refine .cn bP (.fa rfl aU<|.fa rfl aJ<|.bH (D.bool a1) rfl rfl bY rfl<|.fa rfl aU<|.fa rfl aJ<|.bH (D.bool a4) rfl rfl bY rfl<|.bc kg rfl rfl rfl<|.fa rfl aU<|.fa rfl aC<|.bH (ah a2) rfl rfl aH rfl<|.fa rfl aU<|.fa rfl aC<|.bH (ah a5) rfl rfl aH rfl<|.af (mb e8) ⟨rfl,rfl,trivial⟩ trivial trivial<|.af (dI e11) ⟨rfl,rfl,trivial⟩ trivial trivial<|.bg ([D.bool a1,ah a2,ah a3]) rfl rfl aa rfl rfl<|.af (eG e13) ⟨rfl,trivial⟩ trivial trivial<|.bg ([D.bool a4,ah a5,ah a6]) rfl rfl aa rfl rfl<|.af (eG e15) ⟨rfl,trivial⟩ trivial trivial<|.af (mb e17) ⟨rfl,rfl,trivial⟩ trivial trivial<|.af (jq e21) ⟨rfl,rfl,trivial⟩ trivial trivial<|.cc ([D.bool v18,ah v19,ah v20]) rfl rfl rfl aa rfl rfl rfl<|.nil) rfl (by kernel_rfl) ?_;cases h;refine .aF (fun _ _ hb=>hb) rfl (.cons (.agg rfl rfl aa rfl) .nil) (.refl _) trivial trivial
def jn(a1:Bool)(a2:Nat)(a3:Nat)(a4:Bool)(a5:Nat)(a6:Nat):Option ((Bool×Nat)×Nat):=(dp a4 a5 a6).bind fun v7=>(lz a2 v7).bind fun v9=>(cr (!(a1==a4)) v9).bind fun(v11,v12)=>(dp a1 a2 a3).bind fun v14=>(lz v14 a5).bind fun v16=>(dD v11 v12 v16).bind fun((v18,v19),v20)=>some ((v18,v19),v20)
theorem qv{a1:Bool}{a2:Nat}{a3:Nat}{a4:Bool}{a5:Nat}{a6:Nat}{r22:Bool}{r23:Nat}{r24:Nat}(h:jn a1 a2 a3 a4 a5 a6=some ((r22,r23),r24)):bb PP 164 [] [D.agg ([D.bool a1,ah a2,ah a3]),D.agg ([D.bool a4,ah a5,ah a6])] [] (D.agg ([D.bool r22,ah r23,ah r24])):=by
 unfold jn at h;refine .of Go.Proofs.Tryz.func164 rfl (by kernel_rfl) rfl rfl rfl rfl rfl rfl (fun A w0 L b=>?_);show Ok PP _ [(0,D.agg ([D.bool a1,ah a2,ah a3])),(1,D.agg ([D.bool a4,ah a5,ah a6]))] [] _ _;refine .ak (.iL rfl rfl<|.iL rfl rfl<|.eZ ([D.bool false,ah 0,ah 0]) ay ⟨.refl _,aM,aM,trivial⟩ rfl<|.nil) rfl ?_;obtain⟨v7,e8,h⟩:=bind_some h;obtain⟨v9,e10,h⟩:=bind_some h;obtain⟨⟨v11,v12⟩,e13,h⟩:=bind_some h;obtain⟨v14,e15,h⟩:=bind_some h;obtain⟨v16,e17,h⟩:=bind_some h;obtain⟨⟨⟨v18,v19⟩,v20⟩,e21,h⟩:=bind_some h;refine .cn bP (.fa rfl aU<|.fa rfl aJ<|.bH (D.bool a1) rfl rfl bY rfl<|.fa rfl aU<|.fa rfl aJ<|.bH (D.bool a4) rfl rfl bY rfl<|.bc kg rfl rfl rfl<|.fa rfl aU<|.fa rfl aC<|.bH (ah a2) rfl rfl aH rfl<|.bg ([D.bool a4,ah a5,ah a6]) rfl rfl aa rfl rfl<|.af (eG e8) ⟨rfl,trivial⟩ trivial trivial<|.af (mb e10) ⟨rfl,rfl,trivial⟩ trivial trivial<|.af (dI e13) ⟨rfl,rfl,trivial⟩ trivial trivial<|.bg ([D.bool a1,ah a2,ah a3]) rfl rfl aa rfl rfl<|.af (eG e15) ⟨rfl,trivial⟩ trivial trivial<|.fa rfl aU<|.fa rfl aC<|.bH (ah a5) rfl rfl aH rfl<|.af (mb e17) ⟨rfl,rfl,trivial⟩ trivial trivial<|.af (jq e21) ⟨rfl,rfl,trivial⟩ trivial trivial<|.cc ([D.bool v18,ah v19,ah v20]) rfl rfl rfl aa rfl rfl rfl<|.nil) rfl (by kernel_rfl) ?_;cases h;refine .aF (fun _ _ hb=>hb) rfl (.cons (.agg rfl rfl aa rfl) .nil) (.refl _) trivial trivial
def jU(a1:Bool)(a2:Nat)(a3:Nat):Option Int:=(gj a1 a2).bind fun v4=>some v4
theorem qd{a1:Bool}{a2:Nat}{a3:Nat}{r6:Int}(h:jU a1 a2 a3=some r6):bb PP 24 [] [D.agg ([D.bool a1,ah a2,ah a3])] [] (D.int .i64 r6):=by
 unfold jU at h;refine .of Go.Proofs.Tryz.func24 rfl (by kernel_rfl) rfl rfl rfl rfl rfl rfl (fun A w0 L b=>?_);show Ok PP _ [(0,D.agg ([D.bool a1,ah a2,ah a3]))] [] _ _;refine .ak (.iL rfl rfl<|.av rfl<|.nil) rfl ?_;obtain⟨v4,e5,h⟩:=bind_some h;refine .ak (.fa rfl aU<|.bg ([D.bool a1,ah a2]) rfl rfl ba rfl rfl<|.af (rW e5) ⟨rfl,trivial⟩ trivial trivial<|.av rfl<|.nil) rfl ?_;cases h;refine .aF (fun _ _ hb=>hb) rfl (.t1 (.tmp rfl)) (.refl _) trivial trivial
def pb(a1:Bool)(a2:Nat)(a3:Nat)(a4:Bool)(a5:Nat)(a6:Nat):Option (((Bool×Nat)×Nat)×Int):=(jU a4 a5 a6).bind fun v7=>(if(v7==0)=true then some (((false,0),0),9)else(jn a1 a2 a3 a4 a5 a6).bind fun((v10,v11),v12)=>some (((v10,v11),v12),0))
theorem vM{a1:Bool}{a2:Nat}{a3:Nat}{a4:Bool}{a5:Nat}{a6:Nat}{r14:Bool}{r15:Nat}{r16:Nat}{r17:Int}(h:pb a1 a2 a3 a4 a5 a6=some (((r14,r15),r16),r17)):bb PP 38 [] [D.agg ([D.bool a1,ah a2,ah a3]),D.agg ([D.bool a4,ah a5,ah a6])] [] (D.fA [D.agg ([D.bool r14,ah r15,ah r16]),D.int .i64 r17]):=by
 unfold pb at h;refine .of Go.Proofs.Tryz.func38 rfl (by kernel_rfl) rfl rfl rfl rfl rfl rfl (fun A w0 L b=>?_);show Ok PP _ [(0,D.agg ([D.bool a1,ah a2,ah a3])),(1,D.agg ([D.bool a4,ah a5,ah a6]))] [] _ _;refine .ak (.iL rfl rfl<|.iL rfl rfl<|.eZ ([D.bool false,ah 0,ah 0]) ay ⟨.refl _,aM,aM,trivial⟩ rfl<|.av rfl<|.nil) rfl ?_;refine .sq ?_;obtain⟨v7,e8,h⟩:=bind_some h;refine .ak (.bg ([D.bool a4,ah a5,ah a6]) rfl rfl aa rfl rfl<|.af (qd e8) ⟨rfl,trivial⟩ trivial trivial<|.cm rfl rfl rfl<|.nil) rfl ?_;by_cases c9:(v7==0)=true
 ·replace h:=ab c9 h;refine .bT rfl c9 ?_;refine .ak (.jb ([D.bool false,ah 0,ah 0]) [] ay bw trivial trivial ⟨.refl _,aM,aM,trivial⟩<|.cc ([D.bool false,ah 0,ah 0]) rfl rfl rfl aa rfl rfl rfl<|.av rfl<|.nil) rfl ?_;cases h;refine .aF (fun _ _ hb=>hb) rfl (.cons (.agg rfl rfl aa rfl) (.t1 (.tmp rfl))) (.refl _) trivial trivial
 ·replace h:=ae c9 h;refine .cC rfl c9 ?_;refine .skip (Ok.on ?_);obtain⟨⟨⟨v10,v11⟩,v12⟩,e13,h⟩:=bind_some h;refine .ak (.bg ([D.bool a1,ah a2,ah a3]) rfl rfl aa rfl rfl<|.bg ([D.bool a4,ah a5,ah a6]) rfl rfl aa rfl rfl<|.af (qv e13) ⟨rfl,rfl,trivial⟩ trivial trivial<|.cc ([D.bool v10,ah v11,ah v12]) rfl rfl rfl aa rfl rfl rfl<|.av rfl<|.nil) rfl ?_;cases h;refine .aF (fun _ _ hb=>hb) rfl (.cons (.agg rfl rfl aa rfl) (.t1 (.tmp rfl))) (.refl _) trivial trivial
def o_(a1:Bool)(a2:Nat)(a3:Nat):Option ((Bool×Nat)×Nat):=(cr false a2).bind fun(v4,v5)=>some ((v4,v5),a3)
theorem zG{a1:Bool}{a2:Nat}{a3:Nat}{r7:Bool}{r8:Nat}{r9:Nat}(h:o_ a1 a2 a3=some ((r7,r8),r9)):bb PP 50 [] [D.agg ([D.bool a1,ah a2,ah a3])] [] (D.agg ([D.bool r7,ah r8,ah r9])):=by
 unfold o_ at h;refine .of Go.Proofs.Tryz.func50 rfl (by kernel_rfl) rfl rfl rfl rfl rfl rfl (fun A w0 L b=>?_);show Ok PP _ [(0,D.agg ([D.bool a1,ah a2,ah a3]))] [] _ _;refine .ak (.iL rfl rfl<|.eZ ([D.bool false,ah 0,ah 0]) ay ⟨.refl _,aM,aM,trivial⟩ rfl<|.nil) rfl ?_;obtain⟨⟨v4,v5⟩,e6,h⟩:=bind_some h;refine .cn bP (.fa rfl aU<|.fa rfl aC<|.bH (ah a2) rfl rfl aH rfl<|.af (dI e6) ⟨rfl,rfl,trivial⟩ trivial trivial<|.fa rfl fW<|.bH (ah a3) rfl rfl aH rfl<|.jb ([D.bool v4,ah v5,ah a3]) [(0,_,D.agg ([D.bool v4,ah v5]),[D.bool v4,ah v5]),(2,_,ah a3,[ah a3])] ay bw ⟨rfl,rfl,.agg _,rfl,rfl,rfl,.one rfl,rfl,trivial⟩ ⟨rfl,rfl,trivial⟩ ⟨.refl _,.refl _,.refl _,trivial⟩<|.cc ([D.bool v4,ah v5,ah a3]) rfl rfl rfl aa rfl rfl rfl<|.nil) rfl (by kernel_rfl) ?_;cases h;refine .aF (fun _ _ hb=>hb) rfl (.cons (.agg rfl rfl aa rfl) .nil) (.refl _) trivial trivial
def m6(a1:Bool)(a2:Nat)(a3:Nat)(a4:Bool)(a5:Nat)(a6:Nat):Option Int:=(dp a4 a5 a6).bind fun v7=>(dt a1 a2 v7).bind fun(v9,v10)=>(dp a1 a2 a3).bind fun v12=>(dt a4 a5 v12).bind fun(v14,v15)=>(iB v9 v10 v14 v15).bind fun v17=>some v17
theorem oK{a1:Bool}{a2:Nat}{a3:Nat}{a4:Bool}{a5:Nat}{a6:Nat}{r19:Int}(h:m6 a1 a2 a3 a4 a5 a6=some r19):bb PP 35 [] [D.agg ([D.bool a1,ah a2,ah a3]),D.agg ([D.bool a4,ah a5,ah a6])] [] (D.int .i64 r19):=by
 unfold m6 at h;refine .of Go.Proofs.Tryz.func35 rfl (by kernel_rfl) rfl rfl rfl rfl rfl rfl (fun A w0 L b=>?_);show Ok PP _ [(0,D.agg ([D.bool a1,ah a2,ah a3])),(1,D.agg ([D.bool a4,ah a5,ah a6]))] [] _ _;refine .ak (.iL rfl rfl<|.iL rfl rfl<|.av rfl<|.nil) rfl ?_;obtain⟨v7,e8,h⟩:=bind_some h;obtain⟨⟨v9,v10⟩,e11,h⟩:=bind_some h;obtain⟨v12,e13,h⟩:=bind_some h;obtain⟨⟨v14,v15⟩,e16,h⟩:=bind_some h;obtain⟨v17,e18,h⟩:=bind_some h;refine .cn bP (.fa rfl aU<|.bg ([D.bool a1,ah a2]) rfl rfl ba rfl rfl<|.bg ([D.bool a4,ah a5,ah a6]) rfl rfl aa rfl rfl<|.af (eG e8) ⟨rfl,trivial⟩ trivial trivial<|.af (ik e11) ⟨rfl,rfl,trivial⟩ trivial trivial<|.fa rfl aU<|.bg ([D.bool a4,ah a5]) rfl rfl ba rfl rfl<|.bg ([D.bool a1,ah a2,ah a3]) rfl rfl aa rfl rfl<|.af (eG e13) ⟨rfl,trivial⟩ trivial trivial<|.af (ik e16) ⟨rfl,rfl,trivial⟩ trivial trivial<|.af (s7 e18) ⟨rfl,rfl,trivial⟩ trivial trivial<|.av rfl<|.nil) rfl (by kernel_rfl) ?_;cases h;refine .aF (fun _ _ hb=>hb) rfl (.t1 (.tmp rfl)) (.refl _) trivial trivial
def oP(a1:Bool)(a2:Nat)(a3:Nat):Option ((Bool×Nat)×Nat):=(qe a1 a2).bind fun((v4,v5),v6)=>some ((v4,v5),v6)
theorem yY{a1:Bool}{a2:Nat}{a3:Nat}{r8:Bool}{r9:Nat}{r10:Nat}(h:oP a1 a2 a3=some ((r8,r9),r10)):bb PP 73 [] [D.agg ([D.bool a1,ah a2,ah a3])] [] (D.agg ([D.bool r8,ah r9,ah r10])):=by
 unfold oP at h;refine .of Go.Proofs.Tryz.func73 rfl (by kernel_rfl) rfl rfl rfl rfl rfl rfl (fun A w0 L b=>?_);show Ok PP _ [(0,D.agg ([D.bool a1,ah a2,ah a3]))] [] _ _;refine .ak (.iL rfl rfl<|.eZ ([D.bool false,ah 0,ah 0]) ay ⟨.refl _,aM,aM,trivial⟩ rfl<|.nil) rfl ?_;obtain⟨⟨⟨v4,v5⟩,v6⟩,e7,h⟩:=bind_some h;refine .ak (.fa rfl aU<|.bg ([D.bool a1,ah a2]) rfl rfl ba rfl rfl<|.af (wk e7) ⟨rfl,trivial⟩ trivial trivial<|.cc ([D.bool v4,ah v5,ah v6]) rfl rfl rfl aa rfl rfl rfl<|.nil) rfl ?_;cases h;refine .aF (fun _ _ hb=>hb) rfl (.cons (.agg rfl rfl aa rfl) .nil) (.refl _) trivial trivial
def oY(a1:Bool)(a2:Nat)(a3:Nat):Option ((Bool×Nat)×Nat):=(dp a1 a2 a3).bind fun v4=>(qe false v4).bind fun((v6,v7),v8)=>some ((v6,v7),v8)
theorem yW{a1:Bool}{a2:Nat}{a3:Nat}{r10:Bool}{r11:Nat}{r12:Nat}(h:oY a1 a2 a3=some ((r10,r11),r12)):bb PP 76 [] [D.agg ([D.bool a1,ah a2,ah a3])] [] (D.agg ([D.bool r10,ah r11,ah r12])):=by
 unfold oY at h;refine .of Go.Proofs.Tryz.func76 rfl (by kernel_rfl) rfl rfl rfl rfl rfl rfl (fun A w0 L b=>?_);show Ok PP _ [(0,D.agg ([D.bool a1,ah a2,ah a3]))] [] _ _;refine .ak (.iL rfl rfl<|.eZ ([D.bool false,ah 0,ah 0]) ay ⟨.refl _,aM,aM,trivial⟩ rfl<|.nil) rfl ?_;obtain⟨v4,e5,h⟩:=bind_some h;obtain⟨⟨⟨v6,v7⟩,v8⟩,e9,h⟩:=bind_some h;refine .ak (.bg ([D.bool a1,ah a2,ah a3]) rfl rfl aa rfl rfl<|.af (eG e5) ⟨rfl,trivial⟩ trivial trivial<|.jb ([D.bool false,ah v4]) [(1,_,ah v4,[ah v4])] cD dC ⟨rfl,rfl,.one rfl,rfl,trivial⟩ ⟨rfl,trivial⟩ ⟨.refl _,.refl _,trivial⟩<|.af (wk e9) ⟨rfl,trivial⟩ trivial trivial<|.cc ([D.bool v6,ah v7,ah v8]) rfl rfl rfl aa rfl rfl rfl<|.nil) rfl ?_;cases h;refine .aF (fun _ _ hb=>hb) rfl (.cons (.agg rfl rfl aa rfl) .nil) (.refl _) trivial trivial
def je(a1:Bool)(a2:Nat)(a3:Nat):Option ((Bool×Nat)×Nat):=(dp a1 a2 a3).bind fun v4=>(fN a1 a2 v4).bind fun(v6,v7)=>(qe v6 v7).bind fun((v9,v10),v11)=>some ((v9,v10),v11)
theorem nN{a1:Bool}{a2:Nat}{a3:Nat}{r13:Bool}{r14:Nat}{r15:Nat}(h:je a1 a2 a3=some ((r13,r14),r15)):bb PP 78 [] [D.agg ([D.bool a1,ah a2,ah a3])] [] (D.agg ([D.bool r13,ah r14,ah r15])):=by
 unfold je at h;refine .of Go.Proofs.Tryz.func78 rfl (by kernel_rfl) rfl rfl rfl rfl rfl rfl (fun A w0 L b=>?_);show Ok PP _ [(0,D.agg ([D.bool a1,ah a2,ah a3]))] [] _ _;refine .ak (.iL rfl rfl<|.eZ ([D.bool false,ah 0,ah 0]) ay ⟨.refl _,aM,aM,trivial⟩ rfl<|.nil) rfl ?_;obtain⟨v4,e5,h⟩:=bind_some h;obtain⟨⟨v6,v7⟩,e8,h⟩:=bind_some h;obtain⟨⟨⟨v9,v10⟩,v11⟩,e12,h⟩:=bind_some h;refine .cn bP (.fa rfl aU<|.bg ([D.bool a1,ah a2]) rfl rfl ba rfl rfl<|.bg ([D.bool a1,ah a2,ah a3]) rfl rfl aa rfl rfl<|.af (eG e5) ⟨rfl,trivial⟩ trivial trivial<|.af (qG e8) ⟨rfl,rfl,trivial⟩ trivial trivial<|.af (wk e12) ⟨rfl,trivial⟩ trivial trivial<|.cc ([D.bool v9,ah v10,ah v11]) rfl rfl rfl aa rfl rfl rfl<|.nil) rfl (by kernel_rfl) ?_;cases h;refine .aF (fun _ _ hb=>hb) rfl (.cons (.agg rfl rfl aa rfl) .nil) (.refl _) trivial trivial
def nD(a1:Bool)(a2:Nat)(a3:Nat):Option ((Bool×Nat)×Nat):=(kk a1 a2 a3).bind fun((v4,v5),v6)=>(je v4 v5 v6).bind fun((v8,v9),v10)=>(kk v8 v9 v10).bind fun((v12,v13),v14)=>some ((v12,v13),v14)
theorem yp{a1:Bool}{a2:Nat}{a3:Nat}{r16:Bool}{r17:Nat}{r18:Nat}(h:nD a1 a2 a3=some ((r16,r17),r18)):bb PP 80 [] [D.agg ([D.bool a1,ah a2,ah a3])] [] (D.agg ([D.bool r16,ah r17,ah r18])):=by
 unfold nD at h;refine .of Go.Proofs.Tryz.func80 rfl (by kernel_rfl) rfl rfl rfl rfl rfl rfl (fun A w0 L b=>?_);show Ok PP _ [(0,D.agg ([D.bool a1,ah a2,ah a3]))] [] _ _;refine .ak (.iL rfl rfl<|.eZ ([D.bool false,ah 0,ah 0]) ay ⟨.refl _,aM,aM,trivial⟩ rfl<|.nil) rfl ?_;obtain⟨⟨⟨v4,v5⟩,v6⟩,e7,h⟩:=bind_some h;obtain⟨⟨⟨v8,v9⟩,v10⟩,e11,h⟩:=bind_some h;obtain⟨⟨⟨v12,v13⟩,v14⟩,e15,h⟩:=bind_some h;refine .ak (.bg ([D.bool a1,ah a2,ah a3]) rfl rfl aa rfl rfl<|.af (oU e7) ⟨rfl,trivial⟩ trivial trivial<|.af (nN e11) ⟨rfl,trivial⟩ trivial trivial<|.af (oU e15) ⟨rfl,trivial⟩ trivial trivial<|.cc ([D.bool v12,ah v13,ah v14]) rfl rfl rfl aa rfl rfl rfl<|.nil) rfl ?_;cases h;refine .aF (fun _ _ hb=>hb) rfl (.cons (.agg rfl rfl aa rfl) .nil) (.refl _) trivial trivial
def nX:Option ((Bool×Nat)×Nat):=(jJ 1).bind fun v1=>(jJ 1).bind fun v3=>some ((false,v1),v3)
theorem rJ{r5:Bool}{r6:Nat}{r7:Nat}(h:nX=some ((r5,r6),r7)):bb PP 190 [] [] [] (D.agg ([D.bool r5,ah r6,ah r7])):=by
 unfold nX at h;refine .of Go.Proofs.Tryz.func190 rfl (by kernel_rfl) rfl rfl rfl rfl rfl rfl (fun A w0 L b=>?_);show Ok PP _ [] [] _ _;refine .ak (.eZ ([D.bool false,ah 0,ah 0]) ay ⟨.refl _,aM,aM,trivial⟩ rfl<|.nil) rfl ?_;obtain⟨v1,e2,h⟩:=bind_some h;obtain⟨v3,e4,h⟩:=bind_some h;refine .ak (.af (oF e2) ⟨rfl,trivial⟩ trivial trivial<|.jb ([D.bool false,ah v1]) [(1,_,ah v1,[ah v1])] cD dC ⟨rfl,rfl,.one rfl,rfl,trivial⟩ ⟨rfl,trivial⟩ ⟨.refl _,.refl _,trivial⟩<|.af (oF e4) ⟨rfl,trivial⟩ trivial trivial<|.jb ([D.bool false,ah v1,ah v3]) [(0,_,D.agg ([D.bool false,ah v1]),[D.bool false,ah v1]),(2,_,ah v3,[ah v3])] ay bw ⟨rfl,rfl,.agg _,rfl,rfl,rfl,.one rfl,rfl,trivial⟩ ⟨rfl,rfl,trivial⟩ ⟨.refl _,.refl _,.refl _,trivial⟩<|.cc ([D.bool false,ah v1,ah v3]) rfl rfl rfl aa rfl rfl rfl<|.nil) rfl ?_;cases h;refine .aF (fun _ _ hb=>hb) rfl (.cons (.agg rfl rfl aa rfl) .nil) (.refl _) trivial trivial
def lH(a1:Bool)(a2:Nat)(a3:Nat):Option ((Bool×Nat)×Nat):=(nX).bind fun((v4,v5),v6)=>(lP a1 a2 a3 v4 v5 v6).bind fun((v8,v9),v10)=>(je v8 v9 v10).bind fun((v12,v13),v14)=>((lQ v12 v13 v14 a1 a2 a3).bind fun((v18,v19),v20)=>(nX).bind fun((v22,v23),v24)=>(m6 v18 v19 v20 v22 v23 v24).bind fun v26=>(if(v26==0)=true then(if(decide (((aD v13).length:Int)>0))=true then(ix (aD v13) 0).bind fun v30=>(if((Int.tmod (v30:Int) 2)==1)=true then(ti 1).bind fun((v33,v34),v35)=>(lQ v12 v13 v14 v33 v34 v35).bind fun((v37,v38),v39)=>some (Ex.ret ((v37,v38),v39))else some (Ex.cy ()))else some (Ex.cy ()))else some (Ex.cy ()))).bind fun o16=>(match o16 with|Ex.cy ()=>some ((v12,v13),v14)|Ex.ret ((r41,r42),r43)=>some ((r41,r42),r43))
theorem vO{a1:Bool}{a2:Nat}{a3:Nat}{r44:Bool}{r45:Nat}{r46:Nat}(h:lH a1 a2 a3=some ((r44,r45),r46)):bb PP 82 [] [D.agg ([D.bool a1,ah a2,ah a3])] [] (D.agg ([D.bool r44,ah r45,ah r46])):=by
 unfold lH at h;refine .of Go.Proofs.Tryz.func82 rfl (by kernel_rfl) rfl rfl rfl rfl rfl rfl (fun A w0 L b=>?_);show Ok PP _ [(0,D.agg ([D.bool a1,ah a2,ah a3]))] [] _ _;refine .ak (.iL rfl rfl<|.eZ ([D.bool false,ah 0,ah 0]) ay ⟨.refl _,aM,aM,trivial⟩ rfl<|.nil) rfl ?_;obtain⟨⟨⟨v4,v5⟩,v6⟩,e7,h⟩:=bind_some h;obtain⟨⟨⟨v8,v9⟩,v10⟩,e11,h⟩:=bind_some h;obtain⟨⟨⟨v12,v13⟩,v14⟩,e15,h⟩:=bind_some h;refine .cn bP (.bg ([D.bool a1,ah a2,ah a3]) rfl rfl aa rfl rfl<|.af (rJ e7) trivial trivial trivial<|.af (rO e11) ⟨rfl,rfl,trivial⟩ trivial trivial<|.af (nN e15) ⟨rfl,trivial⟩ trivial trivial<|.eZ ([D.bool false,ah 0,ah 0]) ay ⟨.refl _,aM,aM,trivial⟩ rfl<|.cc ([D.bool v12,ah v13,ah v14]) rfl rfl rfl aa rfl rfl rfl<|.nil) rfl (by kernel_rfl) ?_;obtain⟨o16,hp17,h⟩:=bind_some h;refine .du (fun i=>o16=Ex.cy i) (fun(i:Unit)=>[(2,D.ref 2 0),(3,D.ref 3 0)]) (fun(i:Unit)=>[(2,Hp.box 28 ([D.bool false,ah 0,ah 0])),(3,Hp.box 28 ([D.bool v12,ah v13,ah v14]))]) ?_ ?_
 ·have ho1:=h;have h:=hp17;obtain⟨⟨⟨v18,v19⟩,v20⟩,e21,h⟩:=bind_some h;obtain⟨⟨⟨v22,v23⟩,v24⟩,e25,h⟩:=bind_some h;obtain⟨v26,e27,h⟩:=bind_some h;by_cases c28:(v26==0)=true
  ·replace h:=ab c28 h;by_cases c29:(decide (((aD v13).length:Int)>0))=true
   ·replace h:=ab c29 h;obtain⟨v30,e31,h⟩:=bind_some h;refine .ak (.bg ([D.bool v12,ah v13,ah v14]) rfl rfl aa rfl rfl<|.bg ([D.bool a1,ah a2,ah a3]) rfl rfl aa rfl rfl<|.af (mL e21) ⟨rfl,rfl,trivial⟩ trivial trivial<|.af (rJ e25) trivial trivial trivial<|.af (oK e27) ⟨rfl,rfl,trivial⟩ trivial trivial<|.cm rfl rfl rfl<|.mv rfl<|.gy c28<|.fa rfl aU<|.gy c28<|.fa rfl aC<|.gy c28<|.bH (ah v13) rfl rfl aH rfl<|.gy c28<|.qF rfl au<|.gy c28<|.cm rfl rfl rfl<|.an rfl c28 rfl<|.mv rfl<|.gy c29<|.fa rfl aU<|.gy c29<|.fa rfl aC<|.gy c29<|.bH (ah v13) rfl rfl aH rfl<|.gy c29<|.CC rfl rfl az e31<|.gy c29<|.iu rfl aQ<|.gy c29<|.ar rfl rfl (Bb (by decide))<|.gy c29<|.cm rfl rfl rfl<|.an rfl c29 rfl<|.nil) rfl ?_;by_cases c32:((Int.tmod (v30:Int) 2)==1)=true
    ·replace h:=ab c32 h;refine .bT rfl c32 ?_;obtain⟨⟨⟨v33,v34⟩,v35⟩,e36,h⟩:=bind_some h;obtain⟨⟨⟨v37,v38⟩,v39⟩,e40,h⟩:=bind_some h;refine .cn bP (.bg ([D.bool v12,ah v13,ah v14]) rfl rfl aa rfl rfl<|.af (Aa e36) ⟨rfl,trivial⟩ trivial trivial<|.af (mL e40) ⟨rfl,rfl,trivial⟩ trivial trivial<|.cc ([D.bool v37,ah v38,ah v39]) rfl rfl rfl aa rfl rfl rfl<|.nil) rfl (by kernel_rfl) ?_;cases h;have h:=ho1;cases h;refine .aF (fun _ _ hb=>hb) rfl (.cons (.agg rfl rfl aa rfl) .nil) (.refl _) trivial trivial
    ·replace h:=ae c32 h;refine .cC rfl c32 ?_;refine .skip (fun _ _ hs=>⟨(),(sj h),hs.sub (.of rfl) (.of rfl) rfl rfl⟩)
   ·replace h:=ae c29 h;refine .ak (.bg ([D.bool v12,ah v13,ah v14]) rfl rfl aa rfl rfl<|.bg ([D.bool a1,ah a2,ah a3]) rfl rfl aa rfl rfl<|.af (mL e21) ⟨rfl,rfl,trivial⟩ trivial trivial<|.af (rJ e25) trivial trivial trivial<|.af (oK e27) ⟨rfl,rfl,trivial⟩ trivial trivial<|.cm rfl rfl rfl<|.mv rfl<|.gy c28<|.fa rfl aU<|.gy c28<|.fa rfl aC<|.gy c28<|.bH (ah v13) rfl rfl aH rfl<|.gy c28<|.qF rfl au<|.gy c28<|.cm rfl rfl rfl<|.an rfl c28 rfl<|.mv rfl<|.gm c29<|.gm c29<|.gm c29<|.gm c29<|.gm c29<|.gm c29<|.gm c29<|.al rfl c29 rfl<|.nil) rfl ?_;refine .cC rfl (by decide) ?_;refine .skip (fun _ _ hs=>⟨(),(sj h),hs.sub (.of rfl) (.of rfl) rfl rfl⟩)
  ·replace h:=ae c28 h;refine .ak (.bg ([D.bool v12,ah v13,ah v14]) rfl rfl aa rfl rfl<|.bg ([D.bool a1,ah a2,ah a3]) rfl rfl aa rfl rfl<|.af (mL e21) ⟨rfl,rfl,trivial⟩ trivial trivial<|.af (rJ e25) trivial trivial trivial<|.af (oK e27) ⟨rfl,rfl,trivial⟩ trivial trivial<|.cm rfl rfl rfl<|.mv rfl<|.gm c28<|.gm c28<|.gm c28<|.gm c28<|.gm c28<|.al rfl c28 rfl<|.mv rfl<|.aN<|.aN<|.aN<|.aN<|.aN<|.aN<|.aN<|.al rfl (by decide) rfl<|.nil) rfl ?_;refine .cC rfl (by decide) ?_;refine .skip (fun _ _ hs=>⟨(),(sj h),hs.sub (.of rfl) (.of rfl) rfl rfl⟩)
 ·rintro⟨⟩ rfl
  try dsimp only
  refine .ak (.bg ([D.bool v12,ah v13,ah v14]) rfl rfl aa rfl rfl<|.cc ([D.bool v12,ah v13,ah v14]) rfl rfl rfl aa rfl rfl rfl<|.nil) rfl ?_;cases h;refine .aF (fun _ _ hb=>hb) rfl (.cons (.agg rfl rfl aa rfl) .nil) (.refl _) trivial trivial
def lR(a1:Bool)(a2:Nat)(a3:Nat):Option (Int×Bool):=(if(decide (((aD a3).length:Int)>0))=true then some (0,false)else(if(decide (((aD a2).length:Int)>2))=true then some (0,false)else(jz a2).bind fun v6=>((if a1=true then(if(decide (v6<=9223372036854775808))=true then some (Ex.ret ((IntKind.i64.wrap (0-(IntKind.i64.wrap v6))),true))else(if(!a1)=true then(if(decide (v6<9223372036854775808))=true then some (Ex.ret ((IntKind.i64.wrap v6),true))else some (Ex.cy ()))else some (Ex.cy ())))else(if(!a1)=true then(if(decide (v6<9223372036854775808))=true then some (Ex.ret ((IntKind.i64.wrap v6),true))else some (Ex.cy ()))else some (Ex.cy ())))).bind fun o8=>(match o8 with|Ex.cy ()=>some (0,false)|Ex.ret (r16,r17)=>some (r16,r17))))
theorem wu{a1:Bool}{a2:Nat}{a3:Nat}{r18:Int}{r19:Bool}(h:lR a1 a2 a3=some (r18,r19)):bb PP 69 [] [D.agg ([D.bool a1,ah a2,ah a3])] [] (D.fA [D.int .i64 r18,D.bool r19]):=by
 unfold lR at h;refine .of Go.Proofs.Tryz.func69 rfl (by kernel_rfl) rfl rfl rfl rfl rfl rfl (fun A w0 L b=>?_);show Ok PP _ [(0,D.agg ([D.bool a1,ah a2,ah a3]))] [] _ _;refine .ak (.iL rfl rfl<|.av rfl<|.av rfl<|.nil) rfl ?_;refine .sq ?_;by_cases c4:(decide (((aD a3).length:Int)>0))=true
 ·replace h:=ab c4 h;refine .ak (.fa rfl fW<|.bH (ah a3) rfl rfl aH rfl<|.qF rfl au<|.cm rfl rfl rfl<|.mv rfl<|.gk c4<|.gk c4<|.gk c4<|.gk c4<|.gk c4<|.an rfl c4 rfl<|.nil) rfl ?_;refine .bT rfl rfl ?_;refine .ak (.av rfl<|.av rfl<|.nil) rfl ?_;cases h;refine .aF (fun _ _ hb=>hb) rfl (.cons (.tmp rfl) (.t1 (.tmp rfl))) (.refl _) trivial trivial
 ·replace h:=ae c4 h;refine .ak (.fa rfl fW<|.bH (ah a3) rfl rfl aH rfl<|.qF rfl au<|.cm rfl rfl rfl<|.mv rfl<|.gz c4<|.fa rfl aU<|.gz c4<|.fa rfl aC<|.gz c4<|.bH (ah a2) rfl rfl aH rfl<|.gz c4<|.qF rfl au<|.gz c4<|.cm rfl rfl rfl<|.al rfl c4 rfl<|.nil) rfl ?_;by_cases c5:(decide (((aD a2).length:Int)>2))=true
  ·replace h:=ab c5 h;refine .bT rfl c5 ?_;refine .ak (.av rfl<|.av rfl<|.nil) rfl ?_;cases h;refine .aF (fun _ _ hb=>hb) rfl (.cons (.tmp rfl) (.t1 (.tmp rfl))) (.refl _) trivial trivial
  ·replace h:=ae c5 h;refine .cC rfl c5 ?_;refine .skip (Ok.on ?_);obtain⟨v6,e7,h⟩:=bind_some h;refine .ak (.fa rfl aU<|.fa rfl aC<|.bH (ah a2) rfl rfl aH rfl<|.af (pa e7) ⟨rfl,trivial⟩ trivial trivial<|.av rfl<|.nil) rfl ?_;obtain⟨o8,hp9,h⟩:=bind_some h;refine .du (fun i=>o8=Ex.cy i) (fun(i:Unit)=>[]) (fun(i:Unit)=>[]) ?_ ?_
   ·have ho1:=h;have h:=hp9;refine .block ?_;by_cases c10:a1=true
    ·replace h:=ab c10 h;refine .ak (.fa rfl aU<|.fa rfl aJ<|.bH (D.bool a1) rfl rfl bY rfl<|.mv rfl<|.gy c10<|.mv rfl<|.gy c10<|.cm rfl rfl rfl<|.an rfl c10 rfl<|.av rfl<|.nil) rfl ?_;by_cases c11:(decide (v6<=9223372036854775808))=true
     ·replace h:=ab c11 h;refine .bT rfl c11 ?_;refine .ak (.mv rfl<|.cv rfl iP rfl<|.neg rfl rfl<|.av rfl<|.av rfl<|.nil) rfl ?_;cases h;have h:=ho1;cases h;refine .aF (fun _ _ hb=>hb) rfl (.cons (.tmp rfl) (.t1 (.tmp rfl))) (.refl _) trivial trivial
     ·replace h:=ae c11 h;refine .cC rfl c11 ?_;by_cases c12:(!a1)=true
      ·replace h:=ab c12 h;refine .ak (.fa rfl aU<|.fa rfl aJ<|.bH (D.bool a1) rfl rfl bY rfl<|.not rfl<|.mv rfl<|.gy c12<|.mv rfl<|.gy c12<|.cm rfl rfl rfl<|.an rfl c12 rfl<|.av rfl<|.nil) rfl ?_;by_cases c13:(decide (v6<9223372036854775808))=true
       ·replace h:=ab c13 h;refine .bT rfl c13 ?_;refine .ak (.mv rfl<|.cv rfl iP rfl<|.av rfl<|.av rfl<|.nil) rfl ?_;cases h;have h:=ho1;cases h;refine .aF (fun _ _ hb=>hb) rfl (.cons (.tmp rfl) (.t1 (.tmp rfl))) (.refl _) trivial trivial
       ·replace h:=ae c13 h;refine .cC rfl c13 ?_;refine .skip (fun _ _ hs=>⟨(),(sj h),hs.sub trivial trivial rfl rfl⟩)
      ·replace h:=ae c12 h;refine .ak (.fa rfl aU<|.fa rfl aJ<|.bH (D.bool a1) rfl rfl bY rfl<|.not rfl<|.mv rfl<|.gm c12<|.gm c12<|.al rfl c12 rfl<|.av rfl<|.nil) rfl ?_;refine .cC rfl (by decide) ?_;refine .skip (fun _ _ hs=>⟨(),(sj h),hs.sub trivial trivial rfl rfl⟩)
    ·replace h:=ae c10 h;refine .ak (.fa rfl aU<|.fa rfl aJ<|.bH (D.bool a1) rfl rfl bY rfl<|.mv rfl<|.gm c10<|.gm c10<|.al rfl c10 rfl<|.av rfl<|.nil) rfl ?_;refine .cC rfl (by decide) ?_;by_cases c14:(!a1)=true
     ·replace h:=ab c14 h;refine .ak (.fa rfl aU<|.fa rfl aJ<|.bH (D.bool a1) rfl rfl bY rfl<|.not rfl<|.mv rfl<|.gy c14<|.mv rfl<|.gy c14<|.cm rfl rfl rfl<|.an rfl c14 rfl<|.av rfl<|.nil) rfl ?_;by_cases c15:(decide (v6<9223372036854775808))=true
      ·replace h:=ab c15 h;refine .bT rfl c15 ?_;refine .ak (.mv rfl<|.cv rfl iP rfl<|.av rfl<|.av rfl<|.nil) rfl ?_;cases h;have h:=ho1;cases h;refine .aF (fun _ _ hb=>hb) rfl (.cons (.tmp rfl) (.t1 (.tmp rfl))) (.refl _) trivial trivial
      ·replace h:=ae c15 h;refine .cC rfl c15 ?_;refine .skip (fun _ _ hs=>⟨(),(sj h),hs.sub trivial trivial rfl rfl⟩)
     ·replace h:=ae c14 h;refine .ak (.fa rfl aU<|.fa rfl aJ<|.bH (D.bool a1) rfl rfl bY rfl<|.not rfl<|.mv rfl<|.gm c14<|.gm c14<|.al rfl c14 rfl<|.av rfl<|.nil) rfl ?_;refine .cC rfl (by decide) ?_;refine .skip (fun _ _ hs=>⟨(),(sj h),hs.sub trivial trivial rfl rfl⟩)
   ·rintro⟨⟩ rfl
    try dsimp only
    refine .ak (.av rfl<|.av rfl<|.nil) rfl ?_;cases h;refine .aF (fun _ _ hb=>hb) rfl (.cons (.tmp rfl) (.t1 (.tmp rfl))) (.refl _) trivial trivial
def ng(a1:Bool)(a2:Nat)(a3:Nat):Option Int:=(qA a2).bind fun v4=>(dp a1 a2 a3).bind fun v6=>(qA v6).bind fun v8=>some (IntKind.i64.wrap (v4+v8))
theorem yn{a1:Bool}{a2:Nat}{a3:Nat}{r10:Int}(h:ng a1 a2 a3=some r10):bb PP 71 [] [D.agg ([D.bool a1,ah a2,ah a3])] [] (D.int .i64 r10):=by
 unfold ng at h;refine .of Go.Proofs.Tryz.func71 rfl (by kernel_rfl) rfl rfl rfl rfl rfl rfl (fun A w0 L b=>?_);show Ok PP _ [(0,D.agg ([D.bool a1,ah a2,ah a3]))] [] _ _;refine .ak (.iL rfl rfl<|.av rfl<|.nil) rfl ?_;obtain⟨v4,e5,h⟩:=bind_some h;obtain⟨v6,e7,h⟩:=bind_some h;obtain⟨v8,e9,h⟩:=bind_some h;refine .cn bP (.fa rfl aU<|.fa rfl aC<|.bH (ah a2) rfl rfl aH rfl<|.af (ug e5) ⟨rfl,trivial⟩ trivial trivial<|.bg ([D.bool a1,ah a2,ah a3]) rfl rfl aa rfl rfl<|.af (eG e7) ⟨rfl,trivial⟩ trivial trivial<|.af (ug e9) ⟨rfl,trivial⟩ trivial trivial<|.ar rfl rfl rfl<|.av rfl<|.nil) rfl (by kernel_rfl) ?_;cases h;refine .aF (fun _ _ hb=>hb) rfl (.t1 (.tmp rfl)) (.refl _) trivial trivial
def ob(a1:Int):Option ((Bool×Nat)×Nat):=(jJ 1).bind fun v2=>(qV v2 a1).bind fun v4=>(qe false v4).bind fun((v6,v7),v8)=>some ((v6,v7),v8)
theorem xG{a1:Int}{r10:Bool}{r11:Nat}{r12:Nat}(h:ob a1=some ((r10,r11),r12)):bb PP 171 [] [D.int .i64 a1] [] (D.agg ([D.bool r10,ah r11,ah r12])):=by
 unfold ob at h;refine .of Go.Proofs.Tryz.func171 rfl (by kernel_rfl) rfl rfl rfl rfl rfl rfl (fun A w0 L b=>?_);show Ok PP _ [(0,D.int .i64 a1)] [] _ _;refine .ak (.eZ ([D.bool false,ah 0,ah 0]) ay ⟨.refl _,aM,aM,trivial⟩ rfl<|.nil) rfl ?_;obtain⟨v2,e3,h⟩:=bind_some h;obtain⟨v4,e5,h⟩:=bind_some h;obtain⟨⟨⟨v6,v7⟩,v8⟩,e9,h⟩:=bind_some h;refine .ak (.af (oF e3) ⟨rfl,trivial⟩ trivial trivial<|.mv rfl<|.af (w_ e5) ⟨rfl,rfl,trivial⟩ trivial trivial<|.jb ([D.bool false,ah v4]) [(1,_,ah v4,[ah v4])] cD dC ⟨rfl,rfl,.one rfl,rfl,trivial⟩ ⟨rfl,trivial⟩ ⟨.refl _,.refl _,trivial⟩<|.af (wk e9) ⟨rfl,trivial⟩ trivial trivial<|.cc ([D.bool v6,ah v7,ah v8]) rfl rfl rfl aa rfl rfl rfl<|.nil) rfl ?_;cases h;refine .aF (fun _ _ hb=>hb) rfl (.cons (.agg rfl rfl aa rfl) .nil) (.refl _) trivial trivial
def mJ(a1:Bool)(a2:Nat)(a3:Nat)(a4:Int):Option (((Bool×Nat)×Nat)×Int):=(if(decide (a4<0))=true then some (((false,0),0),3)else(if(decide (a4>64))=true then some (((false,0),0),3)else(jU a1 a2 a3).bind fun v7=>(if(decide (v7<0))=true then some (((false,0),0),8)else(qV a2 (IntKind.i64.wrap (2*a4))).bind fun v10=>(dp a1 a2 a3).bind fun v12=>(ji v10 v12).bind fun(v14,v15)=>(nO v14).bind fun v17=>(qe false v17).bind fun((v19,v20),v21)=>(ob a4).bind fun((v23,v24),v25)=>(jn v19 v20 v21 v23 v24 v25).bind fun((v27,v28),v29)=>some (((v27,v28),v29),0))))
theorem pv{a1:Bool}{a2:Nat}{a3:Nat}{a4:Int}{r31:Bool}{r32:Nat}{r33:Nat}{r34:Int}(h:mJ a1 a2 a3 a4=some (((r31,r32),r33),r34)):bb PP 29 [] [D.agg ([D.bool a1,ah a2,ah a3]),D.int .i64 a4] [] (D.fA [D.agg ([D.bool r31,ah r32,ah r33]),D.int .i64 r34]):=by
 unfold mJ at h;refine .of Go.Proofs.Tryz.func29 rfl (by kernel_rfl) rfl rfl rfl rfl rfl rfl (fun A w0 L b=>?_);show Ok PP _ [(0,D.agg ([D.bool a1,ah a2,ah a3])),(1,D.int .i64 a4)] [] _ _;refine .ak (.iL rfl rfl<|.eZ ([D.bool false,ah 0,ah 0]) ay ⟨.refl _,aM,aM,trivial⟩ rfl<|.av rfl<|.nil) rfl ?_;refine .sq ?_;refine .block ?_;by_cases c5:(decide (a4<0))=true
 ·replace h:=ab c5 h;refine .ak (.mv rfl<|.cm rfl rfl rfl<|.mv rfl<|.gk c5<|.gk c5<|.an rfl c5 rfl<|.av rfl<|.nil) rfl ?_;refine .bT rfl rfl ?_;refine .ak (.jb ([D.bool false,ah 0,ah 0]) [] ay bw trivial trivial ⟨.refl _,aM,aM,trivial⟩<|.cc ([D.bool false,ah 0,ah 0]) rfl rfl rfl aa rfl rfl rfl<|.av rfl<|.nil) rfl ?_;cases h;refine .aF (fun _ _ hb=>hb) rfl (.cons (.agg rfl rfl aa rfl) (.t1 (.tmp rfl))) (.refl _) trivial trivial
 ·replace h:=ae c5 h;refine .ak (.mv rfl<|.cm rfl rfl rfl<|.mv rfl<|.gz c5<|.mv rfl<|.gz c5<|.cm rfl rfl rfl<|.al rfl c5 rfl<|.av rfl<|.nil) rfl ?_;by_cases c6:(decide (a4>64))=true
  ·replace h:=ab c6 h;refine .bT rfl c6 ?_;refine .ak (.jb ([D.bool false,ah 0,ah 0]) [] ay bw trivial trivial ⟨.refl _,aM,aM,trivial⟩<|.cc ([D.bool false,ah 0,ah 0]) rfl rfl rfl aa rfl rfl rfl<|.av rfl<|.nil) rfl ?_;cases h;refine .aF (fun _ _ hb=>hb) rfl (.cons (.agg rfl rfl aa rfl) (.t1 (.tmp rfl))) (.refl _) trivial trivial
  ·replace h:=ae c6 h;refine .cC rfl c6 ?_;obtain⟨v7,e8,h⟩:=bind_some h;refine .ak (.bg ([D.bool a1,ah a2,ah a3]) rfl rfl aa rfl rfl<|.af (qd e8) ⟨rfl,trivial⟩ trivial trivial<|.cm rfl rfl rfl<|.av rfl<|.nil) rfl ?_;by_cases c9:(decide (v7<0))=true
   ·replace h:=ab c9 h;refine .bT rfl c9 ?_;refine .ak (.jb ([D.bool false,ah 0,ah 0]) [] ay bw trivial trivial ⟨.refl _,aM,aM,trivial⟩<|.cc ([D.bool false,ah 0,ah 0]) rfl rfl rfl aa rfl rfl rfl<|.av rfl<|.nil) rfl ?_;cases h;refine .aF (fun _ _ hb=>hb) rfl (.cons (.agg rfl rfl aa rfl) (.t1 (.tmp rfl))) (.refl _) trivial trivial
   ·replace h:=ae c9 h;refine .cC rfl c9 ?_;refine .skip (Ok.on ?_);obtain⟨v10,e11,h⟩:=bind_some h;obtain⟨v12,e13,h⟩:=bind_some h;obtain⟨⟨v14,v15⟩,e16,h⟩:=bind_some h;refine .cn bP (.fa rfl aU<|.fa rfl aC<|.bH (ah a2) rfl rfl aH rfl<|.mv rfl<|.ar rfl rfl rfl<|.af (w_ e11) ⟨rfl,rfl,trivial⟩ trivial trivial<|.bg ([D.bool a1,ah a2,ah a3]) rfl rfl aa rfl rfl<|.af (eG e13) ⟨rfl,trivial⟩ trivial trivial<|.af (ow e16) ⟨rfl,rfl,trivial⟩ trivial trivial<|.mv rfl<|.ext rfl rfl<|.ext rfl rfl<|.av rfl<|.av rfl<|.nil) rfl (by kernel_rfl) ?_;obtain⟨v17,e18,h⟩:=bind_some h;obtain⟨⟨⟨v19,v20⟩,v21⟩,e22,h⟩:=bind_some h;obtain⟨⟨⟨v23,v24⟩,v25⟩,e26,h⟩:=bind_some h;obtain⟨⟨⟨v27,v28⟩,v29⟩,e30,h⟩:=bind_some h;refine .ak (.mv rfl<|.af (uw e18) ⟨rfl,trivial⟩ trivial trivial<|.jb ([D.bool false,ah v17]) [(1,_,ah v17,[ah v17])] cD dC ⟨rfl,rfl,.one rfl,rfl,trivial⟩ ⟨rfl,trivial⟩ ⟨.refl _,.refl _,trivial⟩<|.af (wk e22) ⟨rfl,trivial⟩ trivial trivial<|.mv rfl<|.af (xG e26) ⟨rfl,trivial⟩ trivial trivial<|.af (qv e30) ⟨rfl,rfl,trivial⟩ trivial trivial<|.cc ([D.bool v27,ah v28,ah v29]) rfl rfl rfl aa rfl rfl rfl<|.av rfl<|.nil) rfl ?_;cases h;refine .aF (fun _ _ hb=>hb) rfl (.cons (.agg rfl rfl aa rfl) (.t1 (.tmp rfl))) (.refl _) trivial trivial
end
end Go.Am
namespace Go.Am
open Go.RowKit
theorem cA{x y m n:Nat}(h:bn x<=m)(k:bn y<=n):bn (x*y)<=m+n:=by
 rw[fu]at*;rw[Nat.pow_add];exact Nat.mul_lt_mul'' h k
theorem kx{x y:Int}{n:Nat}(h:bn x.natAbs<=n)(k:bn y.natAbs<=n):bn (x+y).natAbs<=n+1:=
 Nat.le_trans (ct (Int.natAbs_add_le x y)) (pg h k)
def sg(neg:Bool)(n:Nat):Int:=if neg then-(n:Int)else n
theorem zO(z:Int):sg (decide (z<0)) z.natAbs=z:=by
 unfold sg;by_cases h:z<0
 ·rw[decide_eq_true h,if_pos rfl];omega
 ·rw[decide_eq_false h,if_neg (by decide)];omega
theorem px(neg:Bool)(n:Nat):(sg neg n).natAbs=n:=by unfold sg;split<;>omega
theorem xE(z w:Int):sg (!(decide (z<0)==decide (w<0))) (z.natAbs*w.natAbs)=z*w:=by
 unfold sg;rcases Int.lt_or_le z 0 with h|h<;>rcases Int.lt_or_le w 0 with k|k
 ·rw[decide_eq_true h,decide_eq_true k,if_neg (by decide)];rw[Int.natCast_mul,Int.ofNat_natAbs_of_nonpos (Int.le_of_lt h),Int.ofNat_natAbs_of_nonpos (Int.le_of_lt k),Int.neg_mul_neg]
 ·rw[decide_eq_true h,decide_eq_false (by omega),if_pos (by decide)];rw[Int.natCast_mul,Int.ofNat_natAbs_of_nonpos (Int.le_of_lt h),Int.natAbs_of_nonneg k,Int.neg_mul,Int.neg_neg]
 ·rw[decide_eq_false (by omega),decide_eq_true k,if_pos (by decide)];rw[Int.natCast_mul,Int.natAbs_of_nonneg h,Int.ofNat_natAbs_of_nonpos (Int.le_of_lt k),Int.mul_neg,Int.neg_neg]
 ·rw[decide_eq_false (by omega),decide_eq_false (by omega),if_neg (by decide)];rw[Int.natCast_mul,Int.natAbs_of_nonneg h,Int.natAbs_of_nonneg k]
theorem zr(z:Int)(d:Nat):sg (decide (z<0)) (z.natAbs*d)=z*d:=by
 have:=xE z d;rw[show decide ((d:Int)<0)=false from decide_eq_false (by omega)]at this;rw[←this];cases decide (z<0)<;>rfl
theorem AI(z:Int):sg (!decide (z<0)) z.natAbs=-z:=by
 unfold sg;by_cases h:z<0
 ·rw[decide_eq_true h,if_neg (by decide)];omega
 ·rw[decide_eq_false h,if_pos (by decide)];omega
theorem jy(n:Nat):decide (((aD n).length:Int)>0)=decide (n≠0):=by
 by_cases h:n=0
 ·subst h;rw[cB];rfl
 ·have:=cu h;rw[decide_eq_true (by omega),decide_eq_true h]
theorem ny(n:Nat):(((aD n).length:Int)==0)=decide (n=0):=by
 by_cases h:n=0
 ·subst h;rw[cB];rfl
 ·have:=cu h;rw[decide_eq_false h,beq_eq_false_iff_ne];omega
theorem dg(neg:Bool)(n:Nat):cr neg n=some (decide (sg neg n<0),(sg neg n).natAbs):=by
 unfold cr;rw[px,jy];cases neg
 ·rw[if_neg (by decide)];unfold sg;rw[if_neg (by decide),decide_eq_false (by omega)]
 ·rw[if_pos rfl];unfold sg;rw[if_pos rfl];by_cases h:n=0
  ·subst h;rfl
  ·rw[decide_eq_true h,decide_eq_true (by omega)]
theorem qK(z:Int):gj (decide (z<0)) z.natAbs=some (if z<0 then-1 else if z=0 then 0 else 1):=by
 unfold gj;rw[ny];by_cases h:z<0
 ·rw[if_pos (decide_eq_true h),if_pos h]
 ·rw[if_neg (by simpa using h),if_neg h];by_cases h0:z=0
  ·subst h0;rfl
  ·rw[if_neg (by simpa using h0),if_neg h0]
theorem sJ(z w:Int)(hz:sm z.natAbs)(hw:sm w.natAbs):iG (decide (z<0)) z.natAbs (decide (w<0)) w.natAbs=some (decide (z+w<0),(z+w).natAbs):=by
 unfold iG;have e1:∀(neg:Bool) (n:Nat),sg neg n=z+w->cr neg n=some (decide (z+w<0),(z+w).natAbs):=fun neg n h=>by rw[dg,h]
 by_cases hs:(decide (z<0)==decide (w<0))=true
 ·rw[if_pos hs,nv hz hw,Option.bind_some,e1]
  ·rfl
  ·unfold sg;rw[beq_iff_eq]at hs;by_cases h:z<0
   ·rw[decide_eq_true h]at*;have hs:=of_decide_eq_true hs.symm;rw[if_pos rfl];omega
   ·rw[decide_eq_false h]at*;have hs:=of_decide_eq_false hs.symm;rw[if_neg (by decide)];omega
 ·rw[if_neg hs,jV hz hw,Option.bind_some];have hs2:(z<0/\0<=w)\/(0<=z/\w<0):=by
   rw[beq_iff_eq]at hs;by_cases h:z<0<;>by_cases k:w<0
   ·rw[decide_eq_true h,decide_eq_true k]at hs;exact absurd rfl hs
   ·left;omega
   ·right;omega
   ·rw[decide_eq_false h,decide_eq_false k]at hs;exact absurd rfl hs
  by_cases hc:w.natAbs<=z.natAbs
  ·rw[if_pos (decide_eq_true (tO hc)),qu hc hz,Option.bind_some,e1]
   ·rfl
   ·unfold sg;split<;>rename_i h<;>simp only[decide_eq_true_eq]at h<;>omega
  ·have:fK z.natAbs w.natAbs=-1:=by unfold fK;rw[if_pos (by omega)]
   rw[this,if_neg (by decide),qu (by omega) hw,Option.bind_some,e1]
   ·rfl
   ·unfold sg;split<;>rename_i h<;>simp only[decide_eq_true_eq]at h<;>omega
theorem gg(z:Int)(d:Nat)(hz:sm z.natAbs)(hd:sm d):dt (decide (z<0)) z.natAbs d=some (decide (z*d<0),(z*d).natAbs):=by
 unfold dt;rw[gh hz hd,Option.bind_some,dg,zr];rfl
def y8(z w:Int):Int:=if z<w then-1 else if w<z then 1 else 0
theorem rH(z w:Int)(hz:sm z.natAbs)(hw:sm w.natAbs):iB (decide (z<0)) z.natAbs (decide (w<0)) w.natAbs=some (y8 z w):=by
 unfold iB y8;by_cases h:z<0<;>by_cases k:w<0
 ·rw[decide_eq_true h,decide_eq_true k,if_neg (by decide),if_pos rfl,jV hw hz];simp only[Option.bind_some,fK];congr 1;split<;>split<;>(try split)<;>(try split)<;>omega
 ·rw[decide_eq_true h,decide_eq_false k,if_pos (by decide),if_pos rfl,if_pos (by omega)]
 ·rw[decide_eq_false h,decide_eq_true k,if_pos (by decide),if_neg (by decide),if_neg (by omega),if_pos (by omega)]
 ·rw[decide_eq_false h,decide_eq_false k,if_neg (by decide),if_neg (by decide),jV hz hw];simp only[Option.bind_some,fK];congr 1;split<;>split<;>(try split)<;>(try split)<;>omega
theorem pC(z:Int)(d:Nat)(h0:d≠0)(hz:sm z.natAbs)(hd:sm d):fN (decide (z<0)) z.natAbs d=some (decide (z/d<0),(z/d).natAbs):=by
 unfold fN;rw[gD h0 hz hd,Option.bind_some];simp only;have hm:=Nat.div_add_mod z.natAbs d;have hlt:=Nat.mod_lt z.natAbs (Nat.pos_of_ne_zero h0);have hq:sm (z.natAbs/d):=pY (Nat.div_le_self _ _) hz;have e1:jJ (1:Int)=some 1:=i_ (n:=1) (by omega);rw[e1,jy];have hsm1:sm 1:=kH (by omega);by_cases h:z<0
 ·rw[decide_eq_true h,if_pos rfl];by_cases hr:z.natAbs%d=0
  ·rw[if_neg (by simpa using hr),Option.bind_some,dg];have:sg true (z.natAbs/d)=z/d:=by
    unfold sg;rw[if_pos rfl]
    symm;apply Int.ediv_eq_of_eq_mul_left (by omega)
    rw[Int.neg_mul,←Int.natCast_mul,Nat.mul_comm];omega
   rw[this];rfl
  ·rw[if_pos (by simpa using hr),Option.bind_some,nv hq hsm1,Option.bind_some,Option.bind_some,dg];have:sg true (z.natAbs/d+1)=z/d:=by
    unfold sg;rw[if_pos rfl]
    symm
    have e:z=(((d-z.natAbs%d:Nat)):Int)+(d:Int)*(-((z.natAbs/d+1:Nat):Int)):=by
     have:((d*(z.natAbs/d):Nat):Int)=(d:Int)*((z.natAbs/d:Nat):Int):=Int.natCast_mul _ _;rw[Int.mul_neg,Int.natCast_add,Int.mul_add];omega
    rw[e,Int.add_mul_ediv_left _ _ (by omega),Int.ediv_eq_zero_of_lt (by omega) (by omega)];rw[←e];omega
   rw[this];rfl
 ·rw[decide_eq_false h,if_neg (by decide),Option.bind_some,dg];have:sg false (z.natAbs/d)=z/d:=by
   unfold sg;rw[if_neg (by decide),Int.natCast_ediv];congr 1;omega
  rw[this];rfl
theorem sL(n:Int)(h:jv n):iy n=some n.natAbs:=by
 unfold iy;obtain⟨h0,h1⟩:=h;by_cases hn:n<0
 ·have e1:IntKind.u64.wrap (0-IntKind.u64.wrap n)=((n.natAbs:Nat):Int):=by
   rw[IntKind.wrap_u64,IntKind.wrap_u64];omega
  rw[if_pos (decide_eq_true hn),e1,i_ (by omega)];rfl
 ·have e1:IntKind.u64.wrap n=((n.natAbs:Nat):Int):=by rw[IntKind.wrap_u64];omega
  rw[if_neg (by simpa using hn),e1,i_ (by omega)];rfl
end Go.Am
namespace Go.Am
open Go.RowKit
abbrev rp(x:Rat):(Bool×Nat)×Nat:=((decide (x.num<0),x.num.natAbs),x.den-1)
theorem sX{g:Nat}(h:g≠0):ix (aD g) 0=some (g%4294967296):=by
 rw[jt h];rfl
theorem uE(z:Int)(d:Nat)(hd:d≠0):(mkRat z d).num=z/((Nat.gcd z.natAbs d:Nat):Int)/\(mkRat z d).den=d/Nat.gcd z.natAbs d:=by
 rw[Rat.num_mkRat,Rat.den_mkRat,if_neg hd,if_neg hd,Nat.gcd_comm];exact⟨rfl,rfl⟩
theorem Bg(z:Int)(g:Nat)(hg:g∣z.natAbs):sg (decide (z<0)) (z.natAbs/g)=z/(g:Int):=by
 obtain⟨k,hk⟩:=hg;rcases Nat.eq_zero_or_pos g with h0|h0
 ·subst h0;rw[Nat.zero_mul]at hk;have:z=0:=by omega
  subst this;rfl
 rw[hk,Nat.mul_div_cancel_left _ h0];unfold sg;by_cases h:z<0
 ·rw[decide_eq_true h,if_pos rfl]
  symm;apply Int.ediv_eq_of_eq_mul_right (by omega)
  rw[Int.mul_neg,←Int.natCast_mul];omega
 ·rw[decide_eq_false h,if_neg (by decide)]
  symm;apply Int.ediv_eq_of_eq_mul_right (by omega)
  rw[←Int.natCast_mul];omega
theorem iC(z:Int)(d:Nat)(hd:d≠0)(hz:sm z.natAbs)(hs:sm d):dD (decide (z<0)) z.natAbs d=some (rp (mkRat z d)):=by
 obtain⟨e1,e2⟩:=uE z d hd;unfold dD rp;rw[xf hz hs,Option.bind_some,e1,e2];have hg0:Nat.gcd z.natAbs d≠0:=fun h=>hd (Nat.eq_zero_of_gcd_eq_zero_right h);have hgd:Nat.gcd z.natAbs d∣d:=Nat.gcd_dvd_right _ _;have hgs:sm (Nat.gcd z.natAbs d):=pY (Nat.le_of_dvd (Nat.pos_of_ne_zero hd) hgd) hs;have hsg:=Bg z _ (Nat.gcd_dvd_left z.natAbs d);have hq1:d/Nat.gcd z.natAbs d≠0:=Nat.pos_iff_ne_zero.1 (Nat.div_pos (Nat.le_of_dvd (Nat.pos_of_ne_zero hd) hgd) (Nat.pos_of_ne_zero hg0));have hq2:sm (d/Nat.gcd z.natAbs d):=pY (Nat.div_le_self _ _) hs;generalize Nat.gcd z.natAbs d=g at*;have cO:(if(((aD g).length:Int) !=1)=true then(ji z.natAbs g).bind fun(v9,v10)=>(ji d g).bind fun(v12,v13)=>some ((v12,v9))else(ix (aD g) 0).bind fun v15=>(if((v15:Int) !=1)=true then(ji z.natAbs g).bind fun(v18,v19)=>(ji d g).bind fun(v21,v22)=>some ((v21,v18))else some ((d,z.natAbs))))=some (d/g,z.natAbs/g):=by
  by_cases h1:(((aD g).length:Int) !=1)=true
  ·rw[if_pos h1,gD hg0 hz hgs,Option.bind_some];dsimp only;rw[gD hg0 hs hgs,Option.bind_some]
  ·rw[if_neg h1,sX hg0,Option.bind_some];by_cases h2:(((g%4294967296:Nat):Int) !=1)=true
   ·rw[if_pos h2,gD hg0 hz hgs,Option.bind_some];dsimp only;rw[gD hg0 hs hgs,Option.bind_some]
   ·rw[if_neg h2];have h3:(aD g).length=1:=by
     have:((aD g).length:Int)=1:=by simpa using h1
     omega
    have:=jB (x:=g);rw[h3]at this;have h4:g%4294967296=1:=by simp at h2;omega
    have:g=1:=by omega
    subst this;rw[Nat.div_one,Nat.div_one]
 rw[cO,Option.bind_some];simp only;rw[dg,hsg,Option.bind_some];simp only;have e3:jJ (1:Int)=some 1:=i_ (n:=1) (by omega);rw[e3,Option.bind_some,qu (by omega) hq2];rfl
def qw(x:Rat):Prop:=sz x<=2000000000000
theorem gf{x:Rat}(h:fe x):qw x:=Nat.le_trans h (by omega)
theorem n5{x:Rat}(h:qw x):bn x.num.natAbs<=2000000000000:=Nat.le_trans (Nat.le_max_left _ _) h
theorem nJ{x:Rat}(h:qw x):bn x.den<=2000000000000:=Nat.le_trans (Nat.le_max_right _ _) h
theorem gS{x n:Nat}(h:bn x<=n)(k:n<=4398046511104):sm x:=Nat.le_trans h k
theorem ia{x:Rat}(h:qw x):sm x.num.natAbs:=gS (n5 h) (by omega)
theorem fF{x:Rat}(h:qw x):sm x.den:=gS (nJ h) (by omega)
theorem rj{a b:Rat}(h:qw a)(k:qw b):bn (a.num*b.den).natAbs<=4000000000000:=by
 rw[Int.natAbs_mul];exact Nat.le_trans (cA (n5 h) (nJ k)) (by omega)
theorem z_{a b:Rat}(h:qw a)(k:qw b):bn (a.den*b.den)<=4000000000000:=Nat.le_trans (cA (nJ h) (nJ k)) (by omega)
theorem BF{a b:Rat}(h:qw a)(k:qw b):bn (a.num*b.num).natAbs<=4000000000000:=by
 rw[Int.natAbs_mul];exact Nat.le_trans (cA (n5 h) (n5 k)) (by omega)
theorem dO(a:Rat)(neg:Bool)(n:Nat)(h:qw a):dp neg n (a.den-1)=some a.den:=by
 unfold dp;have e3:jJ (1:Int)=some 1:=i_ (n:=1) (by omega);have:=a.den_pos;rw[e3,Option.bind_some,nv (pY (Nat.sub_le _ _) (fF h)) (kH (by omega)),Nat.sub_add_cancel this];rfl
theorem pq(a b:Rat)(h:qw a)(k:qw b):lP (decide (a.num<0)) a.num.natAbs (a.den-1) (decide (b.num<0)) b.num.natAbs (b.den-1)=some (rp (a+b)):=by
 unfold lP;rw[dO a _ _ h,Option.bind_some,dO b _ _ k,Option.bind_some,gg _ _ (ia h) (fF k),Option.bind_some];simp only;rw[gg _ _ (ia k) (fF h),Option.bind_some];simp only;rw[sJ _ _ (gS (rj h k) (by omega)) (gS (rj k h) (by omega)),Option.bind_some];simp only;rw[gh (fF h) (fF k),Option.bind_some,iC _ _ (Nat.mul_ne_zero a.den_nz b.den_nz) (gS (kx (rj h k) (rj k h)) (by omega)) (gS (z_ h k) (by omega)),←Rat.add_def']
 rfl
theorem nE(a:Rat):kk (decide (a.num<0)) a.num.natAbs (a.den-1)=some (rp (-a)):=by
 unfold kk rp;rw[dg,AI,Rat.neg_num,Rat.neg_den];rfl
theorem xJ(a:Rat):qw (-a)=qw a:=by unfold qw sz;rw[Rat.neg_num,Rat.neg_den,Int.natAbs_neg]
theorem pw(a b:Rat)(h:qw a)(k:qw b):lQ (decide (a.num<0)) a.num.natAbs (a.den-1) (decide (b.num<0)) b.num.natAbs (b.den-1)=some (rp (a-b)):=by
 unfold lQ;rw[nE,Option.bind_some];simp only;rw[pq a (-b) h (by rw[xJ];exact k),←Rat.sub_eq_add_neg];rfl
theorem yC(a b:Rat)(h:qw a)(k:qw b):oN (decide (a.num<0)) a.num.natAbs (a.den-1) (decide (b.num<0)) b.num.natAbs (b.den-1)=some (rp (a*b)):=by
 unfold oN;rw[gh (ia h) (ia k),Option.bind_some,dg,xE,Option.bind_some];simp only;rw[dO a _ _ h,Option.bind_some,dO b _ _ k,Option.bind_some,gh (fF h) (fF k),Option.bind_some,iC _ _ (Nat.mul_ne_zero a.den_nz b.den_nz) (gS (BF h k) (by omega)) (gS (z_ h k) (by omega)),←Rat.mul_def']
 rfl
theorem x6(a b:Rat)(hb:b≠0):a/b=mkRat (sg (!(decide (a.num<0)==decide (b.num<0))) (a.num.natAbs*b.den)) (a.den*b.num.natAbs):=by
 have hn:b.num≠0:=fun h=>hb (Rat.num_eq_zero.1 h);have e:a/b=Rat.divInt (a.num*b.den) (a.den*b.num):=by
  have ea:=Rat.num_divInt_den a;rw[Rat.div_def,Rat.inv_def]
  conv=>lhs;rw[←ea]
  rw[Rat.divInt_mul_divInt]
 rw[e];have hden:((a.den*b.num.natAbs:Nat):Int)=(a.den:Int)*(b.num.natAbs:Int):=Int.natCast_mul _ _;rw[←Rat.divInt_ofNat,hden];have hnum:((a.num.natAbs*b.den:Nat):Int)=(a.num.natAbs:Int)*(b.den:Int):=Int.natCast_mul _ _;rcases Int.lt_or_le b.num 0 with h|h
 ·have h1:(b.num.natAbs:Int)=-b.num:=Int.ofNat_natAbs_of_nonpos (Int.le_of_lt h);rw[h1,Int.mul_neg,Rat.divInt_neg']
  congr 1
  unfold sg;rw[decide_eq_true h];rcases Int.lt_or_le a.num 0 with k|k
  ·rw[decide_eq_true k,if_neg (by decide),hnum,Int.ofNat_natAbs_of_nonpos (Int.le_of_lt k),Int.neg_mul,Int.neg_neg]
  ·rw[decide_eq_false (by omega),if_pos (by decide),hnum,Int.natAbs_of_nonneg k,Int.neg_neg]
 ·have h1:(b.num.natAbs:Int)=b.num:=Int.natAbs_of_nonneg h;rw[h1]
  congr 1
  unfold sg;rw[decide_eq_false (p:=b.num<0) (by omega)];rcases Int.lt_or_le a.num 0 with k|k
  ·rw[decide_eq_true k,if_pos (by decide),hnum,Int.ofNat_natAbs_of_nonpos (Int.le_of_lt k),Int.neg_mul,Int.neg_neg]
  ·rw[decide_eq_false (by omega),if_neg (by decide),hnum,Int.natAbs_of_nonneg k]
theorem oe(a b:Rat)(hb:b≠0)(h:qw a)(k:qw b):jn (decide (a.num<0)) a.num.natAbs (a.den-1) (decide (b.num<0)) b.num.natAbs (b.den-1)=some (rp (a/b)):=by
 have hn:b.num.natAbs≠0:=fun h=>hb (Rat.num_eq_zero.1 (by omega));unfold jn;rw[dO b _ _ k,Option.bind_some,gh (ia h) (fF k),Option.bind_some,dg,Option.bind_some];simp only;rw[dO a _ _ h,Option.bind_some,gh (fF h) (ia k),Option.bind_some,iC _ _ (Nat.mul_ne_zero a.den_nz hn) (by rw[px];exact gS (cA (n5 h) (nJ k)) (by omega)) (gS (cA (nJ h) (n5 k)) (by omega)),←x6 a b hb]
 rfl
theorem zd(a:Rat):(if a.num<0 then(-1:Int)else if a.num=0 then 0 else 1)=yI a:=by
 unfold yI;have h1:a.num<0↔a<0:=by
  rw[Rat.lt_iff];simp
 have h2:a.num=0↔a=0:=Rat.num_eq_zero;simp only[h1,h2]
theorem oa(a:Rat)(d:Nat):jU (decide (a.num<0)) a.num.natAbs d=some (yI a):=by
 unfold jU;rw[qK,zd];rfl
theorem xM(a b:Rat)(h:qw a)(k:qw b):pb (decide (a.num<0)) a.num.natAbs (a.den-1) (decide (b.num<0)) b.num.natAbs (b.den-1)=some (if b=0 then(rp 0,9)else(rp (a/b),0)):=by
 unfold pb;rw[oa,Option.bind_some];by_cases hb:b=0
 ·subst hb;rw[show yI 0=0 from by decide];rfl
 ·rw[if_neg hb,if_neg,oe a b hb h k]
  ·rfl
  ·unfold yI;rw[beq_iff_eq,if_neg hb];split<;>decide
theorem xq(a:Rat):o_ (decide (a.num<0)) a.num.natAbs (a.den-1)=some (rp (if a<0 then-a else a)):=by
 have h1:a.num<0↔a<0:=by rw[Rat.lt_iff];simp
 unfold o_ rp;rw[dg,Option.bind_some];have e1:decide (sg false a.num.natAbs<0)=false:=by unfold sg;rw[if_neg (by decide)];exact decide_eq_false (by omega)
 rw[e1,px];by_cases h:a<0
 ·have:=h1.2 h;rw[if_pos h,Rat.neg_num,Rat.neg_den,Int.natAbs_neg,decide_eq_false (p:=-a.num<0) (by omega)]
 ·have:=fun k=>h (h1.1 k);rw[if_neg h,decide_eq_false (p:=a.num<0) this]
theorem y_(a b:Rat):y8 (a.num*b.den) (b.num*a.den)=fV a b:=by
 unfold y8 fV;simp only[Rat.lt_iff]
theorem s9(a b:Rat)(h:qw a)(k:qw b):m6 (decide (a.num<0)) a.num.natAbs (a.den-1) (decide (b.num<0)) b.num.natAbs (b.den-1)=some (fV a b):=by
 unfold m6;rw[dO b _ _ k,Option.bind_some,gg _ _ (ia h) (fF k),Option.bind_some];simp only;rw[dO a _ _ h,Option.bind_some,gg _ _ (ia k) (fF h),Option.bind_some];simp only;rw[rH _ _ (gS (rj h k) (by omega)) (gS (rj k h) (by omega)),y_];rfl
theorem Be(z:Int):rp (z:Rat)=((decide (z<0),z.natAbs),0):=by
 unfold rp;rw[Rat.num_intCast,Rat.den_intCast]
theorem vm(z:Int):qe (decide (z<0)) z.natAbs=some (rp (z:Rat)):=by rw[Be];rfl
theorem yH(a:Rat)(d:Nat):oP (decide (a.num<0)) a.num.natAbs d=some (rp (a.num:Rat)):=by
 unfold oP;rw[vm];rfl
theorem uJ(n:Nat):qe false n=some (rp (n:Rat)):=by
 have:=vm n;rw[decide_eq_false (by omega)]at this;exact this
theorem xk(a:Rat)(neg:Bool)(n:Nat)(h:qw a):oY neg n (a.den-1)=some (rp (a.den:Rat)):=by
 unfold oY;rw[dO a _ _ h,Option.bind_some,uJ];rfl
theorem mF(a:Rat)(h:qw a):je (decide (a.num<0)) a.num.natAbs (a.den-1)=some (rp (a.floor:Rat)):=by
 unfold je;rw[dO a _ _ h,Option.bind_some,pC _ _ a.den_nz (ia h) (fF h),Option.bind_some];simp only;rw[vm,Rat.floor_def];rfl
theorem wS(a:Rat)(h:qw a):nD (decide (a.num<0)) a.num.natAbs (a.den-1)=some (rp (a.ceil:Rat)):=by
 unfold nD;rw[nE,Option.bind_some];simp only;rw[mF (-a) (by rw[xJ];exact h),Option.bind_some];simp only;rw[nE,Rat.ceil_eq_neg_floor_neg,Rat.intCast_neg];rfl
end Go.Am
namespace Go.Am
open Go.RowKit
theorem uq:jJ (1:Int)=some 1:=i_ (n:=1) (by omega)
theorem AN{z:Int}(h:bn z.natAbs<=2000000000000):qw (z:Rat):=by
 unfold qw sz;rw[Rat.num_intCast,Rat.den_intCast];exact Nat.max_le.2 ⟨h,by rw[show bn 1=1 from rfl];omega⟩
theorem yA(n:Int)(h:jv n):ti n=some (rp (n:Rat)):=by
 unfold ti;rw[sL n h,Option.bind_some,dg,zO,Option.bind_some];dsimp only;rw[vm];rfl
theorem vH:(1/2:Rat)=mkRat 1 2:=by rw[Rat.mkRat_eq_div];rfl
theorem qb:(1/2:Rat).num=1:=by rw[vH,Rat.num_mkRat];decide
theorem p7:(1/2:Rat).den=2:=by rw[vH,Rat.den_mkRat];decide
theorem yR:nX=some (rp (1/2)):=by
 unfold nX;unfold rp;rw[uq,qb,p7];rfl
theorem yX:fe (1/2:Rat):=by unfold fe sz;rw[qb,p7];decide
theorem lG(z:Int)(d:Nat):(mkRat z d).num.natAbs<=z.natAbs:=by
 rw[Rat.num_mkRat]
 split
 ·exact Nat.zero_le _
 ·rename_i h;rw[Int.natAbs_ediv_of_dvd]
  ·exact Nat.div_le_self _ _
  ·rw[Int.ofNat_dvd_left];exact Nat.gcd_dvd_right _ _
theorem gV(z:Int)(d:Nat)(h:d≠0):(mkRat z d).den<=d:=by
 rw[Rat.den_mkRat,if_neg h];exact Nat.div_le_self _ _
theorem fo{x:Rat}{n:Nat}:sz x<=n↔bn x.num.natAbs<=n/\bn x.den<=n:=Nat.max_le
theorem kR:bn 1=1:=rfl
theorem mo(a b:Rat):sz (a+b)<=sz a+sz b+1:=by
 rw[Rat.add_def'];have ha:=fo.1 (Nat.le_refl (sz a));have hb:=fo.1 (Nat.le_refl (sz b));refine fo.2 ⟨Nat.le_trans (ct (lG _ _)) (kx ?_ ?_),Nat.le_trans (ct (gV _ _ (Nat.mul_ne_zero a.den_nz b.den_nz))) ?_⟩
 ·rw[Int.natAbs_mul];exact cA ha.1 hb.2
 ·rw[Int.natAbs_mul,Nat.add_comm];exact cA hb.1 ha.2
 ·exact Nat.le_trans (cA ha.2 hb.2) (by omega)
theorem vg(a:Rat):sz (-a)=sz a:=by unfold sz;rw[Rat.neg_num,Rat.neg_den,Int.natAbs_neg]
theorem qg(a b:Rat):sz (a-b)<=sz a+sz b+1:=by
 rw[Rat.sub_eq_add_neg,←vg b];exact mo a (-b)
theorem sk(a b:Rat):sz (a*b)<=sz a+sz b:=by
 rw[Rat.mul_def'];have ha:=fo.1 (Nat.le_refl (sz a));have hb:=fo.1 (Nat.le_refl (sz b));refine fo.2 ⟨Nat.le_trans (ct (lG _ _)) ?_,Nat.le_trans (ct (gV _ _ (Nat.mul_ne_zero a.den_nz b.den_nz))) ?_⟩
 ·rw[Int.natAbs_mul];exact cA ha.1 hb.1
 ·exact cA ha.2 hb.2
theorem AX(a b:Rat)(h:b≠0):sz (a/b)<=sz a+sz b:=by
 rw[x6 a b h];have hn:b.num.natAbs≠0:=fun h'=>h (Rat.num_eq_zero.1 (by omega));have ha:=fo.1 (Nat.le_refl (sz a));have hb:=fo.1 (Nat.le_refl (sz b));refine fo.2 ⟨Nat.le_trans (ct (lG _ _)) ?_,Nat.le_trans (ct (gV _ _ (Nat.mul_ne_zero a.den_nz hn))) ?_⟩
 ·rw[px];exact cA ha.1 hb.2
 ·exact cA ha.2 hb.1
theorem nY(z:Int):sz (z:Rat)<=bn z.natAbs+1:=by
 rw[fo,Rat.num_intCast,Rat.den_intCast,kR];omega
theorem pd(a:Rat):sz (a.floor:Rat)<=sz a+1:=by
 have ha:=fo.1 (Nat.le_refl (sz a));refine Nat.le_trans (nY _) (Nat.succ_le_succ (Nat.le_trans (ct ?_) ha.1));rw[Rat.floor_def];exact Int.natAbs_ediv_le_natAbs _ _
theorem vf:sz (1/2:Rat)=2:=by unfold sz;rw[qb,p7];rfl
theorem Bh(a:Rat):sz (if a<0 then-a else a)=sz a:=by split<;>simp[vg]
theorem uC(a:Rat):sz (a.den:Rat)<=sz a+1:=by
 have ha:=fo.1 (Nat.le_refl (sz a));have:=nY (a.den:Int);rw[Int.natAbs_natCast]at this;exact Nat.le_trans this (by omega)
theorem x5(a:Rat)(h:fe a):lH (decide (a.num<0)) a.num.natAbs (a.den-1)=some (rp (Cc a:Rat)):=by
 have ha:sz a<=400000000000:=h;have h1:qw (a+1/2):=Nat.le_trans (mo _ _) (by rw[vf];omega);have h2:sz ((a+1/2).floor:Rat)<=400000000010:=Nat.le_trans (pd _) (by have:=mo a (1/2);rw[vf]at this;omega);have h3:qw ((a+1/2).floor:Rat):=Nat.le_trans h2 (by omega);have h4:qw (((a+1/2).floor:Rat)-a):=Nat.le_trans (qg _ _) (by omega);have hhalf:qw (1/2:Rat):=gf yX;unfold lH;rw[yR];simp only[Option.bind_some,rp];rw[pq a (1/2) (gf h) hhalf];simp only[Option.bind_some,rp];rw[mF _ h1];simp only[Option.bind_some,rp];rw[pw _ a h3 (gf h)];simp only[Option.bind_some,rp];rw[s9 _ _ h4 hhalf];simp only[Option.bind_some];generalize hf:(a+1/2).floor=f at*;unfold Cc;rw[hf];have hc:(fV ((f:Rat)-a) (1/2)==0)=decide ((f:Rat)-a=1/2):=by
  unfold fV;by_cases e:(f:Rat)-a=1/2
  ·rw[e,decide_eq_true rfl,if_neg (Rat.lt_irrefl),if_neg (Rat.lt_irrefl)];rfl
  ·rw[decide_eq_false e];rcases Rat.le_total (a:=(f:Rat)-a) (b:=1/2)with hl|hl
   ·rw[if_pos (Rat.lt_of_le_of_ne hl e)];rfl
   ·rw[if_neg (Rat.not_lt.2 hl),if_pos (Rat.lt_of_le_of_ne hl (Ne.symm e))];rfl
 rw[hc];by_cases e:(f:Rat)-a=1/2
 ·rw[if_pos (decide_eq_true e),Rat.num_intCast,jy];by_cases e0:f.natAbs=0
  ·have:f=0:=by omega
   subst this;rw[if_neg (by simp),if_neg (by omega)];rfl
  ·rw[if_pos (decide_eq_true e0),sX e0,Option.bind_some];have em:(Int.tmod (((f.natAbs%4294967296:Nat):Int)) 2==1)=decide (f%2=1):=by
    rw[Int.tmod_eq_emod_of_nonneg (by omega)];by_cases e2:f%2=1
    ·rw[decide_eq_true e2,beq_iff_eq];omega
    ·rw[decide_eq_false e2,beq_eq_false_iff_ne];omega
   rw[em];by_cases e2:f%2=1
   ·rw[if_pos (decide_eq_true e2),if_pos ⟨e,e2⟩,yA 1 (by unfold jv;omega)];simp only[Option.bind_some,rp];have:=pw (f:Rat) ((1:Int):Rat) h3 (AN (by rw[show bn (Int.natAbs 1)=1 from rfl];omega));rw[Rat.num_intCast,Rat.den_intCast]at this;rw[Rat.num_intCast,Rat.den_intCast]at this;rw[Rat.num_intCast,Rat.den_intCast,Rat.den_intCast,this,Rat.intCast_sub];rfl
   ·rw[if_neg (by simpa using e2),if_neg (fun h=>e2 h.2)];rfl
 ·rw[if_neg (by simpa using e),if_neg (fun h=>e h.1)];rfl
end Go.Am
namespace Go.Am
open Go.RowKit
theorem ou(a:Rat):decide (((aD (a.den-1)).length:Int)>0)=decide (a.den≠1):=by
 have:=a.den_pos;rw[jy];by_cases h:a.den=1
 ·rw[decide_eq_false (by omega),decide_eq_false (by omega)]
 ·rw[decide_eq_true (by omega),decide_eq_true h]
theorem vR(z:Int)(hs:z.natAbs<18446744073709551616):((if decide (z<0)=true then(if(decide ((z.natAbs:Int)<=9223372036854775808))=true then some (Ex.ret ((IntKind.i64.wrap (0-(IntKind.i64.wrap (z.natAbs:Int)))),true))else(if(!decide (z<0))=true then(if(decide ((z.natAbs:Int)<9223372036854775808))=true then some (Ex.ret ((IntKind.i64.wrap (z.natAbs:Int)),true))else some (Ex.cy ()))else some (Ex.cy ())))else(if(!decide (z<0))=true then(if(decide ((z.natAbs:Int)<9223372036854775808))=true then some (Ex.ret ((IntKind.i64.wrap (z.natAbs:Int)),true))else some (Ex.cy ()))else some (Ex.cy ()))):Option (Ex Unit (Int×Bool)))=some (if jv z then Ex.ret (z,true)else Ex.cy ()):=by
 by_cases h:z<0
 ·rw[decide_eq_true h,if_pos rfl];by_cases h1:(z.natAbs:Int)<=9223372036854775808
  ·rw[if_pos (decide_eq_true h1),if_pos (by unfold jv;omega)];have:IntKind.i64.wrap (0-IntKind.i64.wrap (z.natAbs:Int))=z:=by
    rw[IntKind.wrap_i64,IntKind.wrap_i64];omega
   rw[this]
  ·rw[if_neg (by simpa using h1),if_neg (by decide),if_neg (by unfold jv;omega)]
 ·rw[decide_eq_false h,if_neg (by decide),if_pos (by decide)];by_cases h1:(z.natAbs:Int)<9223372036854775808
  ·rw[if_pos (decide_eq_true h1),if_pos (by unfold jv;omega)];have:IntKind.i64.wrap (z.natAbs:Int)=z:=by
    rw[IntKind.wrap_i64];omega
   rw[this]
  ·rw[if_neg (by simpa using h1),if_neg (by unfold jv;omega)]
theorem xw(a:Rat):lR (decide (a.num<0)) a.num.natAbs (a.den-1)=some (if a.den=1/\jv a.num then(a.num,true)else(0,false)):=by
 unfold lR;rw[ou];by_cases h:a.den=1
 ·rw[if_neg (by simpa using h)];by_cases h2:(aD a.num.natAbs).length<=2
  ·have hs:=eQ.1 h2;rw[if_neg (by simp;omega),km hs,Option.bind_some,vR _ hs,Option.bind_some];by_cases hr:jv a.num
   ·rw[if_pos hr,if_pos ⟨h,hr⟩]
   ·rw[if_neg hr,if_neg (fun h=>hr h.2)]
  ·have:¬a.num.natAbs<18446744073709551616:=fun h=>h2 (eQ.2 h);rw[if_pos (decide_eq_true (by omega)),if_neg (by unfold jv;omega)]
 ·rw[if_pos (decide_eq_true h),if_neg (fun k=>h k.1)]
theorem zb(a:Rat)(h:fe a):ng (decide (a.num<0)) a.num.natAbs (a.den-1)=some ((bn a.num.natAbs+bn a.den:Nat):Int):=by
 have h1:bn a.num.natAbs<=400000000000:=(fo.1 h).1;have h2:bn a.den<=400000000000:=(fo.1 h).2;unfold ng;rw[od (ia (gf h)),Option.bind_some,dO a _ _ (gf h),Option.bind_some,od (fF (gf h)),Option.bind_some,wrap_small (by omega) (by omega)]
 rfl
theorem tJ{x n:Nat}(h:bn x<=n):(l7 x).length<=n+1:=by
 unfold l7
 split
 ·simp
 ·unfold bytesOf;rw[List.length_map,List.length_reverse];exact Nat.le_trans (um n x (mH h)) (by omega)
theorem tC{a:Nat}(h:sm a):uU a=some (l7 a):=cZ h rfl
theorem yQ(a:Rat)(h:fe a):m4 (decide (a.num<0)) a.num.natAbs (a.den-1)=some (Cm a):=by
 have h1:(l7 a.num.natAbs).length<=400000000001:=tJ (fo.1 h).1;have h2:(l7 a.den).length<=400000000001:=tJ (fo.1 h).2;unfold m4 Cm;rw[tC (ia (gf h)),Option.bind_some,ou];have e1:(if decide (a.num<0)=true then bC (([45]:List UInt8).length+(l7 a.num.natAbs).length<=9223372036854775807) (some ((([45]:List UInt8)++l7 a.num.natAbs)))else some (l7 a.num.natAbs))=some ((if a.num<0 then [45]else [])++l7 a.num.natAbs):=by
  by_cases h:a.num<0
  ·rw[if_pos (decide_eq_true h),if_pos h];exact cZ (by simp only[List.length_cons,List.length_nil];omega) rfl
  ·rw[if_neg (by simpa using h),if_neg h];rfl
 rw[e1,Option.bind_some];have h3:((if a.num<0 then [45]else [])++l7 a.num.natAbs:List UInt8).length<=400000000002:=by
  rw[List.length_append];split<;>simp only[List.length_cons,List.length_nil]<;>omega
 generalize ((if a.num<0 then [45]else [])++l7 a.num.natAbs:List UInt8)=t at*;by_cases hd:a.den=1
 ·rw[if_neg (by simpa using hd),if_pos hd,List.append_nil];rfl
 ·rw[if_pos (decide_eq_true hd),if_neg hd,dO a _ _ (gf h),Option.bind_some,tC (fF (gf h)),Option.bind_some];rw[bK (by simp only[List.length_cons,List.length_nil];omega),bK (by simp only[List.length_append,List.length_cons,List.length_nil];omega)]
  rfl
theorem vr(k:Nat):((2^k:Nat):Rat)=2^k:=by rw[Rat.natCast_pow];rfl
theorem vJ(k:Int)(h:0<=k/\k<=100000):ob k=some (rp ((2:Rat)^k.toNat)):=by
 obtain⟨n,rfl⟩:∃n:Nat,k=n:=⟨k.toNat,by omega⟩;unfold ob;rw[uq,Option.bind_some,pf (kH (by omega)) (by omega),Option.bind_some,Nat.one_mul,uJ,Int.toNat_natCast,vr]
 rfl
theorem ux{x m:Nat}(h:bn x<=2*m):bn (cd x)<=m:=by
 rw[fu]at*;apply Classical.byContradiction;intro hc;have h1:=Nat.mul_le_mul (Nat.le_of_not_lt hc) (Nat.le_of_not_lt hc);have h2:=j4 x;rw[←Nat.pow_add,show m+m=2*m from by omega]at h1;omega
def zU(a:Rat)(k:Nat):Rat:=((cd (a.num.natAbs*2^(2*k)/a.den):Nat):Rat)/2^k
def sF(a:Rat)(k:Int):Option (Rat×Int):=bC (fe a/\jv k) (some (if k<0\/64<k then(0,3)else if a<0 then(0,8)else(zU a k.toNat,0)))
theorem Ax(k:Nat):sz ((2:Rat)^k)<=k+1:=by
 rw[←vr,fo,Rat.num_natCast,Rat.den_natCast,Int.natAbs_natCast,kR];exact⟨p_ (Nat.lt_succ_self k),by omega⟩
theorem AP(k:Nat)(h:k<=100000):qw ((2:Rat)^k):=by
 have:=Ax k;unfold qw;generalize sz ((2:Rat)^k)=t at*;omega
theorem As(k:Nat):(2:Rat)^k≠0:=by
 have:(0:Rat)<2^k:=Rat.pow_pos (by decide);intro h;rw[h]at this;exact Rat.lt_irrefl this
theorem za{x n:Nat}(hx:bn x<=400000000000)(hn:n<=64):bn (x*2^(2*n))<=400000000129:=by
 have h1:2*n<129:=by omega
 exact Nat.le_trans (cA hx (p_ h1)) (by decide)
theorem wg(N d n:Nat)(hn:n<=64)(hd:d≠0)(hN:sm N)(hsd:sm d)(hb:bn (N*2^(2*n))<=400000000129)(hq:bn (N*2^(2*n)/d)<=400000000130):
  (qV N (IntKind.i64.wrap (2*(n:Int)))).bind (fun v10=>(ji v10 d).bind fun(v14,_)=>nO v14)=some (cd (N*2^(2*n)/d)):=by
 have ew:IntKind.i64.wrap (2*(n:Int))=((2*n:Nat):Int):=by rw[wrap_small (by omega) (by omega)];omega
 have hk:2*n<35184372088832:=by omega
 rw[ew,pf hN hk,Option.bind_some];generalize N*2^(2*n)=X at*;rw[gD hd (gS hb (by omega)) hsd,Option.bind_some];dsimp only;exact cZ (Nat.le_trans hq (by omega)) rfl
theorem zy(X:Nat)(h:bn X<=400000000130):qw ((cd X:Nat):Rat):=by
 have h2:bn (cd X)<=200000000065:=ux h;refine fo.2 ⟨?_,by rw[Rat.den_natCast,kR];omega⟩;rw[Rat.num_natCast,Int.natAbs_natCast];exact Nat.le_trans h2 (by omega)
theorem xZ(X n:Nat)(hn:n<=64)(hq:bn X<=400000000130):((qe false (cd X)).bind fun((v19,v20),v21)=>(ob (n:Int)).bind fun((v23,v24),v25)=>(jn v19 v20 v21 v23 v24 v25).bind fun((v27,v28),v29)=>some (((v27,v28),v29),(0:Int)))=some (rp (((cd X:Nat):Rat)/2^n),0):=by
 have hf:=vJ (n:Int) ⟨by omega,by omega⟩;have hw:=AP n (by omega);have hne:=As n;rw[Int.toNat_natCast]at hf;rw[hf,uJ];simp only[Option.bind_some,rp];rw[oe _ _ hne (zy _ hq) hw]
 rfl
theorem zQ(a:Rat)(k:Int)(h:fe a):mJ (decide (a.num<0)) a.num.natAbs (a.den-1) k=some (if k<0\/64<k then(rp 0,3)else if a<0 then(rp 0,8)else(rp (zU a k.toNat),0)):=by
 unfold mJ;by_cases h0:k<0
 ·rw[if_pos (decide_eq_true h0),if_pos (.inl h0)];rfl
 rw[if_neg (by simpa using h0)];by_cases h1:64<k
 ·rw[if_pos (decide_eq_true h1),if_pos (.inr h1)];rfl
 obtain⟨n,rfl⟩:∃n:Nat,k=n:=⟨k.toNat,by omega⟩;have hn64:n<=64:=by omega
 rw[if_neg (by simpa using h1),if_neg (by omega),oa,Option.bind_some];by_cases hn:a<0
 ·rw[if_pos (by unfold yI;rw[if_pos hn];decide),if_pos hn];rfl
 rw[if_neg (by unfold yI;rw[if_neg hn];split<;>decide),if_neg hn];have hb:=za (fo.1 h).1 hn64;have hq:=Nat.le_trans (Nat.le_trans (ct (Nat.div_le_self (a.num.natAbs*2^(2*n)) a.den)) hb) (show 400000000129<=400000000130 by decide);have hc:=wg a.num.natAbs a.den n hn64 a.den_nz (ia (gf h)) (fF (gf h)) hb hq;obtain⟨v10,e10,hc⟩:=bind_some hc;obtain⟨⟨v14,v15⟩,e14,hc⟩:=bind_some hc;rw[e10,Option.bind_some,dO a _ _ (gf h),Option.bind_some,e14,Option.bind_some];dsimp only at hc|-;rw[hc,Option.bind_some];exact xZ _ n hn64 hq
theorem bA{a1:Int}{r2:Rat}(h:aT a1=some r2):bb PP 40 [] [D.int .i64 a1] [] (qD r2):=by
 obtain⟨h0,h⟩:=aG h;injection h with h;subst h;exact Aa (yA a1 h0)
theorem Bi{a1:Int}{r2:Rat}(h:uM a1=some r2):bb PP 171 [] [D.int .i64 a1] [] (qD r2):=by
 obtain⟨h0,h⟩:=aG h;injection h with h;subst h;exact xG (vJ a1 h0)
theorem fL{a1:Rat}{a2:Rat}{r3:Rat}(h:dH a1 a2=some r3):bb PP 42 [] [qD a1,qD a2] [] (qD r3):=by
 obtain⟨h0,h⟩:=aG h;injection h with h;subst h;exact rO (pq a1 a2 (gf h0.1) (gf h0.2))
theorem kv{a1:Rat}{a2:Rat}{r3:Rat}(h:gR a1 a2=some r3):bb PP 44 [] [qD a1,qD a2] [] (qD r3):=by
 obtain⟨h0,h⟩:=aG h;injection h with h;subst h;exact mL (pw a1 a2 (gf h0.1) (gf h0.2))
theorem di{a1:Rat}{a2:Rat}{r3:Rat}(h:cx a1 a2=some r3):bb PP 46 [] [qD a1,qD a2] [] (qD r3):=by
 obtain⟨h0,h⟩:=aG h;injection h with h;subst h;exact zc (yC a1 a2 (gf h0.1) (gf h0.2))
theorem e_{a1:Rat}{a2:Rat}{r3:Rat}(h:cK a1 a2=some r3):bb PP 164 [] [qD a1,qD a2] [] (qD r3):=by
 obtain⟨h0,h⟩:=aG h;injection h with h;subst h;exact qv (oe a1 a2 h0.1 (gf h0.2.1) (gf h0.2.2))
theorem Bs{a1:Rat}{a2:Rat}{r3:Rat}{r4:Int}(h:yb a1 a2=some (r3,r4)):bb PP 38 [] [qD a1,qD a2] [] (D.fA [qD r3,D.int .i64 r4]):=by
 obtain⟨h0,h⟩:=aG h;have e:=xM a1 a2 (gf h0.1) (gf h0.2);injection h with h;by_cases hd:a2=0
 ·rw[if_pos hd]at h e;injection h with h1 h2;subst h1;subst h2;exact vM e
 ·rw[if_neg hd]at h e;injection h with h1 h2;subst h1;subst h2;exact vM e
theorem m1{a1:Rat}{r2:Rat}(h:jf a1=some r2):bb PP 48 [] [qD a1] [] (qD r2):=by
 injection h with h;subst h;exact oU (nE a1)
theorem xz{a1:Rat}{r2:Rat}(h:tG a1=some r2):bb PP 50 [] [qD a1] [] (qD r2):=by
 injection h with h;subst h;exact zG (xq a1)
theorem pH{a1:Rat}{a2:Rat}{r3:Int}(h:j0 a1 a2=some r3):bb PP 35 [] [qD a1,qD a2] [] (D.int .i64 r3):=by
 obtain⟨h0,h⟩:=aG h;injection h with h;subst h;exact oK (s9 a1 a2 (gf h0.1) (gf h0.2))
theorem cV{a1:Rat}{r2:Int}(h:cq a1=some r2):bb PP 24 [] [qD a1] [] (D.int .i64 r2):=by
 injection h with h;subst h;exact qd (oa a1 _)
theorem BR{a1:Rat}{r2:Rat}(h:Af a1=some r2):bb PP 73 [] [qD a1] [] (qD r2):=by
 injection h with h;subst h;exact yY (yH a1 _)
theorem tN{a1:Rat}{r2:Rat}(h:m_ a1=some r2):bb PP 76 [] [qD a1] [] (qD r2):=by
 obtain⟨h0,h⟩:=aG h;injection h with h;subst h;exact yW (xk a1 _ _ (gf h0))
theorem nh{a1:Rat}{r2:Rat}(h:i3 a1=some r2):bb PP 78 [] [qD a1] [] (qD r2):=by
 obtain⟨h0,h⟩:=aG h;injection h with h;subst h;exact nN (mF a1 (gf h0))
theorem AO{a1:Rat}{r2:Rat}(h:uK a1=some r2):bb PP 80 [] [qD a1] [] (qD r2):=by
 obtain⟨h0,h⟩:=aG h;injection h with h;subst h;exact yp (wS a1 (gf h0))
theorem dE{a1:Rat}{r2:Rat}(h:kr a1=some r2):bb PP 82 [] [qD a1] [] (qD r2):=by
 obtain⟨h0,h⟩:=aG h;injection h with h;subst h;exact vO (x5 a1 h0)
theorem oV{a1:Rat}{r2:Int}{r3:Bool}(h:i7 a1=some (r2,r3)):bb PP 69 [] [qD a1] [] (D.fA [D.int .i64 r2,D.bool r3]):=by
 obtain⟨h0,h⟩:=aG h;exact wu ((xw a1).trans h)
theorem mE{a1:Rat}{r2:Int}(h:qh a1=some r2):bb PP 71 [] [qD a1] [] (D.int .i64 r2):=by
 obtain⟨h0,h⟩:=aG h;exact yn ((zb a1 h0).trans h)
theorem Av{a1:Rat}{r2:List UInt8}(h:xD a1=some r2):bb PP 33 [] [qD a1] [] (b_ r2):=by
 obtain⟨h0,h⟩:=aG h;exact x7 ((yQ a1 h0).trans h)
theorem xL{a1:Rat}{a2:Int}{r3:Rat}{r4:Int}(h:sF a1 a2=some (r3,r4)):bb PP 29 [] [qD a1,D.int .i64 a2] [] (D.fA [qD r3,D.int .i64 r4]):=by
 obtain⟨h0,h⟩:=aG h;have e:=zQ a1 a2 h0.1;injection h with h;by_cases hd:a2<0\/64<a2
 ·rw[if_pos hd]at h e;injection h with h1 h2;subst h1;subst h2;exact pv e
 ·rw[if_neg hd]at h e;by_cases hn:a1<0
  ·rw[if_pos hn]at h e;injection h with h1 h2;subst h1;subst h2;exact pv e
  ·rw[if_neg hn]at h e;injection h with h1 h2;subst h1;subst h2;exact pv e
end Go.Am
namespace Go.Am
open Go.RowKit
set_option maxRecDepth 100000
noncomputable section
end
end Go.Am
namespace Go.Am
open Go.RowKit
end Go.Am
namespace Go.Am
open Go.RowKit
theorem i64_in{n:Int}(h:-9223372036854775808<=n/\n<9223372036854775808):IntKind.i64.wrap n=n:=wrap_small h.1 h.2
end Go.Am
namespace Go.Am
open Go.RowKit
end Go.Am
namespace Go.Am
open Go.RowKit
end Go.Am
namespace Go.Am
open Go.RowKit
theorem zF(n:Nat):decide ((n:Int)<0)=false:=decide_eq_false (by omega)
end Go.Am
namespace Go.Am
open Go.RowKit
theorem we:∀(s:List UInt8),qH s->ja s<10^s.length:=by
 intro s;have key:∀(n:Nat) (l:List UInt8),l.length=n->qH l->ja l<10^n:=by
  intro n
  induction n with
  |zero=>intro l hl _;rw[List.length_eq_zero_iff.1 hl];simp[ja]
  |succ n ih=>
   intro l hl hd;have hne:l≠[]:=by intro h;rw[h]at hl;simp at hl
   obtain⟨m,b,rfl⟩:∃m b,l=m++[b]:=⟨l.dropLast,l.getLast hne,(List.dropLast_concat_getLast hne).symm⟩;have hm:m.length=n:=by simpa using hl
   have h1:=ih m hm (fun c hc=>hd c (by simp[hc]));have h2:=hd b (by simp);rw[lX,Nat.pow_succ];omega
 exact key s.length s rfl
theorem zH{s:List UInt8}(hd:qH s)(hl:s.length<=1000000000000):bn (ja s)<=4*s.length:=by
 have:=we s hd;refine fu.2 (Nat.lt_of_lt_of_le this ?_);rw[Nat.pow_mul];exact Nat.pow_le_pow_left (by decide) _
end Go.Am
namespace Go.Am
open Go.RowKit
set_option maxRecDepth 100000
noncomputable section
end
end Go.Am
namespace Go.Am
open Go.RowKit
section
variable {l m:List Int}
end
end Go.Am
namespace Go.Am
open Go.RowKit
section
variable {l m:List Int}
end
end Go.Am
namespace Go.Am
open Go.RowKit
section
variable {l m:List Int}
end
end Go.Am
namespace Go.Am
open Go.RowKit
def gx(x:Rat):Rat:=if x<0 then-x else x
def closer(a c b:Rat):Bool:=decide (fV (gx (c-a)) (gx (b-a))<0)||(fV (gx (c-a)) (gx (b-a))==0&&(decide (fK c.den b.den<0)||(fK c.den b.den==0&&decide (fV c b<0))))
def jD(a:Rat)(n j:Nat)(b:Rat):Rat:=if closer a (mkRat ((a*(n:Int)).floor+(j:Int)) n) b then mkRat ((a*(n:Int)).floor+(j:Int)) n else b
def kA(a:Rat):Nat->Rat
 |0=>(a.floor:Rat)
 |n+1=>jD a (n+1) 1 (jD a (n+1) 0 (kA a n))
theorem BK(z:Int)(d n:Nat)(hd:d≠0)(h1:bn z.natAbs<=n)(h2:bn d<=n):sz (mkRat z d)<=n:=
 fo.2 ⟨Nat.le_trans (ct (lG _ _)) h1,Nat.le_trans (ct (gV _ _ hd)) h2⟩
theorem vE(a:Rat):sz (gx a)=sz a:=by unfold gx;exact Bh a
section
open D
end
end Go.Am
namespace Go.Am
open Go.RowKit
set_option maxRecDepth 100000
noncomputable section
def iX(a1:Bool)(a2:Nat)(a3:Nat):Option (((Bool×Nat)×Nat)×Bool):=(nO a2).bind fun v4=>(dp a1 a2 a3).bind fun v6=>(nO v6).bind fun v8=>(lz v4 v4).bind fun v10=>(om v10 a2).bind fun v12=>(if(v12 !=0)=true then some (((false,0),0),false)else(lz v8 v8).bind fun v15=>(dp a1 a2 a3).bind fun v17=>(om v15 v17).bind fun v19=>(if(v19 !=0)=true then some (((false,0),0),false)else(dD false v4 v8).bind fun((v22,v23),v24)=>some (((v22,v23),v24),true)))
theorem nq{a1:Bool}{a2:Nat}{a3:Nat}{r26:Bool}{r27:Nat}{r28:Nat}{r29:Bool}(h:iX a1 a2 a3=some (((r26,r27),r28),r29)):bb PP 232 [] [D.agg ([D.bool a1,ah a2,ah a3])] [] (D.fA [D.agg ([D.bool r26,ah r27,ah r28]),D.bool r29]):=by
 unfold iX at h;refine .of Go.Proofs.Tryz.func232 rfl (by kernel_rfl) rfl rfl rfl rfl rfl rfl (fun A w0 L b=>?_);show Ok PP _ [(0,D.agg ([D.bool a1,ah a2,ah a3]))] [] _ _;refine .ak (.iL rfl rfl<|.eZ ([D.bool false,ah 0,ah 0]) ay ⟨.refl _,aM,aM,trivial⟩ rfl<|.av rfl<|.nil) rfl ?_;obtain⟨v4,e5,h⟩:=bind_some h;obtain⟨v6,e7,h⟩:=bind_some h;obtain⟨v8,e9,h⟩:=bind_some h;refine .cn bP (.fa rfl aU<|.fa rfl aC<|.bH (ah a2) rfl rfl aH rfl<|.af (uw e5) ⟨rfl,trivial⟩ trivial trivial<|.bg ([D.bool a1,ah a2,ah a3]) rfl rfl aa rfl rfl<|.af (eG e7) ⟨rfl,trivial⟩ trivial trivial<|.af (uw e9) ⟨rfl,trivial⟩ trivial trivial<|.av rfl<|.av rfl<|.nil) rfl (by kernel_rfl) ?_;refine .sq ?_;obtain⟨v10,e11,h⟩:=bind_some h;obtain⟨v12,e13,h⟩:=bind_some h;by_cases c14:(v12 !=0)=true
 ·replace h:=ab c14 h;refine .cn bP (.mv rfl<|.mv rfl<|.af (mb e11) ⟨rfl,rfl,trivial⟩ trivial trivial<|.fa rfl aU<|.fa rfl aC<|.bH (ah a2) rfl rfl aH rfl<|.af (pc e13) ⟨rfl,rfl,trivial⟩ trivial trivial<|.cm rfl rfl rfl<|.mv rfl<|.gk c14<|.gk c14<|.gk c14<|.gk c14<|.gk c14<|.gk c14<|.gk c14<|.an rfl c14 rfl<|.nil) rfl (by kernel_rfl) ?_;refine .bT rfl rfl ?_;refine .ak (.jb ([D.bool false,ah 0,ah 0]) [] ay bw trivial trivial ⟨.refl _,aM,aM,trivial⟩<|.cc ([D.bool false,ah 0,ah 0]) rfl rfl rfl aa rfl rfl rfl<|.av rfl<|.nil) rfl ?_;cases h;refine .aF (fun _ _ hb=>hb) rfl (.cons (.agg rfl rfl aa rfl) (.t1 (.tmp rfl))) (.refl _) trivial trivial
 ·replace h:=ae c14 h;obtain⟨v15,e16,h⟩:=bind_some h;obtain⟨v17,e18,h⟩:=bind_some h;obtain⟨v19,e20,h⟩:=bind_some h;refine .cn bP (.mv rfl<|.mv rfl<|.af (mb e11) ⟨rfl,rfl,trivial⟩ trivial trivial<|.fa rfl aU<|.fa rfl aC<|.bH (ah a2) rfl rfl aH rfl<|.af (pc e13) ⟨rfl,rfl,trivial⟩ trivial trivial<|.cm rfl rfl rfl<|.mv rfl<|.gz c14<|.mv rfl<|.gz c14<|.mv rfl<|.gz c14<|.af (mb e16) ⟨rfl,rfl,trivial⟩ trivial trivial<|.gz c14<|.bg ([D.bool a1,ah a2,ah a3]) rfl rfl aa rfl rfl<|.gz c14<|.af (eG e18) ⟨rfl,trivial⟩ trivial trivial<|.gz c14<|.af (pc e20) ⟨rfl,rfl,trivial⟩ trivial trivial<|.gz c14<|.cm rfl rfl rfl<|.al rfl c14 rfl<|.nil) rfl (by kernel_rfl) ?_;by_cases c21:(v19 !=0)=true
  ·replace h:=ab c21 h;refine .bT rfl c21 ?_;refine .ak (.jb ([D.bool false,ah 0,ah 0]) [] ay bw trivial trivial ⟨.refl _,aM,aM,trivial⟩<|.cc ([D.bool false,ah 0,ah 0]) rfl rfl rfl aa rfl rfl rfl<|.av rfl<|.nil) rfl ?_;cases h;refine .aF (fun _ _ hb=>hb) rfl (.cons (.agg rfl rfl aa rfl) (.t1 (.tmp rfl))) (.refl _) trivial trivial
  ·replace h:=ae c21 h;refine .cC rfl c21 ?_;refine .skip (Ok.on ?_);obtain⟨⟨⟨v22,v23⟩,v24⟩,e25,h⟩:=bind_some h;refine .ak (.mv rfl<|.jb ([D.bool false,ah v4]) [(1,_,ah v4,[ah v4])] cD dC ⟨rfl,rfl,.one rfl,rfl,trivial⟩ ⟨rfl,trivial⟩ ⟨.refl _,.refl _,trivial⟩<|.mv rfl<|.af (jq e25) ⟨rfl,rfl,trivial⟩ trivial trivial<|.cc ([D.bool v22,ah v23,ah v24]) rfl rfl rfl aa rfl rfl rfl<|.av rfl<|.nil) rfl ?_;cases h;refine .aF (fun _ _ hb=>hb) rfl (.cons (.agg rfl rfl aa rfl) (.t1 (.tmp rfl))) (.refl _) trivial trivial
end
end Go.Am
namespace Go.Am
open Go.RowKit
def rt(a:Rat):Rat:=mkRat (cd a.num.natAbs:Nat) (cd a.den)
def uy(a:Rat):Prop:=cd a.num.natAbs*cd a.num.natAbs=a.num.natAbs/\cd a.den*cd a.den=a.den
instance (a:Rat):Decidable (uy a):=inferInstanceAs (Decidable (_/\_))
theorem qL(x:Nat):cd x<=x:=by
 rcases Nat.eq_zero_or_pos (cd x)with h|h
 ·omega
 ·exact Nat.le_trans (Nat.le_mul_of_pos_left _ h) (j4 x)
theorem wO{x:Nat}(h:x≠0):cd x≠0:=by
 intro h0;have:=mY x;rw[h0]at this;omega
theorem wQ{x y:Nat}:(fK x y==0)=decide (x=y):=by
 unfold fK;by_cases h:x=y
 ·subst h;simp
 ·rw[decide_eq_false h];by_cases h1:x<y
  ·rw[if_pos h1];rfl
  ·rw[if_neg h1,if_pos (by omega)];rfl
theorem uX{x y:Nat}:(fK x y !=0)=decide (x≠y):=by
 have:=wQ (x:=x) (y:=y);unfold bne;rw[this];by_cases h:x=y
 ·rw[decide_eq_true h,decide_eq_false (fun k=>k h)];rfl
 ·rw[decide_eq_false h,decide_eq_true h];rfl
theorem rz{a:Nat}(h:bn a<=2199023255552):nO a=some (cd a):=cZ h rfl
theorem zV{x:Nat}(h:bn x<=400000000000):sm (cd x)/\sm (cd x*cd x):=
 ⟨gS (Nat.le_trans (ct (qL x)) h) (by omega),gS (Nat.le_trans (ct (j4 x)) h) (by omega)⟩
theorem qN(a:Rat)(h:fe a)(h0:¬a<0):iX (decide (a.num<0)) a.num.natAbs (a.den-1)=some (if uy a then(rp (rt a),true)else(rp 0,false)):=by
 have h1:=(fo.1 h).1;have h2:=(fo.1 h).2;obtain⟨s1,s2⟩:=zV h1;obtain⟨s3,s4⟩:=zV h2;unfold iX;rw[rz (Nat.le_trans h1 (by omega)),Option.bind_some,dO a _ _ (gf h),Option.bind_some,rz (Nat.le_trans h2 (by omega)),Option.bind_some,gh s1 s1,Option.bind_some,jV s2 (ia (gf h)),Option.bind_some,uX];by_cases c1:cd a.num.natAbs*cd a.num.natAbs=a.num.natAbs
 ·rw[if_neg (by simpa using c1),gh s3 s3,Option.bind_some,Option.bind_some,jV s4 (fF (gf h)),Option.bind_some,uX];by_cases c2:cd a.den*cd a.den=a.den
  ·rw[if_neg (by simpa using c2),if_pos (show uy a from⟨c1,c2⟩)];have hq:=iC (cd a.num.natAbs:Nat) (cd a.den) (wO a.den_nz) (by rw[Int.natAbs_natCast];exact s1) s3;rw[zF,Int.natAbs_natCast]at hq;rw[hq];rfl
  ·rw[if_pos (by simpa using c2),if_neg (fun h:uy a=>c2 h.2)];rfl
 ·rw[if_pos (by simpa using c1),if_neg (fun h:uy a=>c1 h.1)];rfl
def yr(a:Rat):Option (Rat×Bool):=bC (fe a/\¬a<0) (some (if uy a then(rt a,true)else(0,false)))
theorem A1{a1:Rat}{r2:Rat}{r3:Bool}(h:yr a1=some (r2,r3)):bb PP 232 [] [qD a1] [] (D.fA [qD r2,D.bool r3]):=by
 obtain⟨⟨h0,h1⟩,h⟩:=aG h;have e:=qN a1 h0 h1;injection h with h;by_cases hd:uy a1
 ·rw[if_pos hd]at h e;injection h with h1 h2;subst h1;subst h2;exact nq e
 ·rw[if_neg hd]at h e;injection h with h1 h2;subst h1;subst h2;exact nq e
section
variable {l m:List Int}
end
end Go.Am
namespace Go.Proofs
open Go.Shelf
def Tryz.s_:Go.Shelf.Ren:=⟨fun|160=>213|232=>241|231=>240|227=>242|234=>244|233=>243|236=>246|235=>245|228=>258|271=>261|151=>260|197=>259|120=>266|152=>265|260=>264|137=>267|119=>268|224=>256|225=>255|217=>254|266=>262|n=>n,fun|9=>9|4=>4|3=>3|5=>5|117=>271|116=>270|0=>0|124=>274|21=>21|105=>283|46=>246|119=>288|139=>291|138=>290|n=>n,fun|3=>1|4=>2|n=>n⟩
theorem Tryz.y6:Go.Proofs.Lays.n160 Tryz.prog Tryz.s_:={
 mixed:=by kernel_rfl
 f119:=Tryz.func268.trans (congrArg some (by kernel_rfl))
 f120:=Tryz.func266.trans (congrArg some (by kernel_rfl))
 f137:=Tryz.func267.trans (congrArg some (by kernel_rfl))
 f151:=Tryz.func260.trans (congrArg some (by kernel_rfl))
 f152:=Tryz.func265.trans (congrArg some (by kernel_rfl))
 f160:=Tryz.func213.trans (congrArg some (by kernel_rfl))
 f197:=Tryz.func259.trans (congrArg some (by kernel_rfl))
 f217:=Tryz.func254.trans (congrArg some (by kernel_rfl))
 f224:=Tryz.func256.trans (congrArg some (by kernel_rfl))
 f225:=Tryz.func255.trans (congrArg some (by kernel_rfl))
 f227:=Tryz.func242.trans (congrArg some (by kernel_rfl))
 f228:=Tryz.func258.trans (congrArg some (by kernel_rfl))
 f231:=Tryz.func240.trans (congrArg some (by kernel_rfl))
 f232:=Tryz.func241.trans (congrArg some (by kernel_rfl))
 f233:=Tryz.func243.trans (congrArg some (by kernel_rfl))
 f234:=Tryz.func244.trans (congrArg some (by kernel_rfl))
 f235:=Tryz.func245.trans (congrArg some (by kernel_rfl))
 f236:=Tryz.func246.trans (congrArg some (by kernel_rfl))
 f260:=Tryz.func264.trans (congrArg some (by kernel_rfl))
 f266:=Tryz.func262.trans (congrArg some (by kernel_rfl))
 f271:=Tryz.func261.trans (congrArg some (by kernel_rfl))
 t0:=Tryz.underlying0
 a0:=Tryz.isAgg0
 z0:=Tryz.sizeOf0
 v0:=Tryz.zeroValue0
 t3:=Tryz.underlying3
 a3:=Tryz.isAgg3
 z3:=Tryz.sizeOf3
 v3:=Tryz.zeroValue3
 t4:=Tryz.underlying4
 a4:=Tryz.isAgg4
 z4:=Tryz.sizeOf4
 v4:=Tryz.zeroValue4
 t5:=Tryz.underlying5
 a5:=Tryz.isAgg5
 z5:=Tryz.sizeOf5
 v5:=Tryz.zeroValue5
 t9:=Tryz.underlying9
 a9:=Tryz.isAgg9
 z9:=Tryz.sizeOf9
 v9:=Tryz.zeroValue9
 t21:=Tryz.underlying21
 a21:=Tryz.isAgg21
 z21:=Tryz.sizeOf21
 v21:=Tryz.zeroValue21
 t46:=Tryz.underlying246
 a46:=Tryz.isAgg246
 z46:=Tryz.sizeOf246
 v46:=Tryz.zeroValue246
 t105:=Tryz.underlying283
 a105:=Tryz.isAgg283
 z105:=Tryz.sizeOf283
 v105:=Tryz.zeroValue283
 t116:=Tryz.underlying270
 a116:=Tryz.isAgg270
 z116:=Tryz.sizeOf270
 t117:=Tryz.underlying271
 a117:=Tryz.isAgg271
 z117:=Tryz.sizeOf271
 v117:=Tryz.zeroValue271
 t119:=Tryz.underlying288
 a119:=Tryz.isAgg288
 z119:=Tryz.sizeOf288
 t124:=Tryz.underlying274
 a124:=Tryz.isAgg274
 z124:=Tryz.sizeOf274
 v124:=Tryz.zeroValue274
 t138:=Tryz.underlying290
 a138:=Tryz.isAgg290
 z138:=Tryz.sizeOf290
 v138:=Tryz.zeroValue290
 t139:=Tryz.underlying291
 a139:=Tryz.isAgg291
 z139:=Tryz.sizeOf291
 v139:=Tryz.zeroValue291
 g3:=by kernel_rfl
 g4:=by kernel_rfl}
def Tryz.sZ:Go.Shelf.Ren:=⟨fun|219=>239|217=>254|225=>255|224=>256|267=>257|266=>262|314=>263|n=>n,fun|9=>9|3=>3|4=>4|5=>5|46=>246|146=>275|51=>230|n=>n,fun|1=>0|n=>n⟩
theorem Tryz.zI:Go.Proofs.Lays.n219 Tryz.prog Tryz.sZ:={
 mixed:=by kernel_rfl
 f217:=Tryz.func254.trans (congrArg some (by kernel_rfl))
 f219:=Tryz.func239.trans (congrArg some (by kernel_rfl))
 f224:=Tryz.func256.trans (congrArg some (by kernel_rfl))
 f225:=Tryz.func255.trans (congrArg some (by kernel_rfl))
 f266:=Tryz.func262.trans (congrArg some (by kernel_rfl))
 f267:=Tryz.func257.trans (congrArg some (by kernel_rfl))
 f314:=Tryz.func263.trans (congrArg some (by kernel_rfl))
 t3:=Tryz.underlying3
 a3:=Tryz.isAgg3
 z3:=Tryz.sizeOf3
 v3:=Tryz.zeroValue3
 t4:=Tryz.underlying4
 a4:=Tryz.isAgg4
 z4:=Tryz.sizeOf4
 v4:=Tryz.zeroValue4
 t5:=Tryz.underlying5
 a5:=Tryz.isAgg5
 z5:=Tryz.sizeOf5
 v5:=Tryz.zeroValue5
 t9:=Tryz.underlying9
 a9:=Tryz.isAgg9
 z9:=Tryz.sizeOf9
 v9:=Tryz.zeroValue9
 t46:=Tryz.underlying246
 a46:=Tryz.isAgg246
 z46:=Tryz.sizeOf246
 v46:=Tryz.zeroValue246
 t51:=Tryz.underlying230
 a51:=Tryz.isAgg230
 z51:=Tryz.sizeOf230
 v51:=Tryz.zeroValue230
 t146:=Tryz.underlying275
 a146:=Tryz.isAgg275
 z146:=Tryz.sizeOf275
 v146:=Tryz.zeroValue275
 g1:=by kernel_rfl}
open Go.RowKit Go.Lib in
theorem Tryz.stringslite_Index_one(s:ByteArray)(c:UInt8)(w:World):
  Calls Tryz.prog 239 #[.string s,.string ⟨#[c]⟩] w fun e w'=>e=.returned (.int .i64 (Lib.indexByte s.data.toList c))/\w'=w:=Any.stringslite_Index_one Tryz.zI s c w
end Go.Proofs
namespace Go.Am
open Go.RowKit
theorem j5.uY{P:Program}{f:FuncId}{ss:List (List UInt8)}{d:D}(hok:l8 P f=true)(hnm:d.nm=[])(v:Value)(hv:∀ε w S,d.p ε w S v)
  (h:∀w,Calls P f (ss.map fun s=>Value.string ⟨s.toArray⟩).toArray w (fun e w'=>e=.returned v/\Below w.heap.size w w')):j5 P f (ss.map b_) d where
 ok:=hok
 bF:=by
  induction ss with
  |nil=>rfl
  |cons s ss ih=>exact sE (fun _=>rfl) (s::ss)
 nm:=hnm
 calls:=by
  intro A w vs hvs;have e:vs=ss.map fun s=>Value.string ⟨s.toArray⟩:=by
   clear h
   induction ss generalizing vs with
   |nil=>cases vs with|nil=>rfl|cons _ _=>exact hvs.elim
   |cons s ss ih=>
    cases vs with
    |nil=>exact hvs.elim
    |cons v vs=>rw[List.map_cons,ih vs hvs.2,show v=_ from hvs.1]
  subst e;exact(h w).mono (fun e w' ⟨h1,h2⟩=>⟨v,h1,hv _ _ _,h2⟩)
def ua(s cut:List UInt8):Option (List UInt8):=bC (s.length<=9223372036854775807/\cut.length<4294967281/\∀b∈cut,b.toNat<128) (some (Lib.trimS s cut))
theorem AF{s cut r:List UInt8}(h:ua s cut=some r):bb PP 213 [] [b_ s,b_ cut] [] (b_ r):=by
 obtain⟨⟨h0,h1,h2⟩,h⟩:=aG h;injection h with h;subst h;refine(j5.uY (ss:=[s,cut]) (by kernel_rfl) rfl (.string ⟨(Lib.trimS s cut).toArray⟩) (fun _ _ _=>rfl) (fun w=>?_)).gen;exact Go.Proofs.Any.strings_Trim_ascii Go.Proofs.Tryz.y6 (fun _=>by kernel_rfl) (by kernel_rfl) ⟨s.toArray⟩ ⟨cut.toArray⟩ w h0 h1 (fun j b hj=>h2 b (List.mem_of_getElem? hj))
def sv(s sep:List UInt8):Option Int:=bC (sep.length=1) (some (Lib.indexByte s (sep.getD 0 0)))
theorem zn{s sep:List UInt8}{r:Int}(h:sv s sep=some r):bb PP 239 [] [b_ s,b_ sep] [] (D.int .i64 r):=by
 obtain⟨h0,h⟩:=aG h;injection h with h;subst h
 match sep,h0 with
 |[c],_=>
  refine(j5.uY (ss:=[s,[c]]) (by kernel_rfl) rfl (.int .i64 (Lib.indexByte s c)) (fun _ _ _=>rfl) (fun w=>?_)).gen;exact(Go.Proofs.Tryz.stringslite_Index_one ⟨s.toArray⟩ c w).mono (fun e w' ⟨h1,h2⟩=>⟨h1,h2▸Below.refl _ _⟩)
end Go.Am
