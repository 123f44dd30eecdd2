/- Part 2 of 7 of what the laws of layer 1 share: contracts of functions of the program, each for every argument of its description; no condition beyond it. -/
import Derived.Test.YtgnepgenefcnpaaGreatDoorBkA
import Derived.Laws.BytesString
import Derived.Laws.Bits64b
set_option linter.unusedVariables false
set_option linter.unusedSimpArgs false
namespace Go.Am
open Go.RowKit
theorem aW.B5{P:Program}{f:FuncId}{Hi Ho Hi' Ho':List (Nat×Hp)}{ds ds':List D}{d d':D}(h:aW P f Hi ds Ho d)(ρ σ:Nat->Nat)(hσ:(names Ho).all (fun r=>Nat.beq (σ (ρ r)) r)=true)
  (hHi:nY ρ Hi' Hi)(hni:names Hi'=(names Hi).map ρ)(hds:uv ρ ds' ds)(hHo:nY σ Ho Ho')(hno:names Ho'=(names Ho).map ρ)(hd:wx σ d d')
  (w1:cE Hi' (bD ds')=true)(w2:cE Hi' (j4 Hi')=true)(w3:cE Ho' (j4 Ho')=true)(w4:cE Ho' d'.nm=true)(w5:cE Ho' (names Hi')=true):aW P f Hi' ds' Ho' d' where
 ok:=h.ok
 G6:=w1
 Hw:=w2
 Gg:=w3
 Ev:=w4
 ta:=w5
 calls:=by
  intro A w ε φ vs hlo hdj hp hv;have inv:∀r,af Ho r≠none->σ (ρ r)=r:=fun r hr=>Nat.eq_of_beq_eq_true (List.all_eq_true.1 hσ r (bU.1 hr));have hio:∀r,af Hi r≠none->af Ho r≠none:=fun r hr=>dc h.ta r (bU.1 hr);have toI:∀r,af Hi r≠none->af Hi' (ρ r)≠none:=fun r hr=>bU.2 (by rw[hni];exact List.mem_map.2 ⟨r,bU.1 hr,rfl⟩);have ofI:∀r',af Hi' r'≠none->∃r,af Hi r≠none/\ρ r=r':=fun r' hr'=>by
   have:=bU.1 hr';rw[hni]at this;obtain⟨r,hr,e⟩:=List.mem_map.1 this;exact⟨r,bU.2 hr,e⟩
  have ofO:∀r',af Ho' r'≠none->∃r,af Ho r≠none/\ρ r=r':=fun r' hr'=>by
   have:=bU.1 hr';rw[hno]at this;obtain⟨r,hr,e⟩:=List.mem_map.1 this;exact⟨r,bU.2 hr,e⟩
  have toO:∀r,af Ho r≠none->af Ho' (ρ r)≠none:=fun r hr=>bU.2 (by rw[hno];exact List.mem_map.2 ⟨r,bU.1 hr,rfl⟩);have inj:∀r r',af Ho r≠none->af Ho r'≠none->r≠r'->ρ r≠ρ r':=fun r r' hr hr' hne e=>hne (by rw[←inv r hr,←inv r' hr',e]);have hL:nW Hi (fun r=>φ (ρ r))=nW Hi' φ:=by
   funext k
   apply propext
   constructor
   ·rintro⟨r,hr,hf⟩;exact⟨ρ r,toI r hr,hf⟩
   ·rintro⟨r',hr',hf⟩;obtain⟨r,hr,rfl⟩:=ofI r' hr';exact⟨r,hr,hf⟩
  refine(h.calls A w (fun r=>ε (ρ r)) (fun r=>φ (ρ r)) vs (fun r hr=>hlo (ρ r) (toI r hr)) (fun r r' hr hr' hne=>hdj (ρ r) (ρ r') (toI r hr) (toI r' hr') (inj r r' (hio r hr) (hio r' hr') hne)) (fun r x hr=>?_) (hds.all hv)).mono ?_
  ·obtain⟨y,hy,hle⟩:=mm hHi r x hr;exact hle.1 _ _ _ _ _ (hp (ρ r) y hy)
  rintro e w' ⟨v,ε2,φ2,rfl,hε,hb1,hb2,hb3,hb4,hb5⟩;rw[hL]at hb1 hb2 hb3 hb5;have hreg:∀k,al ⟨A,w.heap.size,w,0,nW Hi' φ⟩ (af Ho) φ2 k->k<w'.heap.size->al ⟨A,w.heap.size,w,0,nW Hi' φ⟩ (af Ho') (fun r=>φ2 (σ r)) k/\w'.heap[k]?=w'.heap[k]?:=by
   intro k hk _;refine⟨⟨hk.1,fun r' hr'=>?_⟩,rfl⟩;obtain⟨r,hr,rfl⟩:=ofO r' hr';show¬φ2 (σ (ρ r)) k;rw[inv r hr];exact hk.2 r hr
  have hB:BY ⟨A,w.heap.size,w,0,nW Hi' φ⟩ Ho' d' (fun r=>ε2 (σ r)) w' (fun r=>φ2 (σ r)) v:=by
   refine⟨d'.mono (hd.1 _ _ _ _ hb1) (fun _ _=>rfl) hreg,fun r' x' hr'=>?_,fun r' hr' k hk=>?_,fun r1 r2 h1 h2 hne k hk=>?_,hb5⟩
   ·obtain⟨x,hx,hle⟩:=mm hHo r' x' hr';exact x'.mono (hle.1 _ _ _ _ _ (hb2 (σ r') x hx)) (fun _ _=>rfl) hreg (fun _ _=>rfl)
   ·obtain⟨r,hr,rfl⟩:=ofO r' hr';simp only[inv r hr]at hk;exact hb3 r hr k hk
   ·obtain⟨ra,hra,rfl⟩:=ofO r1 h1;obtain⟨rb,hrb,rfl⟩:=ofO r2 h2;simp only[inv ra hra,inv rb hrb]at hk|-;exact hb4 ra rb hra hrb (fun e=>hne (by rw[e])) k hk
  refine⟨v,fun r=>ε2 (σ r),fun r=>φ2 (σ r),rfl,fun r' hr'=>?_,hB⟩;obtain⟨r,hr,rfl⟩:=ofI r' hr';show ε2 (σ (ρ r))=_;rw[inv r (hio r hr),hε r hr]
section
variable {P:Program} {os:List Oper} {c:Ctx} {T T':List (Nat×D)} {H H':List (Nat×Hp)} {sps:List Spec}
variable {ops:Array Oper} {dst:Option Nat} {ty:TypeId} {pos:String} {aft:Array Edge} {Q:Exit->Act->World->Prop} {x y:Code}
def Je(P:Program)(s d:TypeId):Bool:=
 match P.underlying s,P.underlying d with
 |some (.slice e),some .string=>match P.underlying e with|some (.int .u8)=>true|_=>false
 |_,_=>false
def bytesOf(l:List Int):List UInt8:=l.map fun n=>UInt8.ofNat n.toNat
theorem rv:∀(ns:List Int) (s:ByteArray),ns.foldl (fun r n=>r.push (UInt8.ofNat n.toNat)) s=⟨(s.data.toList++bytesOf ns).toArray⟩
 |[],s=>by simp[bytesOf]
 |n::ns,s=>by
  rw[List.foldl_cons,rv ns];simp[bytesOf,ByteArray.push]
theorem xP(k:IntKind):∀l:List Int,flat (ak.int k) l=l.map (D.int k)
 |[]=>rfl
 |n::l=>by
  have:=xP k l;simp only[flat,List.flatMap_cons]at this|-;rw[this];rfl
theorem vI{k:IntKind}{ε:Env}{w:World}{S:ck}:∀{l:List Int} {vs:List Value},bN ε w S (l.map (D.int k)) vs->vs=l.map (Value.int k)
 |[],[],_=>rfl
 |n::l,v::vs,h=>by rw[List.map_cons,←vI h.2,show v=_ from h.1]
 |[],_::_,h=>h.elim
 |_::_,[],h=>h.elim
theorem ai.JR{s d:TypeId}{x:Operand}{l:List Int}(hx:ev T x=some (an (ak.int .u8) l))(ht:Je P s d=true)(hr:ai P ops c os (bg T dst (cf (bytesOf l))) H sps T' H'):
  ai P ops c (⟨dst,.convert s d x,ty,pos,aft,none⟩::os) T H (ps [(x,an (ak.int .u8) l)] (cf (bytesOf l))::sps) T' H':=
 .pure [(x,an (ak.int .u8) l)] rfl (by simpa using hx) (kb rfl) (fun ε w S a ha=>by
  obtain⟨A,cap,h1,_,hln,hA⟩:=ha (x,an (ak.int .u8) l) (by simp);dsimp only at h1;unfold Je at ht
  split at ht<;>try cases ht
  rename_i e hs hd
  split at ht<;>try cases ht
  rename_i he;have hc:∀a':Option Addr,(convert s d (.slice a' l.length cap)).run P w=(Conv.bytesToString (.slice a' l.length cap)).run P w:=fun a'=>run_convert_bytes_string w s d e a' l.length cap hs he hd;refine⟨.string ⟨(bytesOf l).toArray⟩,?_,rfl⟩;rcases hA with h0|⟨b,o,rfl,_,hl⟩
  ·have:l=[]:=List.eq_nil_of_length_eq_zero h0;subst this;have hz:(Conv.bytesToString (.slice A 0 cap)).run P w=.ok (.string ⟨#[]⟩) w:=by
    cases A with
    |none=>rfl
    |some a0=>
     have hq:=run_loadCells_list (P:=P) w a0 [] (fun j v hv=>by simp at hv);have:=run_bytesToString (P:=P) w a0 0 cap [] hq;rw[rv]at this;exact this
   have hc0:(convert s d (.slice A 0 cap)).run P w=_:=(hc A).trans hz;simp only[execOp,h1,Sem.run_bind,List.length_nil,hc0,Result.andThen_ok];rfl
  ·obtain⟨vs,h3,h4,h5⟩:=ot hl;rw[xP]at h5;have hvs:=vI h5;subst hvs;have hld:=run_loadCells_list (P:=P) w ⟨b,o,none⟩ (l.map (Value.int .u8)) (fun j v hv=>by rw[gS];exact h3 j v hv);rw[List.length_map]at hld;have:=run_bytesToString (P:=P) w ⟨b,o,none⟩ l.length cap l hld;rw[rv]at this;simp only[execOp,h1,hc,Sem.run_bind,this,Result.andThen_ok]
   rfl) hr
end
end Go.Am
namespace Go.Am
open Go.RowKit
theorem wrap_u32{z:Int}{n:Nat}(h:z=n):IntKind.u32.wrap z=((n%4294967296:Nat):Int):=by rw[IntKind.wrap_u32];omega
theorem wrap_u64{z:Int}{n:Nat}(h:z=n)(hn:n<18446744073709551616):IntKind.u64.wrap z=(n:Int):=by rw[IntKind.wrap_u64];omega
theorem gE{z:Int}{n:Nat}(h:z=n)(hn:n<9223372036854775808):IntKind.i64.wrap z=(n:Int):=by rw[IntKind.wrap_i64];omega
theorem xn{k:IntKind}{n:Nat}(hk:32<=k.bits):BS .shr k (n:Int) 32=some ((n/4294967296:Nat):Int):=by
 have:min (32:Int).toNat k.bits=32:=by simp;omega
 unfold BS;rw[if_neg (by omega)];simp only[this]
 congr 1
 rw[Int.fdiv_eq_ediv_of_nonneg _ (by decide)];omega
theorem jz(n:Nat):IntKind.u32.wrap (n:Int)=((n%4294967296:Nat):Int):=wrap_u32 rfl
theorem bJ{n:Nat}(hn:n<18446744073709551616):IntKind.u64.wrap (n:Int)=(n:Int):=wrap_u64 rfl hn
theorem fT{n:Nat}(hn:n<4294967296):IntKind.u32.wrap (n:Int)=(n:Int):=by rw[jz];omega
theorem vj{n m:Nat}(hn:n+m<9223372036854775808):IntKind.i64.wrap ((n:Int)+(m:Int))=((n+m:Nat):Int):=gE (by omega) hn
theorem dW{m:Nat}{ty:TypeId}{l l':List D}{hl:bD l=[]}{hl':bD l'=[]}(h:l=l'):Hp.row m ty l hl=Hp.row m ty l' hl':=by subst h;rfl
theorem Gi.of_eq{d d':Hp}(h:d=d'):Gi d d':=h▸.refl d
theorem dn{T:List (Nat×D)}:∀{l:List (Nat×D)},l.map (fun x=>aM T x.1)=l.map (fun x=>some x.2)->iO T l
 |[],_=>trivial
 |(t,d)::l,h=>by simp only[List.map_cons,List.cons.injEq]at h;exact⟨⟨d,h.1,.refl d⟩,dn h.2⟩
theorem jt{H:List (Nat×Hp)}:∀{l:List (Nat×Hp)},l.map (fun x=>af H x.1)=l.map (fun x=>some x.2)->kY H l
 |[],_=>trivial
 |(t,d)::l,h=>by simp only[List.map_cons,List.cons.injEq]at h;exact⟨⟨d,h.1,.refl d⟩,jt h.2⟩
theorem int_eq{k:IntKind}{a b:Int}(h:a=b):Le (.int k a) (.int k b):=.of_eq (by rw[h])
theorem sP(n:Nat)(hn:n<18446744073709551616):lO PP 145 [.int .u64 n] (aj n):=by
 refine .of Go.Proofs.Tryz.func145 rfl (by kernel_rfl) rfl rfl rfl (fun A w0=>?_);refine .al (.ao rfl .nil) rfl ?_;have hl:cW [n%4294967296,n/4294967296]:=by intro d hd;simp at hd;omega
 have hv:val [n%4294967296,n/4294967296]=n:=by simp only[val];omega
 refine .al (.mv rfl<|.cv rfl mo (jz n)<|.mv rfl<|.sh rfl rfl (xn (by decide))<|.cv rfl mo (fT (by omega))<|
  .bl (hl:=rfl) [(0,_,.int .u32 (n%4294967296:Nat),[.int .u32 (n%4294967296:Nat)]),(1,_,.int .u32 (n/4294967296:Nat),[.int .u32 (n/4294967296:Nat)])] Cu rfl rfl ⟨rfl,rfl,.one rfl,rfl,rfl,rfl,.one rfl,rfl,trivial⟩ (by simp[qs,ev,aM,bg]) rfl rfl<|
  .call (m_ [n%4294967296,n/4294967296] hl (by simp)) ⟨rfl,trivial⟩<|.ao rfl .nil) rfl ?_
 refine .qR rfl (.tmp rfl) (.of_eq ?_) rfl;rw[hv]
theorem dF(l:List Nat)(i:Nat):val (l.take (i+1))=val (l.take i)+4294967296^i*l.getD i 0:=by
 by_cases h:i<l.length
 ·rw[ee (List.getElem?_eq_getElem h)];simp[h]
 ·rw[List.take_of_length_le (by omega),List.take_of_length_le (by omega)];simp[List.getD,List.getElem?_eq_none (show l.length<=i by omega)]
theorem fu{l:List Nat}{i:Nat}(h:i<l.length)(d:Nat):val ((l.set i d).take (i+1))=val (l.take i)+4294967296^i*d:=by
 rw[dF]
 congr 1
 ·rw[List.take_set_of_le (Nat.le_refl i)]
 ·simp[h]
theorem i7{l:List Nat}(h:cW l){d:Nat}(hd:d<4294967296)(i:Nat):cW (l.set i d):=fun x hx=>(List.mem_or_eq_of_mem_set hx).elim (h x) (fun e=>e▸hd)
theorem bP{l:List Nat}(h:cW l)(i:Nat):l.getD i 0<4294967296:=by
 by_cases hi:i<l.length
 ·simp[hi];exact h _ (List.getElem_mem hi)
 ·simp[List.getElem?_eq_none (show l.length<=i by omega)]
theorem il(n:Nat):cW (List.replicate n 0):=fun d hd=>by rw[List.eq_of_mem_replicate hd];omega
theorem mJ(n:Nat):List.replicate n (D.int .u32 0)=bE (List.replicate n 0):=by simp[bE]
theorem eS(l:List Nat)(i d:Nat):(bE l).set ((i:Int).toNat*1) (.int .u32 (d:Nat))=bE (l.set i d):=by rw[Int.toNat_natCast,Nat.mul_one,C4]
theorem C0{p c d e:Nat}{v va vb:Nat}(h:v+p*c=va+vb):v+p*((c+d+e)%4294967296)+p*4294967296*((c+d+e)/4294967296)=va+p*d+(vb+p*e):=by
 have:p*((c+d+e)%4294967296)+p*4294967296*((c+d+e)/4294967296)=p*c+p*d+p*e:=by
  rw[Nat.mul_assoc,←Nat.mul_add,Nat.mod_add_div,Nat.mul_add,Nat.mul_add]
 omega
theorem GW(a b:List Nat)(ha:cW a)(hb:cW b)(hla:a.length<=1099511627776)(hlb:b.length<=1099511627776){s:Nat}(hv0:val a+val b=s):lO PP 212 [dz a,dz b] (aj s):=by
 refine .of Go.Proofs.Tryz.func212 rfl (by kernel_rfl) rfl rfl rfl (fun A w0=>?_);refine .al (.ao rfl<|.nil) rfl ?_;refine .uB (ι:={p:List Nat×List Nat//cW p.1/\cW p.2/\p.1.length<=1099511627776/\p.2.length<=p.1.length/\val p.1+val p.2=s}) (fun p=>[(0,dz p.1.1),(1,dz p.1.2)]) (fun _=>[]) ?_ ?_
 ·by_cases h:a.length<b.length
  ·refine .al (.mv rfl<|.ln rfl lP<|.mv rfl<|.ln rfl lP<|.cm rfl rfl (b:=true) (by simp[du,h])<|.nil) rfl ?_;refine .cT rfl (.region (.mv rfl<|.mv rfl<|.ao rfl<|.ao rfl<|.nil) rfl fun _ _ hs=>?_);exact hs.to ⟨(b,a),hb,ha,hlb,Nat.le_of_lt h,(Nat.add_comm _ _).trans hv0⟩ (dn rfl) trivial rfl rfl
  ·refine .al (.mv rfl<|.ln rfl lP<|.mv rfl<|.ln rfl lP<|.cm rfl rfl (b:=false) (by simp[du];omega)<|.nil) rfl ?_;exact .cF rfl (.skip fun _ _ hs=>hs.to ⟨(a,b),ha,hb,hla,Nat.le_of_not_lt h,hv0⟩ (dn rfl) trivial rfl rfl)
 rintro⟨⟨a',b'⟩,ha',hb',hl,hle,hval⟩;simp only at ha' hb' hl hle hval;clear hv0 ha hb hla hlb;show Ok PP _ [(0,dz a'),(1,dz b')] [] _ _;refine .al (.mv rfl<|.ln rfl lP<|.ar rfl rfl (congrArg some (vj (n:=a'.length) (m:=1) (by omega)))<|.Gs rfl rfl Cu rfl (by omega) (by omega) rfl<|.ao rfl<|.nil) rfl ?_;refine .al (.ao rfl<|.nil) rfl ?_;refine .uB (ι:={p:List Nat×Nat//p.1.length=a'.length+1/\cW p.1/\p.2<=1/\val (p.1.take a'.length)+4294967296^a'.length*p.2=s})
  (fun p=>[(0,dz a'),(1,dz b'),(18,.own 18),(5,.own 18),(6,.int .u64 p.1.2)]) (fun p=>[(18,.row 1 230 (bE p.1.1) (aO _))]) ?_ ?_
 ·refine .al (.mv rfl<|.ln rfl lP<|.mv rfl<|.nil) rfl ?_;refine .block (.loop (ι:={p:List Nat×Nat×Nat//p.1.length=a'.length+1/\cW p.1/\p.2.1<=1/\p.2.2<=a'.length/\val (p.1.take p.2.2)+4294967296^p.2.2*p.2.1=val (a'.take p.2.2)+val (b'.take p.2.2)})
   (fun p=>[(0,dz a'),(1,dz b'),(18,.own 18),(5,.own 18),(6,.int .u64 p.1.2.1),(20,.int .i64 a'.length),(21,.int .i64 p.1.2.2)]) (fun p=>[(18,.row 1 230 (bE p.1.1) (aO _))])
   (fun p=>a'.length-p.1.2.2) ⟨(List.replicate (a'.length+1) 0,0,0),by simp,il _,by simp,Nat.zero_le _,by simp[val]⟩
   (dn rfl) ⟨⟨_,rfl,.of_eq (dW (mJ _))⟩,trivial⟩ rfl rfl ?_)
  rintro⟨⟨zs,c,i⟩,hzl,hzs,hc,hi,hv⟩;simp only at hzl hzs hc hi hv;show Ok PP _ [(0,dz a'),(1,dz b'),(18,.own 18),(5,.own 18),(6,.int .u64 c),(20,.int .i64 a'.length),(21,.int .i64 i)] [(18,.row 1 230 (bE zs) (aO _))] _ _;by_cases hlt:i<a'.length
  ·refine .al (.cm rfl rfl (b:=true) (by simp[du,hlt])<|.nil) rfl (.sq ?_);refine .cT rfl (.skip (Ok.on ?_));refine .uB (ι:={q:List Nat×Nat//q.1.length=a'.length+1/\cW q.1/\q.2<=1/\val (q.1.take (i+1))+4294967296^(i+1)*q.2=val (a'.take (i+1))+val (b'.take (i+1))})
    (fun p=>[(0,dz a'),(1,dz b'),(18,.own 18),(5,.own 18),(6,.int .u64 p.1.2),(20,.int .i64 a'.length),(21,.int .i64 i)]) (fun p=>[(18,.row 1 230 (bE p.1.1) (aO _))]) ?_ ?_
   ·have hx:a'[i]?=some (a'.getD i 0):=by simp[hlt]
    have hdl:=bP ha' i;have hel:=bP hb' i;have hst:=dF a' i;have hst':=dF b' i;generalize a'.getD i 0=d at hx hdl hst;refine .block (.al (.mv rfl<|.ao rfl<|.nil) rfl ?_);refine .al (.mv rfl<|.mv rfl<|.mv rfl<|.pV rfl rfl pk (by omega) (by omega) (bj hx)<|.iJ rfl q6<|.cv rfl nv (bJ (by omega))<|
     .ar rfl rfl (congrArg some (wrap_u64 (n:=c+d) (by omega) (by omega)))<|.ao rfl<|.nil) rfl ?_
    refine .cut [(0,dz a'),(1,dz b'),(18,.own 18),(5,.own 18),(6,.int .u64 (c+d+b'.getD i 0:Nat)),(7,.int .i64 i),(20,.int .i64 a'.length),(21,.int .i64 i)] [(18,.row 1 230 (bE zs) (aO _))] ?_ ?_
    ·by_cases hb:i<b'.length
     ·have hy:b'[i]?=some (b'.getD i 0):=by simp[hb]
      generalize b'.getD i 0=e at hy hel hst';refine .al (.mv rfl<|.mv rfl<|.ln rfl lP<|.cm rfl rfl (b:=true) (by simp[du,hb])<|.nil) rfl ?_;refine .cT rfl (.region (.mv rfl<|.mv rfl<|.mv rfl<|.pV rfl rfl pk (by omega) (by omega) (bj hy)<|.iJ rfl q6<|.cv rfl nv (bJ (by omega))<|
       .ar rfl rfl (congrArg some (wrap_u64 (n:=c+d+e) (by omega) (by omega)))<|.ao rfl<|.nil) rfl fun _ _ hs=>?_)
      exact hs.sub (dn rfl) (jt rfl) rfl rfl
     ·have he:b'.getD i 0=0:=by simp[List.getElem?_eq_none (show b'.length<=i by omega)]
      refine .al (.mv rfl<|.mv rfl<|.ln rfl lP<|.cm rfl rfl (b:=false) (by simp[du];omega)<|.nil) rfl ?_;refine .cF rfl (.skip fun _ _ hs=>?_);exact hs.sub ⟨⟨_,rfl,.refl _⟩,⟨_,rfl,.refl _⟩,⟨_,rfl,.refl _⟩,⟨_,rfl,.refl _⟩,⟨_,rfl,int_eq (by omega)⟩,⟨_,rfl,.refl _⟩,⟨_,rfl,.refl _⟩,⟨_,rfl,.refl _⟩,trivial⟩ (jt rfl) rfl rfl
    generalize b'.getD i 0=e at hel hst';refine .al (.mv rfl<|.mv rfl<|.mv rfl<|.cv rfl mo (jz _)<|.qH (n:=a'.length+1) (m':=1) rfl rfl rfl pk (by rw[bB,hzl];omega) rfl rfl (by omega) (by omega)<|.AU rfl rfl rfl q6 rfl rfl (by simp[bB,hzl];try omega)<|.nil) rfl ?_;refine .region (.mv rfl<|.sh rfl rfl (xn (by decide))<|.ao rfl<|.nil) rfl fun _ _ hs=>?_;refine hs.to ⟨(zs.set i ((c+d+e)%4294967296),(c+d+e)/4294967296),by simpa using hzl,i7 hzs (Nat.mod_lt _ (by omega)) i,?_,?_⟩
     (dn rfl) ⟨⟨_,rfl,.of_eq (dW (eS ..))⟩,trivial⟩ rfl rfl
    ·simp only;omega
    ·simp only;rw[fu (by omega),hst,hst',Nat.pow_succ];exact C0 hv
   ·rintro⟨⟨zs',c'⟩,h1,h2,h3,h4⟩;simp only at h1 h2 h3 h4;show Ok PP _ [(0,dz a'),(1,dz b'),(18,.own 18),(5,.own 18),(6,.int .u64 c'),(20,.int .i64 a'.length),(21,.int .i64 i)] [(18,.row 1 230 (bE zs') (aO _))] _ _;refine .region (.ar rfl rfl (congrArg some (vj (n:=i) (m:=1) (by omega)))<|.mv rfl<|.nil) rfl fun _ _ hs=>?_;exact hs.round (m:=a'.length-i) ⟨(zs',c',i+1),h1,h2,h3,hlt,h4⟩ (by simp only;omega) (dn rfl) (jt rfl) rfl rfl
  ·have:i=a'.length:=by omega
   subst this;refine .al (.cm rfl rfl (b:=false) (by simp[du])<|.nil) rfl (.sq ?_);refine .cF rfl (.exit fun _ _ hs=>?_);refine hs.to ⟨(zs,c),hzl,hzs,hc,?_⟩ (dn rfl) (jt rfl) rfl rfl;rw[←hval];simpa [List.take_of_length_le hle]using hv
 rintro⟨⟨zs,c⟩,hzl,hzs,hc,hv⟩;simp only at hzl hzs hc hv;show Ok PP _ [(0,dz a'),(1,dz b'),(18,.own 18),(5,.own 18),(6,.int .u64 c)] [(18,.row 1 230 (bE zs) (aO _))] _ _;refine .al (.mv rfl<|.mv rfl<|.ln rfl lP<|.mv rfl<|.cv rfl mo (fT (by omega))<|.qH (n:=a'.length+1) (m':=1) rfl rfl rfl pk (by rw[bB,hzl];omega) rfl rfl (by omega) (by omega)<|.AU rfl rfl rfl q6 rfl rfl (by simp[bB,hzl];try omega)<|.nil) rfl ?_;refine .tD (n:=a'.length+1) (m':=1) 5 rfl rfl (by simp[bB,hzl]) rfl rfl ?_;have hset:(bE zs).set ((a'.length:Int).toNat*1) (.int .u32 c)=bE (zs.set a'.length c):=eS ..;have hlv:val (zs.set a'.length c)=s:=by
  have:=fu (l:=zs) (i:=a'.length) (by omega) c;rw[List.take_of_length_le (by simp;omega)]at this;rw[this,hv]
 rw[←hlv];refine .sub [(5,dz (zs.set a'.length c))] [] ⟨⟨_,rfl,.of_eq (nF (by simp[hzl]) hset)⟩,trivial⟩ trivial rfl rfl ?_;refine .al (.mv rfl<|.call (m_ _ (i7 hzs (by omega) _) (by simp;omega)) ⟨rfl,trivial⟩<|.ao rfl<|.nil) rfl ?_;exact .qR rfl (.tmp rfl) (.refl _) rfl
end Go.Am
namespace Go.Am
open Go.RowKit
section
variable {P:Program} {os:List Oper} {c:Ctx} {T T':List (Nat×D)} {H H':List (Nat×Hp)} {sps:List Spec}
variable {ops:Array Oper} {dst:Option Nat} {ty:TypeId} {pos:String} {aft:Array Edge}
theorem ai.I_{xt:TypeId}{x:Operand}{k:IntKind}{n r:Int}(hx:ev T x=some (.int k n))(h:bits .xor k (if k.signed then-1 else k.max) n=r)(hr:ai P ops c os (bg T dst (.int k r)) H sps T' H'):
  ai P ops c (⟨dst,.unOp .xor xt x,ty,pos,aft,none⟩::os) T H (ps [(x,.int k n)] (.int k r)::sps) T' H':=
 .pure [(x,.int k n)] rfl (by simpa using hx) (kb rfl) (fun ε w S a ha=>by
  have h1:a.eval x=.int k n:=ha (x,.int k n) (by simp);subst h;exact⟨_,by simp only[execOp,h1,Op.unary,Sem.run_bind,Sem.run_pure];rfl,rfl⟩) hr
end
theorem jV(a b:Nat)(ha:a<4294967296)(hb:b<4294967296):bits .and .u32 (a:Int) (b:Int)=((a&&&b:Nat):Int)/\bits .or .u32 (a:Int) (b:Int)=((a|||b:Nat):Int)/\bits .xor .u32 (a:Int) (b:Int)=((a^^^b:Nat):Int):=by
 have h1:(BitVec.ofInt 32 (a:Int)).toNat=a:=by
  rw[BitVec.ofInt_natCast,BitVec.toNat_ofNat];exact Nat.mod_eq_of_lt (by omega)
 have h2:(BitVec.ofInt 32 (b:Int)).toNat=b:=by
  rw[BitVec.ofInt_natCast,BitVec.toNat_ofNat];exact Nat.mod_eq_of_lt (by omega)
 have x1:a&&&b<2^32:=Nat.and_lt_two_pow _ (by omega);have x2:a|||b<2^32:=Nat.or_lt_two_pow (by omega) (by omega);have x3:a^^^b<2^32:=Nat.xor_lt_two_pow (by omega) (by omega);refine⟨?_,?_,?_⟩
 ·show IntKind.u32.wrap ((BitVec.ofInt 32 (a:Int)&&&BitVec.ofInt 32 (b:Int)).toNat:Int)=_;rw[BitVec.toNat_and,h1,h2,fT (by omega)]
 ·show IntKind.u32.wrap ((BitVec.ofInt 32 (a:Int)|||BitVec.ofInt 32 (b:Int)).toNat:Int)=_;rw[BitVec.toNat_or,h1,h2,fT (by omega)]
 ·show IntKind.u32.wrap ((BitVec.ofInt 32 (a:Int)^^^BitVec.ofInt 32 (b:Int)).toNat:Int)=_;rw[BitVec.toNat_xor,h1,h2,fT (by omega)]
theorem Im{n:Nat}(h:n<4294967296):n/2147483648=if n.testBit 31 then 1 else 0:=by
 rw[Nat.testBit_eq_decide_div_mod_eq];simp only[decide_eq_true_eq]
 split<;>omega
theorem Hs{n:Nat}(h:n<4294967296):n.testBit 31=decide (2147483648<=n):=by
 rw[Nat.testBit_eq_decide_div_mod_eq];by_cases h1:2147483648<=n
 ·simp only[h1,decide_true,decide_eq_true_eq];omega
 ·simp only[h1,decide_false,decide_eq_false_iff_not];omega
theorem H9:(4294967295:Nat).testBit 31=true:=by decide
theorem zO{x y b:Nat}(hx:x<4294967296)(hy:y<4294967296)(hb:b<=1):
  (((4294967295^^^x)&&&y)|||((4294967295^^^(x^^^y))&&&((x+(8589934592-y-b))%4294967296)))/2147483648=if x<y+b then 1 else 0:=by
 have hd:(x+(8589934592-y-b))%4294967296<4294967296:=Nat.mod_lt _ (by omega);generalize hdd:(x+(8589934592-y-b))%4294967296=d at hd;have h1:(4294967295^^^x)&&&y<2^32:=Nat.and_lt_two_pow _ (by omega);have h2:(4294967295^^^(x^^^y))&&&d<2^32:=Nat.and_lt_two_pow _ (by omega);rw[Im (Nat.or_lt_two_pow h1 h2)];simp only[Nat.testBit_or,Nat.testBit_and,Nat.testBit_xor,H9,Hs hx,Hs hy,Hs hd];by_cases c1:2147483648<=x<;>by_cases c2:2147483648<=y<;>by_cases c3:2147483648<=d<;>simp[c1,c2,c3]<;>omega
theorem wE(x y b:Nat)(hx:x<4294967296)(hy:y<4294967296)(hb:b<=1):lO PP 247 [.int .u32 x,.int .u32 y,.int .u32 b]
  (.gV [.int .u32 ((x+(8589934592-y-b))%4294967296:Nat),.int .u32 (if x<y+b then 1 else 0:Nat)]):=by
 refine .of Go.Proofs.Tryz.func247 rfl (by kernel_rfl) rfl rfl rfl (fun A w0=>?_);have hd:(x+(8589934592-y-b))%4294967296<4294967296:=Nat.mod_lt _ (by omega);have hbor:=zO hx hy hb;generalize hdd:(x+(8589934592-y-b))%4294967296=d at hd hbor;have h1:(4294967295^^^x)<2^32:=Nat.xor_lt_two_pow (by omega) (by omega);have h2:x^^^y<2^32:=Nat.xor_lt_two_pow (by omega) (by omega);have h3:4294967295^^^(x^^^y)<2^32:=Nat.xor_lt_two_pow (by omega) h2;have h4:(4294967295^^^x)&&&y<2^32:=Nat.and_lt_two_pow _ (by omega);have h5:(4294967295^^^(x^^^y))&&&d<2^32:=Nat.and_lt_two_pow _ (by omega);have h6:IntKind.u32.wrap (IntKind.u32.wrap ((x:Int)-y)-b)=(d:Int):=by
  rw[IntKind.wrap_u32,IntKind.wrap_u32];omega
 refine .al (.ao rfl<|.ao rfl<|.nil) rfl ?_;refine .al (.mv rfl<|.mv rfl<|.ar rfl rfl rfl<|.mv rfl<|.ar rfl rfl (congrArg some h6)<|.ao rfl<|.nil) rfl ?_;refine .al (.mv rfl<|.I_ rfl (jV 4294967295 x (by omega) hx).2.2<|.mv rfl<|.ar rfl rfl (congrArg some (jV _ _ h1 hy).1)<|.mv rfl<|.mv rfl<|.ar rfl rfl (congrArg some (jV x y hx hy).2.2)<|
  .I_ rfl (jV 4294967295 _ (by omega) h2).2.2<|.mv rfl<|.ar rfl rfl (congrArg some (jV _ _ h3 hd).1)<|.ar rfl rfl (congrArg some (jV _ _ h4 h5).2.1)<|.sh rfl rfl rfl<|.ao rfl<|.nil) rfl ?_
 refine .EC rfl (.tmp rfl) (.tmp rfl) (.of_eq ?_) rfl;rw[←hbor];show D.gV [_,.int .u32 (Int.fdiv _ _)]=_;rw[Int.fdiv_eq_ediv_of_nonneg _ (by decide)]
 rfl
theorem Fg(x y c:Nat)(hx:x<4294967296)(hy:y<4294967296)(hc:c<=1):lO PP 251 [.int .u32 x,.int .u32 y,.int .u32 c]
  (.gV [.int .u32 ((x+y+c)%4294967296:Nat),.int .u32 ((x+y+c)/4294967296:Nat)]):=by
 refine .of Go.Proofs.Tryz.func251 rfl (by kernel_rfl) rfl rfl rfl (fun A w0=>?_);refine .al (.ao rfl<|.ao rfl<|.nil) rfl ?_;refine .al (.mv rfl<|.cv rfl nv (bJ (by omega))<|.mv rfl<|.cv rfl nv (bJ (by omega))<|.ar rfl rfl (congrArg some (wrap_u64 (n:=x+y) (by omega) (by omega)))<|
  .mv rfl<|.cv rfl nv (bJ (by omega))<|.ar rfl rfl (congrArg some (wrap_u64 (n:=x+y+c) (by omega) (by omega)))<|.ao rfl<|.nil) rfl ?_
 refine .al (.mv rfl<|.cv rfl mo (jz _)<|.ao rfl<|.nil) rfl ?_;refine .al (.mv rfl<|.sh rfl rfl (xn (by decide))<|.cv rfl mo (fT (by omega))<|.ao rfl<|.nil) rfl ?_;exact .EC rfl (.tmp rfl) (.tmp rfl) (.refl _) rfl
def bz(x:Nat):Nat:=if x=0 then 0 else Nat.log2 x+1
def qM:ByteArray:=⟨((List.range 256).map fun n=>UInt8.ofNat (bz n)).toArray⟩
theorem oa{x:Nat}(h:x≠0):bz x=Nat.log2 x+1:=by simp[bz,h]
theorem mF(x:Nat):x<2^bz x:=by
 by_cases h:x=0
 ·subst h;decide
 ·rw[oa h];exact Nat.lt_log2_self
theorem wQ{x:Nat}(h:x≠0):2^(bz x-1)<=x:=by
 rw[oa h];exact Nat.log2_self_le h
theorem FA{x n:Nat}(h1:2^n<=x)(h2:x<2^(n+1)):bz x=n+1:=by
 have h0:x≠0:=by have:=Nat.two_pow_pos n;omega
 rw[oa h0,(Nat.log2_eq_iff h0).2 ⟨h1,h2⟩]
theorem qb{x:Nat}(k:Nat)(h:2^k<=x):bz (x/2^k)+k=bz x:=by
 have hp:=Nat.two_pow_pos k;have hx:x≠0:=by omega
 have hq:x/2^k≠0:=by have:=Nat.div_pos h hp;omega
 have h1:=wQ hq;have h2:=mF (x/2^k);rw[oa hq]at h1 h2|-
 symm
 rw[show Nat.log2 (x/2^k)+1+k=(Nat.log2 (x/2^k)+k)+1 by omega];apply FA
 ·rw[Nat.pow_add];exact(Nat.le_div_iff_mul_le hp).1 h1
 ·rw[show Nat.log2 (x/2^k)+k+1=(Nat.log2 (x/2^k)+1)+k by omega,Nat.pow_add];exact(Nat.div_lt_iff_lt_mul hp).1 h2
theorem zu{n:Nat}(h:n<256):qM[n]?=some (UInt8.ofNat (bz n)):=by
 have hs:qM.size=256:=by simp[qM,ByteArray.size]
 rw[getElem?_pos qM n (by rw[hs];exact h)];simp[qM,ByteArray.getElem_eq_getElem_data]
end Go.Am
namespace Go.Am
open Go.RowKit
theorem fB(l:List Nat)(i:Nat):val (l.drop i)=l.getD i 0+4294967296*val (l.drop (i+1)):=by
 by_cases h:i<l.length
 ·rw[List.drop_eq_getElem_cons h,val];simp[h]
 ·rw[List.drop_of_length_le (by omega),List.drop_of_length_le (by omega)];simp[val,List.getElem?_eq_none (show l.length<=i by omega)]
theorem eR(l:List Nat)(i:Nat)(h:i<=l.length):val l=val (l.take i)+4294967296^i*val (l.drop i):=by
 conv=>lhs;rw[←List.take_append_drop i l]
 rw[kS,List.length_take,Nat.min_eq_left h]
theorem eY{l:List Nat}(h:cW l)(i:Nat):val (l.take i)<4294967296^i:=by
 have h1:=px (l9 h i);have h2:(l.take i).length<=i:=by simp;omega
 exact Nat.lt_of_lt_of_le h1 (Nat.pow_le_pow_right (by omega) h2)
theorem lI{x:Nat}:x<4294967296^(aA x).length:=by
 have:=px (cL x);rwa [dL]at this
theorem cM{x:Nat}(h:x≠0):0<(aA x).length:=by rw[ky h];simp
theorem sn{x:Nat}(h:x≠0):4294967296^((aA x).length-1)<=x:=by
 induction x using Nat.strongRecOn with
 |_ x ih=>
  rw[ky h];simp only[List.length_cons,Nat.add_sub_cancel];by_cases h0:x/4294967296=0
  ·rw[h0,cS];simp;omega
  ·have:=ih _ (Nat.div_lt_self (by omega) (by omega)) h0;have hl:=cM h0;obtain⟨n,hn⟩:∃n,(aA (x/4294967296)).length=n+1:=⟨_,(Nat.succ_pred (by omega)).symm⟩;rw[hn]at this|-;simp only[Nat.add_sub_cancel]at this;rw[Nat.pow_succ];omega
theorem jI{x y:Nat}(h:x<=y):(aA x).length<=(aA y).length:=by
 by_cases h0:x=0
 ·subst h0;rw[cS];simp
 ·have h1:=sn h0;have h2:=lI (x:=y);have h3:4294967296^((aA x).length-1)<4294967296^(aA y).length:=by omega
  have h4:=(Nat.pow_lt_pow_iff_right (by omega)).1 h3;have:=cM h0;omega
theorem vN{x y:Nat}(h:(aA x).length<(aA y).length):x<y:=by
 apply Nat.lt_of_not_le;intro h';have:=jI h';omega
theorem eW{x n:Nat}(h:x<4294967296^n):(aA x).length<=n:=by
 by_cases h0:x=0
 ·subst h0;rw[cS];simp
 ·have h1:=sn h0;have h3:4294967296^((aA x).length-1)<4294967296^n:=by omega
  have h4:=(Nat.pow_lt_pow_iff_right (by omega)).1 h3;have:=cM h0;omega
def fR(x y:Nat):Int:=if x<y then-1 else if y<x then 1 else 0
theorem tB{a b:List Nat}{i:Nat}(ha:cW a)(hi:i<=a.length)(hj:i<=b.length)(hlt:val (a.drop i)<val (b.drop i)):val a<val b:=by
 rw[eR a i hi,eR b i hj];have h1:=eY ha i;have h2:4294967296^i*(val (a.drop i)+1)<=4294967296^i*val (b.drop i):=Nat.mul_le_mul (Nat.le_refl _) hlt;rw[Nat.mul_add,Nat.mul_one]at h2;omega
theorem I2{a b:Int}(h:a=b):du .eql a b=some true:=by simp[du,h]
theorem HX{a b:Int}(h:a≠b):du .eql a b=some false:=by simp[du,h]
theorem zQ{a b:Int}(h:a<b):du .lss a b=some true:=by simp[du,h]
theorem yS{a b:Int}(h:b<=a):du .lss a b=some false:=by simp[du];omega
theorem Gw{a b:Int}(h:b<a):du .gtr a b=some true:=by simp[du,h]
theorem GR{a b:Int}(h:a<=b):du .gtr a b=some false:=by simp[du];omega
theorem Gk{a b:Int}(h:b<=a):du .geq a b=some true:=by simp[du,h]
theorem EH{a b:Int}(h:a<b):du .geq a b=some false:=by simp[du];omega
theorem DK{n d:Nat}(hd:d≠0)(hn:n<18446744073709551616):pB .quo .u64 (n:Int) (d:Int)=some ((n/d:Nat):Int):=by
 unfold pB;simp only[Int.natCast_eq_zero,hd,if_false];rw[show(n:Int).tdiv (d:Int)=((n/d:Nat):Int)from rfl,bJ (Nat.lt_of_le_of_lt (Nat.div_le_self _ _) hn)]
theorem xe{k:IntKind}{n d:Nat}(hd:d≠0):pB .rem k (n:Int) (d:Int)=some ((n%d:Nat):Int):=by
 unfold pB;simp only[Int.natCast_eq_zero,hd,if_false]
 rfl
theorem xd{n d:Nat}(hd:d≠0)(hn:n<9223372036854775808):pB .quo .i64 (n:Int) (d:Int)=some ((n/d:Nat):Int):=by
 unfold pB;simp only[Int.natCast_eq_zero,hd,if_false];rw[show(n:Int).tdiv (d:Int)=((n/d:Nat):Int)from rfl,gE rfl (Nat.lt_of_le_of_lt (Nat.div_le_self _ _) hn)]
theorem z6{n:Nat}(hn:n<4294967296):BS .shl .u64 (n:Int) 32=some ((n*4294967296:Nat):Int):=by
 unfold BS;rw[if_neg (by omega)];simp only[show min (32:Int).toNat IntKind.u64.bits=32 by decide];rw[show(n:Int)*2^32=((n*4294967296:Nat):Int)by rw[Int.natCast_mul];rfl,bJ (by omega)]
theorem wK{n d:Nat}(hn:n<4294967296)(hd:d<4294967296):pB .or .u64 ((n*4294967296:Nat):Int) (d:Int)=some ((n*4294967296+d:Nat):Int):=by
 show some (bits .or .u64 _ _)=_;rw[bits_or_u64_nat _ _ (by omega) (by omega)];have:=Nat.two_pow_add_eq_or_of_lt (i:=32) (b:=d) (by omega) n;rw[show n*4294967296=2^32*n by omega,←this]
theorem sO{n d:Nat}(h:n*d<18446744073709551616):pB .mul .u64 (n:Int) (d:Int)=some ((n*d:Nat):Int):=by
 show some (IntKind.u64.wrap _)=_;rw[←Int.natCast_mul,bJ h]
theorem sk{n d:Nat}(h:n+d<18446744073709551616):pB .add .u64 (n:Int) (d:Int)=some ((n+d:Nat):Int):=congrArg some (wrap_u64 (by omega) h)
theorem dJ{n d:Nat}(h:n+d<9223372036854775808):pB .add .i64 (n:Int) (d:Int)=some ((n+d:Nat):Int):=congrArg some (gE (by omega) h)
theorem pQ{n d:Nat}(h:d<=n)(h':n<9223372036854775808):pB .sub .i64 (n:Int) (d:Int)=some ((n-d:Nat):Int):=congrArg some (gE (by omega) (by omega))
theorem kf{n:Nat}(h':n<9223372036854775808):pB .sub .i64 (n:Int) 1=some ((n:Int)-1):=congrArg some (wrap_i64 (by omega) (by omega))
theorem fA{n:Nat}(h':n+1<9223372036854775808):pB .add .i64 (n:Int) 1=some ((n+1:Nat):Int):=dJ (d:=1) h'
theorem Le.nil{m:Nat}:Le .nil (.jm 0 m [] rfl):=⟨fun _ _ _ _ h=>⟨none,0,h,Nat.le_refl _,by simp,.inl rfl⟩,fun _ h=>h⟩
theorem aV:Le .nil (aj 0):=by
 have:aj 0=.jm 0 1 [] rfl:=dg_eq' (by rw[cS]);rw[this];exact .nil
where dg_eq' {xs:List Nat} (h:xs=[]):dz xs=.jm 0 1 [] rfl:=by subst h;rfl
end Go.Am
namespace Go.Am
open Go.RowKit
theorem sJ{n k:Nat}(hk:k<=32):BS .shr .u32 (n:Int) (k:Int)=some ((n/2^k:Nat):Int):=by
 unfold BS;rw[if_neg (by omega)];have:min (k:Int).toNat IntKind.u32.bits=k:=by rw[Int.toNat_natCast,show IntKind.u32.bits=32 by decide];omega
 simp only[this];rw[Int.fdiv_eq_ediv_of_nonneg _ (by exact_mod_cast Nat.zero_le _)]
 congr 1
theorem dS{x n:Nat}(h:x<2^n):bz x<=n:=by
 by_cases h0:x=0
 ·subst h0;exact Nat.zero_le _
 ·have h1:=wQ h0;have:=(Nat.pow_lt_pow_iff_right (a:=2) (by omega)).1 (Nat.lt_of_le_of_lt h1 h);rw[oa h0]at this|-;omega
theorem zV(x:Nat)(hx:x<4294967296):lO PP 231 [.int .u32 x] (.int .i64 (bz x:Nat)):=by
 refine .of Go.Proofs.Tryz.func231 rfl (by kernel_rfl) rfl rfl rfl (fun A w0=>?_);refine .al (.ao rfl<|.nil) rfl ?_;refine .uB (ι:={p:Nat×Nat//p.1<65536/\p.2<=16/\bz p.1+p.2=bz x}) (fun p=>[(0,.int .u32 (p.1.1:Nat)),(2,.int .i64 (p.1.2:Nat))]) (fun _=>[]) ?_ ?_
 ·by_cases h:65536<=x
  ·refine .al (.mv rfl<|.cm rfl rfl (b:=true) (by simp[du];try omega)<|.nil) rfl ?_;refine .cT rfl (.al (.mv rfl<|.sh rfl rfl (sJ (k:=16) (by omega))<|.ao rfl<|.nil) rfl ?_);refine .region (.ao rfl<|.nil) rfl fun _ _ hs=>?_;exact hs.to ⟨(x/65536,16),by omega,Nat.le_refl _,qb 16 h⟩ (dn rfl) trivial rfl rfl
  ·refine .al (.mv rfl<|.cm rfl rfl (b:=false) (by simp[du];try omega)<|.nil) rfl ?_;exact .cF rfl (.skip fun _ _ hs=>hs.to ⟨(x,0),Nat.lt_of_not_le h,by omega,rfl⟩ (dn rfl) trivial rfl rfl)
 rintro⟨⟨y,n⟩,hy,hn,he⟩;simp only at hy hn he;show Ok PP _ [(0,.int .u32 (y:Nat)),(2,.int .i64 (n:Nat))] [] _ _;rw[←he];clear he hx x;refine .uB (ι:={p:Nat×Nat//p.1<256/\p.2<=24/\bz p.1+p.2=bz y+n}) (fun p=>[(0,.int .u32 (p.1.1:Nat)),(2,.int .i64 (p.1.2:Nat))]) (fun _=>[]) ?_ ?_
 ·by_cases h:256<=y
  ·refine .al (.mv rfl<|.cm rfl rfl (b:=true) (by simp[du];try omega)<|.nil) rfl ?_;refine .cT rfl (.al (.mv rfl<|.sh rfl rfl (sJ (k:=8) (by omega))<|.ao rfl<|.nil) rfl ?_);refine .region (.mv rfl<|.ar rfl rfl (dJ (n:=n) (d:=8) (by omega))<|.ao rfl<|.nil) rfl fun _ _ hs=>?_;refine hs.to ⟨(y/256,n+8),by simp only;omega,by simp only;omega,?_⟩ (dn rfl) trivial rfl rfl;have:bz (y/256)+8=bz y:=qb (x:=y) 8 h;simp only at this|-;omega
  ·refine .al (.mv rfl<|.cm rfl rfl (b:=false) (by simp[du];try omega)<|.nil) rfl ?_;exact .cF rfl (.skip fun _ _ hs=>hs.to ⟨(y,n),Nat.lt_of_not_le h,by simp only;omega,rfl⟩ (dn rfl) trivial rfl rfl)
 rintro⟨⟨z,k⟩,hz,hk,he⟩;simp only at hz hk he;show Ok PP _ [(0,.int .u32 (z:Nat)),(2,.int .i64 (k:Nat))] [] _ _;rw[←he];have hb:bz z<=8:=dS (by omega);have hw:IntKind.i64.wrap ((UInt8.ofNat (bz z)).toNat:Int)=((bz z:Nat):Int):=by
  rw[show(UInt8.ofNat (bz z)).toNat=bz z by rw[UInt8.toNat_ofNat'];omega];exact gE rfl (by omega)
 refine .al (.mv rfl<|.mv rfl<|.cv rfl rZ (r:=(z:Int)) (by rw[IntKind.wrap_u8];omega)<|.I4 (s:=qM) (by kernel_rfl) rfl c_ (by omega) (zu (by omega))<|.cv rfl xg hw<|
  .ar rfl rfl (dJ (by omega))<|.ao rfl<|.nil) rfl ?_
 refine .qR rfl (.tmp rfl) (int_eq ?_) rfl;omega
theorem q7(x:Nat)(hx:x<4294967296):lO PP 226 [.int .u32 x] (.int .i64 ((32-bz x:Nat):Int)):=by
 refine .of Go.Proofs.Tryz.func226 rfl (by kernel_rfl) rfl rfl rfl (fun A w0=>?_);refine .al (.ao rfl<|.nil) rfl ?_;refine .al (.mv rfl<|.call (zV x hx) ⟨rfl,trivial⟩<|.ar rfl rfl (pQ (n:=32) (dS (n:=32) (by omega)) (by omega))<|.ao rfl<|.nil) rfl ?_;exact .qR rfl (.tmp rfl) (.refl _) rfl
theorem wF{x y:Nat}(h:x<y):fR x y=-1:=by simp[fR,h]
theorem Ax{x y:Nat}(h:y<x):fR x y=1:=by simp[fR,h];omega
theorem E2(x:Nat):fR x x=0:=by simp[fR]
theorem DQ(x y:Nat)(hx:(aA x).length<=1099511627776)(hy:(aA y).length<=1099511627776):lO PP 224 [aj x,aj y] (.int .i64 (fR x y)):=by
 show lO PP _ [dz (aA x),dz (aA y)] _;refine .of Go.Proofs.Tryz.func224 rfl (by kernel_rfl) rfl rfl rfl (fun A w0=>?_);refine .al (.ao rfl<|.nil) rfl ?_;refine .sq ?_;by_cases hl:(aA x).length=(aA y).length
 ·refine .al (.mv rfl<|.ln rfl au<|.mv rfl<|.ln rfl au<|.cm rfl rfl (b:=false) (by simp[du,hl])<|.nil) rfl ?_;refine .cF rfl (.skip (Ok.on (.sq ?_)));refine .al (.mv rfl<|.ln rfl au<|.ar rfl rfl (kf (by omega))<|.ao rfl<|.nil) rfl ?_;refine .block (.loop (ι:={j:Nat//j<=(aA x).length/\val ((aA x).drop j)=val ((aA y).drop j)}) (fun j=>[(0,dz (aA x)),(1,dz (aA y)),(5,.int .i64 ((j.1:Nat)-1))]) (fun _=>[]) (fun j=>j.1)
   ⟨(aA x).length,Nat.le_refl _,by rw[List.drop_length,hl,List.drop_length]⟩ (dn rfl) trivial rfl rfl ?_)
  rintro⟨j,hj,hv⟩;show Ok PP _ [(0,dz (aA x)),(1,dz (aA y)),(5,.int .i64 ((j:Nat)-1))] [] _ _;refine .sq ?_
  cases j with
  |zero=>
   refine .al (.mv rfl<|.cm rfl rfl (b:=false) (by simp[du])<|.nil) rfl ?_;refine .cF rfl (.exit (Ok.on ?_));refine .al (.ao rfl<|.nil) rfl ?_;simp only[List.drop_zero,dL]at hv;subst hv;exact .qR rfl (.tmp rfl) (int_eq (E2 x).symm) rfl
  |succ i=>
   have hxi:(aA x)[i]?=some ((aA x).getD i 0):=by simp[show i<(aA x).length by omega]
   have hyi:(aA y)[i]?=some ((aA y).getD i 0):=by simp[show i<(aA y).length by omega]
   have hdx:=fB (aA x) i;have hdy:=fB (aA y) i;generalize (aA x).getD i 0=d at hxi hdx;generalize (aA y).getD i 0=e at hyi hdy;refine .al (.mv rfl<|.cm rfl rfl (b:=true) (by simp[du];try omega)<|.nil) rfl ?_;refine .cT rfl (.skip (Ok.on (.sq (.block ?_))));have hi:((i+1:Nat):Int)-1=i:=by omega
   rw[hi];by_cases hde:d=e
   ·refine .dh cn (.mv rfl<|.mv rfl<|.pV rfl rfl av (by omega) (by omega) (bj hxi)<|.iJ rfl aP<|.mv rfl<|.mv rfl<|.pV rfl rfl av (by omega) (by omega) (bj hyi)<|.iJ rfl aP<|
     .cm rfl rfl (b:=false) (by simp[du,hde])<|.nil) rfl (by kernel_rfl) ?_
    refine .cF rfl (.skip (Ok.on ?_));refine .region (.mv rfl<|.ar rfl rfl (kf (by omega))<|.ao rfl<|.nil) rfl fun _ _ hs=>?_;exact hs.round (m:=i+1) ⟨i,by omega,by rw[hdx,hdy,hv,hde]⟩ (by simp) (dn rfl) trivial rfl rfl
   ·refine .dh cn (.mv rfl<|.mv rfl<|.pV rfl rfl av (by omega) (by omega) (bj hxi)<|.iJ rfl aP<|.mv rfl<|.mv rfl<|.pV rfl rfl av (by omega) (by omega) (bj hyi)<|.iJ rfl aP<|
     .cm rfl rfl (b:=true) (by simp[du];try omega)<|.nil) rfl (by kernel_rfl) ?_
    refine .cT rfl (.sq ?_);by_cases hlt:d<e
    ·refine .dh cn (.mv rfl<|.mv rfl<|.pV rfl rfl av (by omega) (by omega) (bj hxi)<|.iJ rfl aP<|.mv rfl<|.mv rfl<|.pV rfl rfl av (by omega) (by omega) (bj hyi)<|.iJ rfl aP<|
      .cm rfl rfl (b:=true) (by simp[du];try omega)<|.nil) rfl (by kernel_rfl) ?_
     refine .cT rfl (.al (.ao rfl<|.nil) rfl ?_);have:x<y:=by
      have:=tB (a:=aA x) (b:=aA y) (i:=i) (cL x) (by omega) (by omega) (by omega);simpa [dL]using this
     exact .rA (fun _ _ h=>h) rfl (.tmp rfl) (int_eq (wF this).symm) rfl
    ·refine .dh cn (.mv rfl<|.mv rfl<|.pV rfl rfl av (by omega) (by omega) (bj hxi)<|.iJ rfl aP<|.mv rfl<|.mv rfl<|.pV rfl rfl av (by omega) (by omega) (bj hyi)<|.iJ rfl aP<|
      .cm rfl rfl (b:=false) (by simp[du];try omega)<|.nil) rfl (by kernel_rfl) ?_
     refine .cF rfl (.skip (Ok.on ?_));refine .al (.ao rfl<|.nil) rfl ?_;have:y<x:=by
      have:=tB (a:=aA y) (b:=aA x) (i:=i) (cL y) (by omega) (by omega) (by omega);simpa [dL]using this
     exact .rA (fun _ _ h=>h) rfl (.tmp rfl) (int_eq (Ax this).symm) rfl
 ·refine .al (.mv rfl<|.ln rfl au<|.mv rfl<|.ln rfl au<|.cm rfl rfl (b:=true) (by simp[du];try omega)<|.nil) rfl ?_;refine .cT rfl (.sq ?_);by_cases hlt:(aA x).length<(aA y).length
  ·refine .al (.mv rfl<|.ln rfl au<|.mv rfl<|.ln rfl au<|.cm rfl rfl (b:=true) (by simp[du];try omega)<|.nil) rfl ?_;refine .cT rfl (.al (.ao rfl<|.nil) rfl ?_);have hxy:x<y:=vN hlt;exact .rA (fun _ _ h=>h) rfl (.tmp rfl) (int_eq (wF hxy).symm) rfl
  ·refine .al (.mv rfl<|.ln rfl au<|.mv rfl<|.ln rfl au<|.cm rfl rfl (b:=false) (by simp[du];try omega)<|.nil) rfl ?_;refine .cF rfl (.skip (Ok.on ?_));refine .al (.ao rfl<|.nil) rfl ?_;have hxy:y<x:=vN (by omega);exact .rA (fun _ _ h=>h) rfl (.tmp rfl) (int_eq (Ax hxy).symm) rfl
end Go.Am
namespace Go.Am
open Go.RowKit
theorem Du{p d e o w w' v va vb:Nat}(h:v+vb=va+p*w)(ho:o+e+w=d+4294967296*w'):v+p*o+(vb+p*e)=va+p*d+p*4294967296*w':=by
 have:p*(o+e+w)=p*(d+4294967296*w'):=by rw[ho]
 rw[Nat.mul_add,Nat.mul_add,Nat.mul_add,←Nat.mul_assoc]at this;omega
theorem H4(x y:Nat)(hyx:y<=x)(hx:(aA x).length<=1099511627776):lO PP 215 [aj x,aj y] (aj (x-y)):=by
 show lO PP _ [dz (aA x),dz (aA y)] _;have hly:=jI hyx;have hvx:=dL x;have hvy:=dL y;have hlx:=cL x;have hlwy:=cL y;generalize aA x=a at*;generalize aA y=b at*;refine .of Go.Proofs.Tryz.func215 rfl (by kernel_rfl) rfl rfl rfl (fun A w0=>?_);refine .al (.ao rfl<|.nil) rfl ?_;refine .al (.mv rfl<|.ln rfl au<|.Gs rfl rfl dE rfl (by omega) (by omega) rfl<|.ao rfl<|.nil) rfl ?_;refine .al (.ao rfl<|.nil) rfl (.sq ?_);refine .al (.mv rfl<|.ln rfl au<|.mv rfl<|.nil) rfl ?_;refine .block (.loop (ι:={p:List Nat×Nat×Nat//p.1.length=a.length/\cW p.1/\p.2.1<=1/\p.2.2<=a.length/\val (p.1.take p.2.2)+val (b.take p.2.2)=val (a.take p.2.2)+4294967296^p.2.2*p.2.1})
  (fun p=>[(0,dz a),(1,dz b),(11,.own 11),(5,.own 11),(6,.int .u32 p.1.2.1),(13,.int .i64 a.length),(14,.int .i64 p.1.2.2)]) (fun p=>[(11,.row 1 230 (bE p.1.1) (aO _))])
  (fun p=>a.length-p.1.2.2) ⟨(List.replicate a.length 0,0,0),by simp,il _,by simp,Nat.zero_le _,by simp[val]⟩
  (dn rfl) ⟨⟨_,rfl,.of_eq (dW (mJ _))⟩,trivial⟩ rfl rfl ?_)
 rintro⟨⟨zs,c,i⟩,hzl,hzs,hc,hi,hv⟩;simp only at hzl hzs hc hi hv;show Ok PP _ [(0,dz a),(1,dz b),(11,.own 11),(5,.own 11),(6,.int .u32 c),(13,.int .i64 a.length),(14,.int .i64 i)] [(11,.row 1 230 (bE zs) (aO _))] _ _;by_cases hlt:i<a.length
 ·refine .al (.cm rfl rfl (b:=true) (by simp[du,hlt])<|.nil) rfl (.sq ?_);refine .cT rfl (.skip (Ok.on (.sq (.block ?_))));have hxi:a[i]?=some (a.getD i 0):=by simp[hlt]
  have hdl:=bP hlx i;have hel:=bP hlwy i;have hst:=dF a i;have hst':=dF b i;generalize a.getD i 0=d at hxi hdl hst;refine .al (.mv rfl<|.ao rfl<|.nil) rfl ?_;refine .al (.ao rfl<|.nil) rfl ?_;refine .cut [(0,dz a),(1,dz b),(11,.own 11),(5,.own 11),(6,.int .u32 c),(7,.int .i64 i),(8,.int .u32 (b.getD i 0:Nat)),(13,.int .i64 a.length),(14,.int .i64 i)] [(11,.row 1 230 (bE zs) (aO _))] ?_ ?_
  ·by_cases hb:i<b.length
   ·have hy:b[i]?=some (b.getD i 0):=by simp[hb]
    generalize b.getD i 0=e at hy;refine .al (.mv rfl<|.mv rfl<|.ln rfl au<|.cm rfl rfl (b:=true) (by simp[du,hb])<|.nil) rfl ?_;refine .cT rfl (.region (.mv rfl<|.mv rfl<|.pV rfl rfl av (by omega) (by omega) (bj hy)<|.iJ rfl aP<|.ao rfl<|.nil) rfl fun _ _ hs=>?_);exact hs.sub (dn rfl) (jt rfl) rfl rfl
   ·have he:b.getD i 0=0:=by simp[List.getElem?_eq_none (show b.length<=i by omega)]
    rw[he];refine .al (.mv rfl<|.mv rfl<|.ln rfl au<|.cm rfl rfl (b:=false) (by simp[du];omega)<|.nil) rfl ?_;exact .cF rfl (.skip fun _ _ hs=>hs.sub (dn rfl) (jt rfl) rfl rfl)
  generalize b.getD i 0=e at hel hst';refine .region (.mv rfl<|.mv rfl<|.mv rfl<|.mv rfl<|.pV rfl rfl av (by omega) (by omega) (bj hxi)<|.iJ rfl aP<|.mv rfl<|.mv rfl<|.call (wE d e c hdl hel hc) ⟨rfl,rfl,rfl,trivial⟩<|.mv rfl<|.ext rfl rfl<|.ext rfl rfl<|
   .qH (n:=a.length) (m':=1) rfl rfl rfl av (by rw[bB,hzl];omega) rfl rfl (by omega) (by omega)<|.AU rfl rfl rfl aP rfl rfl (by simp[bB,hzl];try omega)<|.ao rfl<|.nil) rfl fun _ _ hs=>?_
  refine Ok.on ?_ _ _ hs;refine .region (.ar rfl rfl (fA (by omega))<|.mv rfl<|.nil) rfl fun _ _ hs=>?_;refine hs.round (m:=a.length-i) ⟨(zs.set i ((d+(8589934592-e-c))%4294967296),if d<e+c then 1 else 0,i+1),by simpa using hzl,i7 hzs (Nat.mod_lt _ (by omega)) i,?_,hlt,?_⟩ (by simp only;omega)
   (dn rfl) ⟨⟨_,rfl,.of_eq (dW (eS ..))⟩,trivial⟩ rfl rfl
  ·simp only;split<;>omega
  ·simp only;rw[fu (by omega),hst,hst',Nat.pow_succ];refine Du hv ?_
   split<;>omega
 ·have:i=a.length:=by omega
  subst this;refine .al (.cm rfl rfl (b:=false) (by simp[du])<|.nil) rfl (.sq ?_);refine .cF rfl (.exit (Ok.on ?_));rw[List.take_length,List.take_of_length_le (by omega),List.take_of_length_le hly]at hv;have hz:=px hzs;have hc0:c=0:=by
   rcases(show c=0\/c=1 by omega)with h|h
   ·exact h
   ·subst h;rw[hzl]at hz;omega
  subst hc0;have hlv:val zs=x-y:=by omega
  refine .tD (n:=a.length) (m':=1) 5 rfl rfl (by simp[bB,hzl]) rfl rfl ?_;refine .sub [(5,dz zs)] [] ⟨⟨_,rfl,.of_eq (nF hzl.symm rfl)⟩,trivial⟩ trivial rfl rfl ?_;refine .al (.mv rfl<|.call (m_ _ hzs (by omega)) ⟨rfl,trivial⟩<|.ao rfl<|.nil) rfl ?_;exact .qR rfl (.tmp rfl) (.of_eq (by rw[hlv])) rfl
theorem Ah(x d:Nat)(hd0:d≠0)(hd:d<4294967296)(hx:(aA x).length<=1099511627776):lO PP 225 [aj x,.int .u32 d] (.gV [aj (x/d),aj (x%d)]):=by
 show lO PP _ [dz (aA x),.int .u32 d] _;have hvx:=dL x;have hlx:=cL x;generalize aA x=a at*;refine .of Go.Proofs.Tryz.func225 rfl (by kernel_rfl) rfl rfl rfl (fun A w0=>?_);refine .al (.ao rfl<|.ao rfl<|.nil) rfl ?_;refine .al (.mv rfl<|.ln rfl au<|.Gs rfl rfl dE rfl (by omega) (by omega) rfl<|.ao rfl<|.nil) rfl ?_;refine .al (.ao rfl<|.nil) rfl (.sq ?_);refine .al (.mv rfl<|.ln rfl au<|.ar rfl rfl (kf (by omega))<|.ao rfl<|.nil) rfl ?_;refine .block (.loop (ι:={p:List Nat×Nat×Nat//p.1.length=a.length/\cW p.1/\p.2.1<d/\p.2.2<=a.length/\val (a.drop p.2.2)=val (p.1.drop p.2.2)*d+p.2.1})
  (fun p=>[(0,dz a),(1,.int .u32 d),(11,.own 11),(6,.own 11),(7,.int .u64 p.1.2.1),(8,.int .i64 ((p.1.2.2:Nat)-1))]) (fun p=>[(11,.row 1 230 (bE p.1.1) (aO _))])
  (fun p=>p.1.2.2) ⟨(List.replicate a.length 0,0,a.length),by simp,il _,by simp only;omega,Nat.le_refl _,by simp[val]⟩
  (dn rfl) ⟨⟨_,rfl,.of_eq (dW (mJ _))⟩,trivial⟩ rfl rfl ?_)
 rintro⟨⟨zs,c,j⟩,hzl,hzs,hc,hj,hv⟩;simp only at hzl hzs hc hj hv;show Ok PP _ [(0,dz a),(1,.int .u32 d),(11,.own 11),(6,.own 11),(7,.int .u64 c),(8,.int .i64 ((j:Nat)-1))] [(11,.row 1 230 (bE zs) (aO _))] _ _;refine .sq ?_
 cases j with
 |zero=>
  refine .al (.mv rfl<|.cm rfl rfl (b:=false) (by simp[du])<|.nil) rfl ?_;refine .cF rfl (.exit (Ok.on ?_));simp only[List.drop_zero]at hv;have hq:val zs=x/d:=by
   rw[←hvx,hv,Nat.mul_comm,Nat.mul_add_div (by omega),Nat.div_eq_of_lt hc];omega
  have hr:c=x%d:=by
   rw[←hvx,hv,Nat.mul_comm,Nat.mul_add_mod,Nat.mod_eq_of_lt hc]
  refine .tD (n:=a.length) (m':=1) 6 rfl rfl (by simp[bB,hzl]) rfl rfl ?_;refine .sub [(6,dz zs),(7,.int .u64 c)] [] ⟨⟨_,rfl,.of_eq (nF hzl.symm rfl)⟩,⟨_,rfl,.refl _⟩,trivial⟩ trivial rfl rfl ?_;refine .al (.mv rfl<|.call (m_ _ hzs (by omega)) ⟨rfl,trivial⟩<|.mv rfl<|.call (sP c (by omega)) ⟨rfl,trivial⟩<|.ao rfl<|.ao rfl<|.nil) rfl ?_;exact .EC rfl (.tmp rfl) (.tmp rfl) (.of_eq (by rw[hq,hr])) rfl
 |succ i=>
  have hxi:a[i]?=some (a.getD i 0):=by simp[show i<a.length by omega]
  have hel:=bP hlx i;have hdr:=fB a i;have hdz:=fB (zs.set i ((c*4294967296+a.getD i 0)/d)) i;generalize a.getD i 0=e at hxi hel hdr hdz;refine .al (.mv rfl<|.cm rfl rfl (b:=true) (by simp[du];try omega)<|.nil) rfl ?_;refine .cT rfl (.skip (Ok.on (.sq (.block ?_))));rw[show((i+1:Nat):Int)-1=i by omega];have hs0:c*4294967296+e<d*4294967296:=by omega
  have hq1:(c*4294967296+e)/d<4294967296:=by rw[Nat.div_lt_iff_lt_mul (by omega)];omega
  refine .al (.mv rfl<|.sh rfl rfl (z6 (n:=c) (by omega))<|.mv rfl<|.mv rfl<|.pV rfl rfl av (by omega) (by omega) (bj hxi)<|.iJ rfl aP<|.cv rfl bk (bJ (by omega))<|.ar rfl rfl (wK (by omega) hel)<|.ao rfl<|.nil) rfl ?_;refine .al (.mv rfl<|.mv rfl<|.mv rfl<|.mv rfl<|.cv rfl bk (bJ (by omega))<|.ar rfl rfl (DK hd0 (by omega))<|.cv rfl eB (fT hq1)<|
   .qH (n:=a.length) (m':=1) rfl rfl rfl av (by rw[bB,hzl];omega) rfl rfl (by omega) (by omega)<|.AU rfl rfl rfl aP rfl rfl (by simp[bB,hzl];try omega)<|.nil) rfl ?_
  refine .region (.mv rfl<|.mv rfl<|.cv rfl bk (bJ (by omega))<|.ar rfl rfl (xe hd0)<|.ao rfl<|.nil) rfl fun _ _ hs=>?_;refine Ok.on ?_ _ _ hs;refine .region (.mv rfl<|.ar rfl rfl (kf (by omega))<|.ao rfl<|.nil) rfl fun _ _ hs=>?_;refine hs.round (m:=i+1) ⟨(zs.set i ((c*4294967296+e)/d),(c*4294967296+e)%d,i),by simpa using hzl,i7 hzs hq1 i,Nat.mod_lt _ (by omega),by simp only;omega,?_⟩ (by simp)
   (dn rfl) ⟨⟨_,rfl,.of_eq (dW (eS ..))⟩,trivial⟩ rfl rfl
  simp only;have hg:(zs.set i ((c*4294967296+e)/d)).getD i 0=(c*4294967296+e)/d:=by simp[show i<zs.length by omega]
  have hds:(zs.set i ((c*4294967296+e)/d)).drop (i+1)=zs.drop (i+1):=List.drop_set_of_lt (Nat.lt_succ_self i);rw[hg,hds]at hdz;rw[hdr,hdz,hv];have hdm:=Nat.div_add_mod (c*4294967296+e) d;generalize (c*4294967296+e)/d=q at*;generalize (c*4294967296+e)%d=r at*;generalize val (zs.drop (i+1))=Z at*;rw[Nat.add_mul,Nat.mul_assoc,Nat.mul_add,Nat.mul_comm q d];omega
end Go.Am
namespace Go.Am
open Go.RowKit
theorem Dv{p q c x y o vz vb:Nat}{v:Nat}(h:v+p*q*c=vz+p*x*vb):
  v+p*q*((c+(x*y+o))%4294967296)+p*q*4294967296*((c+(x*y+o))/4294967296)=vz+p*q*o+p*x*(vb+q*y):=by
 have:p*q*((c+(x*y+o))%4294967296)+p*q*4294967296*((c+(x*y+o))/4294967296)=p*q*c+(p*q*(x*y)+p*q*o):=by
  rw[Nat.mul_assoc (p*q),←Nat.mul_add,Nat.mod_add_div,Nat.mul_add,Nat.mul_add]
 have e:p*q*(x*y)=p*x*(q*y):=by
  rw[Nat.mul_assoc,Nat.mul_assoc,Nat.mul_left_comm q x y]
 rw[Nat.mul_add];omega
theorem BB{x y c o:Nat}(hx:x<4294967296)(hy:y<4294967296)(hc:c<4294967296)(ho:o<4294967296):x*y+o<18446744073709551616/\c+(x*y+o)<18446744073709551616:=by
 have:x*y<=4294967295*4294967295:=Nat.mul_le_mul (by omega) (by omega);omega
theorem FP(x y:Nat)(hx:(aA x).length<=1099511627776)(hy:(aA y).length<=1099511627776):lO PP 150 [aj x,aj y] (aj (x*y)):=by
 show lO PP _ [dz (aA x),dz (aA y)] _;have hvx:=dL x;have hvy:=dL y;have hlx:=cL x;have hly:=cL y;generalize aA x=a at*;generalize aA y=b at*;refine .of Go.Proofs.Tryz.func150 rfl (by kernel_rfl) rfl rfl rfl (fun A w0=>?_);refine .al (.ao rfl<|.nil) rfl ?_;refine .al (.mv rfl<|.ln rfl au<|.mv rfl<|.ln rfl au<|.ar rfl rfl (dJ (by omega))<|.Gs rfl rfl dE rfl (by omega) (by omega) rfl<|.ao rfl<|.nil) rfl (.sq ?_);refine .al (.mv rfl<|.ln rfl au<|.mv rfl<|.nil) rfl ?_;refine .block (.loop (ι:={p:List Nat×Nat//p.1.length=a.length+b.length/\cW p.1/\p.2<=a.length/\val (p.1.take (p.2+b.length))=val (a.take p.2)*val b})
  (fun p=>[(0,dz a),(1,dz b),(16,.own 16),(5,.own 16),(17,dz a),(18,.int .i64 a.length),(19,.int .i64 p.1.2)]) (fun p=>[(16,.row 1 230 (bE p.1.1) (aO _))])
  (fun p=>a.length-p.1.2) ⟨(List.replicate (a.length+b.length) 0,0),by simp,il _,Nat.zero_le _,by
   simp only[Nat.zero_add,List.take_zero,val,Nat.zero_mul,List.take_replicate];exact oM _⟩
  (dn rfl) ⟨⟨_,rfl,.of_eq (dW (mJ _))⟩,trivial⟩ rfl rfl ?_)
 rintro⟨⟨zs,i⟩,hzl,hzs,hi,hv⟩;simp only at hzl hzs hi hv;show Ok PP _ [(0,dz a),(1,dz b),(16,.own 16),(5,.own 16),(17,dz a),(18,.int .i64 a.length),(19,.int .i64 i)] [(16,.row 1 230 (bE zs) (aO _))] _ _;by_cases hlt:i<a.length
 ·refine .al (.cm rfl rfl (b:=true) (by simp[du,hlt])<|.nil) rfl (.sq ?_);refine .cT rfl (.skip (Ok.on (.sq (.block ?_))));have hxi:a[i]?=some (a.getD i 0):=by simp[hlt]
  have hdl:=bP hlx i;have hst:=dF a i;generalize a.getD i 0=d at hxi hdl hst;refine .al (.mv rfl<|.pV rfl rfl av (by omega) (by omega) (bj hxi)<|.iJ rfl aP<|.ao rfl<|.ao rfl<|.nil) rfl ?_;refine .al (.ao rfl<|.nil) rfl (.sq ?_);refine .al (.mv rfl<|.ln rfl au<|.mv rfl<|.nil) rfl ?_;refine .block (.loop (ι:={p:List Nat×Nat×Nat//p.1.length=a.length+b.length/\cW p.1/\p.2.1<4294967296/\p.2.2<=b.length/\(∀j,i+p.2.2<=j->p.1.getD j 0=zs.getD j 0)/\
    val (p.1.take (i+p.2.2))+4294967296^i*4294967296^p.2.2*p.2.1=val (zs.take (i+p.2.2))+4294967296^i*d*val (b.take p.2.2)})
   (fun p=>[(0,dz a),(1,dz b),(16,.own 16),(5,.own 16),(17,dz a),(18,.int .i64 a.length),(19,.int .i64 i),(6,.int .i64 i),(7,.int .u32 d),(8,.int .u64 p.1.2.1),(24,dz b),(25,.int .i64 b.length),(26,.int .i64 p.1.2.2)]) (fun p=>[(16,.row 1 230 (bE p.1.1) (aO _))])
   (fun p=>b.length-p.1.2.2) ⟨(zs,0,0),hzl,hzs,by simp,Nat.zero_le _,fun _ _=>rfl,by simp[val]⟩
   (dn rfl) (jt rfl) rfl rfl ?_)
  rintro⟨⟨us,c,k⟩,hul,hus,hc,hk,hsame,hu⟩;simp only at hul hus hc hk hsame hu;show Ok PP _ [(0,dz a),(1,dz b),(16,.own 16),(5,.own 16),(17,dz a),(18,.int .i64 a.length),(19,.int .i64 i),(6,.int .i64 i),(7,.int .u32 d),(8,.int .u64 c),(24,dz b),(25,.int .i64 b.length),(26,.int .i64 k)] [(16,.row 1 230 (bE us) (aO _))] _ _;by_cases hkl:k<b.length
  ·refine .al (.cm rfl rfl (b:=true) (by simp[du,hkl])<|.nil) rfl (.sq ?_);refine .cT rfl (.skip (Ok.on (.sq (.block ?_))));have hyk:b[k]?=some (b.getD k 0):=by simp[hkl]
   have hel:=bP hly k;have hst':=dF b k;have hst2:=dF zs (i+k);have hok:us[i+k]?=some (zs.getD (i+k) 0):=by
    rw[←hsame (i+k) (Nat.le_refl _)];simp[show i+k<us.length by omega]
   have hol:=bP hzs (i+k);generalize b.getD k 0=e at hyk hel hst';generalize zs.getD (i+k) 0=o at hok hol hst2;obtain⟨hm1,hm2⟩:=BB hdl hel hc hol;refine .al (.mv rfl<|.pV rfl rfl av (by omega) (by omega) (bj hyk)<|.iJ rfl aP<|.ao rfl<|.ao rfl<|.nil) rfl ?_;refine .al (.mv rfl<|.mv rfl<|.cv rfl bk (bJ (by omega))<|.mv rfl<|.cv rfl bk (bJ (by omega))<|.ar rfl rfl (sO (by omega))<|.mv rfl<|.mv rfl<|.mv rfl<|.ar rfl rfl (dJ (by omega))<|
    .qH (n:=a.length+b.length) (m':=1) rfl rfl rfl av (by rw[bB,hul];omega) rfl rfl (by omega) (by omega)<|.zp rfl rfl aP (d:=.int .u32 o) (by rw[Int.toNat_natCast,Nat.mul_one];exact bj hok)<|.cv rfl bk (bJ (by omega))<|
    .ar rfl rfl (sk hm1)<|.ar rfl rfl (sk hm2)<|.ao rfl<|.nil) rfl ?_
   refine .al (.mv rfl<|.mv rfl<|.mv rfl<|.ar rfl rfl (dJ (by omega))<|.mv rfl<|.cv rfl eB (jz _)<|.qH (n:=a.length+b.length) (m':=1) rfl rfl rfl av (by rw[bB,hul];omega) rfl rfl (by omega) (by omega)<|
    .AU rfl rfl rfl aP rfl rfl (by simp[bB,hul];try omega)<|.nil) rfl ?_
   refine .region (.mv rfl<|.sh rfl rfl (xn (by decide))<|.ao rfl<|.nil) rfl fun _ _ hs=>?_;refine Ok.on ?_ _ _ hs;refine .region (.ar rfl rfl (fA (by omega))<|.mv rfl<|.nil) rfl fun _ _ hs=>?_;refine hs.round (m:=b.length-k) ⟨(us.set (i+k) ((c+(d*e+o))%4294967296),(c+(d*e+o))/4294967296,k+1),by simpa using hul,i7 hus (Nat.mod_lt _ (by omega)) _,by simp only;omega,hkl,?_,?_⟩ (by simp only;omega)
    (dn rfl) ⟨⟨_,rfl,.of_eq (dW (eS ..))⟩,trivial⟩ rfl rfl
   ·intro j hj;simp only at hj|-;rw[←hsame j (by omega),List.getD_eq_getElem?_getD,List.getD_eq_getElem?_getD,List.getElem?_set_ne (by omega)]
   ·simp only;rw[←Nat.add_assoc,fu (by omega),hst2,hst',Nat.pow_succ,Nat.pow_add,←Nat.mul_assoc (4294967296^i)];exact Dv hu
  ·have hkb:k=b.length:=by omega
   subst hkb;refine .al (.cm rfl rfl (b:=false) (by simp[du])<|.nil) rfl (.sq ?_);refine .cF rfl (.exit (Ok.on ?_));refine .region (.mv rfl<|.mv rfl<|.mv rfl<|.ln rfl au<|.ar rfl rfl (dJ (by omega))<|.mv rfl<|.cv rfl eB (fT hc)<|.qH (n:=a.length+b.length) (m':=1) rfl rfl rfl av (by rw[bB,hul];omega) rfl rfl (by omega) (by omega)<|
    .AU rfl rfl rfl aP rfl rfl (by simp[bB,hul];try omega)<|.nil) rfl fun _ _ hs=>?_
   refine Ok.on ?_ _ _ hs;refine .region (.ar rfl rfl (fA (by omega))<|.mv rfl<|.nil) rfl fun _ _ hs=>?_;refine hs.round (m:=a.length-i) ⟨(us.set (i+b.length) c,i+1),by simpa using hul,i7 hus hc _,hlt,?_⟩ (by simp only;omega)
    (dn rfl) ⟨⟨_,rfl,.of_eq (dW (eS ..))⟩,trivial⟩ rfl rfl
   simp only;rw[show i+1+b.length=i+b.length+1 by omega,fu (by omega),Nat.pow_add,hu,hv,hst,List.take_length,Nat.add_mul]
 ·have:i=a.length:=by omega
  subst this;refine .al (.cm rfl rfl (b:=false) (by simp[du])<|.nil) rfl (.sq ?_);refine .cF rfl (.exit (Ok.on ?_));rw[List.take_length,List.take_of_length_le (by omega),hvx,hvy]at hv;refine .tD (n:=a.length+b.length) (m':=1) 5 rfl rfl (by simp[bB,hzl]) rfl rfl ?_;refine .sub [(5,dz zs)] [] ⟨⟨_,rfl,.of_eq (nF hzl.symm rfl)⟩,trivial⟩ trivial rfl rfl ?_;refine .al (.mv rfl<|.call (m_ _ hzs (by omega)) ⟨rfl,trivial⟩<|.ao rfl<|.nil) rfl ?_;exact .qR rfl (.tmp rfl) (.of_eq (by rw[hv])) rfl
end Go.Am
namespace Go.Am
open Go.RowKit
theorem EU{n k:Nat}(hk:k<=64)(h:n*2^k<18446744073709551616):BS .shl .u64 (n:Int) (k:Int)=some ((n*2^k:Nat):Int):=by
 unfold BS;rw[if_neg (by omega)];have:min (k:Int).toNat IntKind.u64.bits=k:=by rw[Int.toNat_natCast,show IntKind.u64.bits=64 by decide];omega
 simp only[this];rw[show(n:Int)*2^k=((n*2^k:Nat):Int)by rw[Int.natCast_mul,Int.natCast_pow];rfl,bJ h]
theorem Dh{n d k:Nat}(hn:n<2^k)(h:n+d*2^k<18446744073709551616):pB .or .u64 (n:Int) ((d*2^k:Nat):Int)=some ((n+d*2^k:Nat):Int):=by
 show some (bits .or .u64 _ _)=_;rw[bits_or_u64_nat _ _ (by omega) (by omega)];have:=Nat.two_pow_add_eq_or_of_lt hn d;rw[Nat.or_comm,Nat.mul_comm d,←this,Nat.add_comm]
theorem Es(x:Nat)(hx:(aA x).length<=2):lO PP 185 [aj x] (.int .u64 x):=by
 show lO PP _ [dz (aA x)] _;have hvx:=dL x;have hlx:=cL x;generalize aA x=a at*;refine .of Go.Proofs.Tryz.func185 rfl (by kernel_rfl) rfl rfl rfl (fun A w0=>?_);refine .al (.ao rfl<|.nil) rfl ?_;refine .al (.ao rfl<|.nil) rfl (.sq ?_);refine .al (.mv rfl<|.ln rfl au<|.mv rfl<|.nil) rfl ?_;refine .block (.loop (ι:={i:Nat//i<=a.length}) (fun i=>[(3,.int .u64 (val (a.take i.1):Nat)),(6,dz a),(7,.int .i64 a.length),(8,.int .i64 i.1)]) (fun _=>[]) (fun i=>a.length-i.1)
  ⟨0,Nat.zero_le _⟩ (dn rfl) trivial rfl rfl ?_)
 rintro⟨i,hi⟩;show Ok PP _ [(3,.int .u64 (val (a.take i):Nat)),(6,dz a),(7,.int .i64 a.length),(8,.int .i64 i)] [] _ _;by_cases hlt:i<a.length
 ·refine .al (.cm rfl rfl (b:=true) (by simp[du,hlt])<|.nil) rfl (.sq ?_);refine .cT rfl (.skip (Ok.on (.sq (.block ?_))));have hxi:a[i]?=some (a.getD i 0):=by simp[hlt]
  have hel:=bP hlx i;have hst:=dF a i;have htl:=eY hlx i;generalize a.getD i 0=e at hxi hel hst;have hi1:i=0\/i=1:=by omega
  have hp:(4294967296:Nat)^i=2^(32*i):=by rw[Nat.pow_mul]
  rw[hp]at htl hst;have hb2:val (a.take i)+e*2^(32*i)<18446744073709551616:=by
   rcases hi1 with h|h<;>subst h<;>simp at htl|-<;>omega
  refine .al (.mv rfl<|.pV rfl rfl av (by omega) (by omega) (bj hxi)<|.iJ rfl aP<|.ao rfl<|.ao rfl<|.nil) rfl ?_;refine .region (.mv rfl<|.mv rfl<|.cv rfl bk (bJ (by omega))<|.mv rfl<|.ar rfl rfl (r:=((32*i:Nat):Int)) (congrArg some (gE (by omega) (by omega)))<|.sh rfl rfl (EU (n:=e) (k:=32*i) (by omega) (by omega))<|
   .ar rfl rfl (Dh htl hb2)<|.ao rfl<|.nil) rfl fun _ _ hs=>?_
  refine Ok.on ?_ _ _ hs;refine .region (.ar rfl rfl (fA (by omega))<|.mv rfl<|.nil) rfl fun _ _ hs=>?_;exact hs.round (m:=a.length-i) ⟨i+1,hlt⟩ (by simp only;omega) ⟨⟨_,rfl,int_eq (by rw[hst,Nat.mul_comm])⟩,⟨_,rfl,.refl _⟩,⟨_,rfl,.refl _⟩,⟨_,rfl,.refl _⟩,trivial⟩ trivial rfl rfl
 ·have:i=a.length:=by omega
  subst this;refine .al (.cm rfl rfl (b:=false) (by simp[du])<|.nil) rfl (.sq ?_);refine .cF rfl (.exit (Ok.on ?_));refine .al (.mv rfl<|.ao rfl<|.nil) rfl ?_;exact .qR rfl (.tmp rfl) (int_eq (by rw[List.take_length,hvx])) rfl
theorem vf{x n d:Nat}(h:(aA x).length=n+1)(hd:(aA x)[n]?=some d):32*n+bz d=bz x:=by
 have hv:=ee hd;rw[←h,List.take_length,dL]at hv;have hx0:x≠0:=by intro e;subst e;rw[cS]at h;simp at h
 have hle:=sn hx0;rw[h,Nat.add_sub_cancel]at hle;have hp:(4294967296:Nat)^n=2^(32*n):=by rw[Nat.pow_mul]
 have hlt:=eY (cL x) n;have hq:x/4294967296^n=d:=by
  rw[hv,Nat.add_mul_div_left _ _ (Nat.pow_pos (by omega)),Nat.div_eq_of_lt hlt,Nat.zero_add]
 rw[hp]at hle hq;have:=qb _ hle;rw[hq]at this;omega
theorem GC(x:Nat)(hx:(aA x).length<=1099511627776):lO PP 186 [aj x] (.int .i64 (bz x:Nat)):=by
 show lO PP _ [dz (aA x)] _;refine .of Go.Proofs.Tryz.func186 rfl (by kernel_rfl) rfl rfl rfl (fun A w0=>?_);refine .al (.ao rfl<|.nil) rfl (.sq ?_);by_cases h0:x=0
 ·subst h0;refine .al (.mv rfl<|.ln rfl au<|.cm rfl rfl (b:=true) (by simp[du,cS])<|.nil) rfl ?_;refine .cT rfl (.al (.ao rfl<|.nil) rfl ?_);exact .rA (fun _ _ h=>h) rfl (.tmp rfl) (int_eq (by rfl)) rfl
 ·have hl:=cM h0;obtain⟨n,hn⟩:∃n,(aA x).length=n+1:=⟨_,(Nat.succ_pred (by omega)).symm⟩;have hxi:(aA x)[n]?=some ((aA x).getD n 0):=by simp[hn]
  have hel:=bP (cL x) n;have hbl:∀d,(aA x)[n]?=some d->32*n+bz d=bz x:=fun d hd=>vf hn hd;generalize (aA x).getD n 0=e at hxi hel;have he:=hbl e hxi;refine .al (.mv rfl<|.ln rfl au<|.cm rfl rfl (HX (by omega))<|.nil) rfl ?_;refine .cF rfl (.skip (Ok.on ?_));have hb:=dS (x:=e) (n:=32) (by omega);have hd1:IntKind.i64.wrap (((aA x).length:Int)-1)=(n:Int):=gE (by omega) (by omega);have hd2:IntKind.i64.wrap (32*(n:Int))=((32*n:Nat):Int):=gE (by omega) (by omega);refine .al (.mv rfl<|.ln rfl au<|.ar rfl rfl (congrArg some hd1)<|.ar rfl rfl (congrArg some hd2)<|.mv rfl<|.mv rfl<|.ln rfl au<|.ar rfl rfl (congrArg some hd1)<|
   .pV rfl rfl av (by omega) (by omega) (bj hxi)<|.iJ rfl aP<|.call (zV e hel) ⟨rfl,trivial⟩<|.ar rfl rfl (dJ (by omega))<|.ao rfl<|.nil) rfl ?_
  exact .qR rfl (.tmp rfl) (int_eq (by rw[he])) rfl
theorem xH(a:List Nat)(ha:a.length<=1099511627776):A3 PP 252 [dz a] 1 230 (bE a):=by
 refine .of (hl:=aO a) Go.Proofs.Tryz.func252 rfl (by kernel_rfl) rfl rfl (fun A w0=>?_);refine .al (.ao rfl<|.nil) rfl (.sq ?_);refine .al (.mv rfl<|.IW au rfl rfl<|.nil) rfl ?_;refine .cQ rfl (fun h=>?_) (.skip (Ok.on ?_))
 ·have ha0:a=[]:=List.eq_nil_of_length_eq_zero h;subst ha0;refine .al (.ao rfl<|.nil) rfl ?_;refine .wG 2 2 1 230 rfl rfl ?_;exact .Bq (fun _ _ h=>h) rfl rfl rfl
 ·refine .al (.It dE rfl<|.mv rfl<|.IA (n1:=0) rfl rfl rfl dE rfl (by omega) (by omega) rfl<|.ao rfl<|.nil) rfl ?_;exact .Bq (fun _ _ h=>h) rfl rfl rfl
end Go.Am
namespace Go.Am
open Go.RowKit
theorem kt{k:Nat}(hk:k<=32):4294967296=2^k*2^(32-k):=by rw[←Nat.pow_add,show k+(32-k)=32 by omega]
theorem At{n k:Nat}(hk:k<=32):BS .shl .u32 (n:Int) (k:Int)=some ((n*2^k%4294967296:Nat):Int):=by
 unfold BS;rw[if_neg (by omega)];have:min (k:Int).toNat IntKind.u32.bits=k:=by rw[Int.toNat_natCast,show IntKind.u32.bits=32 by decide];omega
 simp only[this];rw[show(n:Int)*2^k=((n*2^k:Nat):Int)by rw[Int.natCast_mul,Int.natCast_pow];rfl,jz]
theorem AV{e k:Nat}(hk:k<=32):e*2^(32-k)%4294967296=(e%2^k)*2^(32-k):=by
 conv=>lhs;rhs;rw[kt hk]
 rw[Nat.mul_mod_mul_right]
theorem GS{n d k:Nat}(hn:n<2^k)(h:n+d*2^k<4294967296):pB .or .u32 (n:Int) ((d*2^k:Nat):Int)=some ((n+d*2^k:Nat):Int):=by
 show some (bits .or .u32 _ _)=_;rw[(jV _ _ (by omega) (by omega)).2.1];have:=Nat.two_pow_add_eq_or_of_lt hn d;rw[Nat.or_comm,Nat.mul_comm d,←this,Nat.add_comm]
theorem Fa{n d k:Nat}(hn:n<2^k)(h:n+d*2^k<4294967296):pB .or .u32 ((d*2^k:Nat):Int) (n:Int)=some ((n+d*2^k:Nat):Int):=by
 show some (bits .or .u32 _ _)=_;rw[(jV _ _ (by omega) (by omega)).2.1];have:=Nat.two_pow_add_eq_or_of_lt hn d;rw[Nat.mul_comm d,←this,Nat.add_comm]
theorem uT{d e k:Nat}(hk:k<=32)(hd:d<4294967296):d/2^k<2^(32-k)/\d/2^k+(e%2^k)*2^(32-k)<4294967296:=by
 have hp:=Nat.two_pow_pos k;have hs:=kt hk;have h1:d/2^k<2^(32-k):=by
  rw[Nat.div_lt_iff_lt_mul hp,Nat.mul_comm,←hs];exact hd
 have h2:=Nat.mod_lt e hp;refine⟨h1,?_⟩;have:(e%2^k+1)*2^(32-k)<=2^k*2^(32-k):=Nat.mul_le_mul_right _ h2;rw[←hs,Nat.add_mul,Nat.one_mul]at this;omega
theorem DL{d R k:Nat}(hk:k<=32):(d+4294967296*R)/2^k=d/2^k+(R%2^k)*2^(32-k)+4294967296*(R/2^k):=by
 have hp:=Nat.two_pow_pos k;have hs:=kt hk;have h1:(d+4294967296*R)/2^k=d/2^k+2^(32-k)*R:=by
  conv=>lhs;rw[hs]
  rw[Nat.mul_assoc,Nat.add_mul_div_left _ _ hp]
 have h2:=Nat.div_add_mod R (2^k);rw[h1]
 conv=>lhs;rw[←h2]
 rw[Nat.mul_add,←Nat.mul_assoc,Nat.mul_comm (2^(32-k)) (2^k),←hs,Nat.mul_comm (2^(32-k))];omega
theorem EL{e R k:Nat}(hk:k<=32):(e+4294967296*R)%2^k=e%2^k:=by
 rw[kt hk,Nat.mul_assoc,Nat.add_mul_mod_self_left]
theorem C6{x i:Nat}(h:i<=(aA x).length):val ((aA x).drop i)=x/4294967296^i:=by
 have hs:=eR (aA x) i h;rw[dL]at hs;have hlt:=eY (cL x) i
 conv=>rhs;rw[hs]
 rw[Nat.add_mul_div_left _ _ (Nat.pow_pos (by omega)),Nat.div_eq_of_lt hlt,Nat.zero_add]
theorem Ed(l:List Nat)(i:Nat)(h:bD (((bE l).drop ((i:Int).toNat*1)).take ((l.length-(i:Int).toNat)*1))=[]):D.jm (l.length-(i:Int).toNat) 1 (((bE l).drop ((i:Int).toNat*1)).take ((l.length-(i:Int).toNat)*1)) h=dz (l.drop i):=by
 refine nF ?_ ?_
 ·rw[Int.toNat_natCast,List.length_drop]
 ·rw[Int.toNat_natCast,Nat.mul_one,Nat.mul_one,Bk];exact List.take_of_length_le (by rw[bB,List.length_drop];exact Nat.le_refl _)
theorem FW(x k:Nat)(hx:(aA x).length<=1099511627776)(hk:k<9223372036854775808):lO PP 229 [aj x,.int .i64 k] (aj (x/2^k)):=by
 show lO PP _ [dz (aA x),.int .i64 k] _;refine .of Go.Proofs.Tryz.func229 rfl (by kernel_rfl) rfl rfl rfl (fun A w0=>?_);have hkq:(2:Nat)^k=4294967296^(k/32)*2^(k%32):=by
  rw[show(4294967296:Nat)=2^32 by rfl,←Nat.pow_mul,←Nat.pow_add,Nat.div_add_mod]
 refine .al (.ao rfl<|.nil) rfl (.sq ?_);by_cases hge:(aA x).length<=k/32
 ·refine .al (.mv rfl<|.ar rfl rfl (xd (n:=k) (d:=32) (by omega) hk)<|.mv rfl<|.ln rfl au<|.cm rfl rfl (Gk (by omega))<|.nil) rfl ?_;refine .cT rfl (.al (.ao rfl<|.nil) rfl ?_);have hz:x/2^k=0:=by
   apply Nat.div_eq_of_lt;have h1:=lI (x:=x);have h2:4294967296^(aA x).length<=4294967296^(k/32):=Nat.pow_le_pow_right (by omega) hge;have h3:4294967296^(k/32)*1<=4294967296^(k/32)*2^(k%32):=Nat.mul_le_mul_left _ (Nat.two_pow_pos _);rw[hkq];omega
  rw[hz];exact .rA (fun _ _ h=>h) rfl (.tmp rfl) aV rfl
 ·refine .al (.mv rfl<|.ar rfl rfl (xd (n:=k) (d:=32) (by omega) hk)<|.mv rfl<|.ln rfl au<|.cm rfl rfl (EH (by omega))<|.nil) rfl ?_;refine .cF rfl (.skip (Ok.on ?_));have hval:=C6 (x:=x) (i:=k/32) (by omega);have hres:x/2^k=(x/4294967296^(k/32))/2^(k%32):=by rw[hkq,Nat.div_div_eq_div_mul]
  rw[hres,←hval];have hla:cW ((aA x).drop (k/32)):=jy (cL x) _;have hll:((aA x).drop (k/32)).length=(aA x).length-k/32:=by simp
  have hslc:=Ed (aA x) (k/32);generalize (aA x).drop (k/32)=a at*;have hr:k%32<32:=Nat.mod_lt _ (by omega);refine .al (.mv rfl<|.mv rfl<|.ar rfl rfl (xd (n:=k) (d:=32) (by omega) hk)<|.JM rfl rfl av (by omega) (by omega)<|.Av (hl:=aO a) (xH a (by omega)) ⟨congrArg some (hslc _),trivial⟩ rfl<|.ao rfl<|.nil) rfl ?_;refine .uB (ι:={zs:List Nat//zs.length=a.length/\cW zs/\val zs=val a/2^(k%32)}) (fun zs=>[(5,.own 17)]) (fun zs=>[(17,.row 1 230 (bE zs.1) (aO _))]) ?_ ?_
  ·refine .al (.mv rfl<|.ar rfl rfl (xe (n:=k) (d:=32) (by omega))<|.ao rfl<|.nil) rfl ?_;generalize k%32=r at*;refine .sub [(5,.own 17),(6,.int .i64 r)] [(17,.row 1 230 (bE a) (aO a))] (dn rfl) (jt rfl) rfl rfl ?_;by_cases hr0:r=0
   ·subst hr0;refine .al (.mv rfl<|.cm rfl rfl (GR (by omega))<|.nil) rfl ?_;exact .cF rfl (.skip fun _ _ hs=>hs.to ⟨a,rfl,hla,by simp⟩ (dn rfl) (jt rfl) rfl rfl)
   refine .al (.mv rfl<|.cm rfl rfl (Gw (by omega))<|.nil) rfl ?_;refine .cT rfl ?_;refine .al (.mv rfl<|.HC (n:=a.length) (m':=1) rfl rfl au (by simp[bB]) rfl rfl<|.mv rfl<|.nil) rfl ?_;refine .block (.loop (ι:={p:List Nat×Nat//p.1.length=a.length/\cW p.1/\p.2<=a.length/\(∀j,p.2<=j->p.1.getD j 0=a.getD j 0)/\val (p.1.take p.2)+4294967296^p.2*(val (a.drop p.2)/2^r)=val a/2^r})
    (fun p=>[(5,.own 17),(6,.int .i64 r),(23,.int .i64 a.length),(24,.int .i64 p.1.2)]) (fun p=>[(17,.row 1 230 (bE p.1.1) (aO _))]) (fun p=>a.length-p.1.2)
    ⟨(a,0),rfl,hla,Nat.zero_le _,fun _ _=>rfl,by simp[val]⟩ (dn rfl) (jt rfl) rfl rfl ?_)
   rintro⟨⟨zs,i⟩,hzl,hzs,hi,hsame,hv⟩;simp only at hzl hzs hi hsame hv;show Ok PP _ [(5,.own 17),(6,.int .i64 r),(23,.int .i64 a.length),(24,.int .i64 i)] [(17,.row 1 230 (bE zs) (aO _))] _ _;by_cases hlt:i<a.length
   ·refine .al (.cm rfl rfl (zQ (by omega))<|.nil) rfl (.sq ?_);refine .cT rfl (.skip (Ok.on ?_));have hzi:zs[i]?=some (a.getD i 0):=by rw[←hsame i (Nat.le_refl _)];simp[show i<zs.length by omega]
    have hdl:=bP hla i;have hdr:=fB a i;have hdr2:=fB a (i+1);have hel:=bP hla (i+1);generalize a.getD i 0=d at hzi hdl hdr;have hpd:d/2^r<4294967296:=Nat.lt_of_le_of_lt (Nat.div_le_self _ _) hdl;refine .cut [(5,.own 17),(6,.int .i64 r),(23,.int .i64 a.length),(24,.int .i64 i)] [(17,.row 1 230 (bE (zs.set i (d/2^r+(a.getD (i+1) 0%2^r)*2^(32-r)))) (aO _))] ?_ ?_
    ·refine .block ?_;refine .al (.mv rfl<|.ao rfl<|.nil) rfl ?_;refine .al (.mv rfl<|.mv rfl<|.qH (n:=a.length) (m':=1) rfl rfl rfl av (by rw[bB,hzl];omega) rfl rfl (by omega) (by omega)<|.zp rfl rfl aP (d:=.int .u32 d) (by rw[Int.toNat_natCast,Nat.mul_one];exact bj hzi)<|.mv rfl<|.sh rfl rfl (sJ (k:=r) (by omega))<|
      .qH (n:=a.length) (m':=1) rfl rfl rfl av (by rw[bB,hzl];omega) rfl rfl (by omega) (by omega)<|.AU rfl rfl rfl aP rfl rfl (by simp[bB,hzl];try omega)<|.nil) rfl ?_
     refine .sub [(5,.own 17),(6,.int .i64 r),(7,.int .i64 i),(23,.int .i64 a.length),(24,.int .i64 i)] [(17,.row 1 230 (bE (zs.set i (d/2^r))) (aO _))] (dn rfl) ⟨⟨_,rfl,.of_eq (dW (eS ..))⟩,trivial⟩ rfl rfl ?_;have hsd:=uT (e:=a.getD (i+1) 0) (show r<=32 by omega) hdl;by_cases hn:i+1<a.length
     ·have hze:(zs.set i (d/2^r))[i+1]?=some (a.getD (i+1) 0):=by
       rw[List.getElem?_set_ne (by omega),←hsame (i+1) (by omega)];simp[show i+1<zs.length by omega]
      have hzd:(zs.set i (d/2^r))[i]?=some (d/2^r):=by simp[show i<zs.length by omega]
      have hl2:(bE (zs.set i (d/2^r))).length=a.length*1:=by rw[bB,List.length_set,hzl];omega
      generalize a.getD (i+1) 0=e at hze hel hsd;refine .al (.mv rfl<|.ar rfl rfl (fA (by omega))<|.mv rfl<|.HC (n:=a.length) (m':=1) rfl rfl au hl2 rfl rfl<|.cm rfl rfl (zQ (by omega))<|.nil) rfl ?_;refine .cT rfl ?_;refine .de cn (.mv rfl<|.mv rfl<|.qH (n:=a.length) (m':=1) rfl rfl rfl av hl2 rfl rfl (by omega) (by omega)<|.zp rfl rfl aP (d:=.int .u32 (d/2^r:Nat)) (by rw[Int.toNat_natCast,Nat.mul_one];exact bj hzd)<|
       .mv rfl<|.mv rfl<|.ar rfl rfl (fA (by omega))<|.qH (n:=a.length) (m':=1) rfl rfl rfl av hl2 rfl rfl (by omega) (by omega)<|.zp rfl rfl aP (d:=.int .u32 (e:Nat)) (by rw[Int.toNat_natCast,Nat.mul_one];exact bj hze)<|
       .mv rfl<|.ar rfl rfl (r:=((32-r:Nat):Int)) (congrArg some (gE (by omega) (by omega)))<|.sh rfl rfl (At (n:=e) (k:=32-r) (by omega))<|.ar rfl rfl (r:=((d/2^r+(e%2^r)*2^(32-r):Nat):Int)) (by rw[AV (by omega)];exact GS hsd.1 hsd.2)<|
       .qH (n:=a.length) (m':=1) rfl rfl rfl av hl2 rfl rfl (by omega) (by omega)<|.AU rfl rfl rfl aP rfl rfl (by rw[hl2];omega)<|.nil) rfl (by kernel_rfl) fun _ _ hs=>?_
      exact hs.sub (dn rfl) ⟨⟨_,rfl,.of_eq (dW (by rw[eS,List.set_set]))⟩,trivial⟩ rfl rfl
     ·have he0:a.getD (i+1) 0=0:=by simp[List.getElem?_eq_none (show a.length<=i+1 by omega)]
      rw[he0,Nat.zero_mod,Nat.zero_mul,Nat.add_zero];have hl2:(bE (zs.set i (d/2^r))).length=a.length*1:=by rw[bB,List.length_set,hzl];omega
      refine .al (.mv rfl<|.ar rfl rfl (fA (by omega))<|.mv rfl<|.HC (n:=a.length) (m':=1) rfl rfl au hl2 rfl rfl<|.cm rfl rfl (yS (by omega))<|.nil) rfl ?_;exact .cF rfl (.skip fun _ _ hs=>hs.sub (dn rfl) (jt rfl) rfl rfl)
    ·have hsd:=uT (e:=a.getD (i+1) 0) (show r<=32 by omega) hdl;have hml:=EL (e:=a.getD (i+1) 0) (R:=val (a.drop (i+1+1))) (show r<=32 by omega);rw[←hdr2]at hml;refine .region (.ar rfl rfl (fA (by omega))<|.mv rfl<|.nil) rfl fun _ _ hs=>?_;refine hs.round (m:=a.length-i) ⟨(zs.set i (d/2^r+(a.getD (i+1) 0%2^r)*2^(32-r)),i+1),by simpa using hzl,i7 hzs hsd.2 i,hlt,?_,?_⟩ (by simp only;omega) (dn rfl) (jt rfl) rfl rfl
     ·intro j hj;simp only at hj|-;rw[←hsame j (by omega)];simp[List.getElem?_set_ne (show i≠j by omega)]
     ·simp only;rw[fu (by omega),←hv,hdr,DL (by omega),hml,Nat.pow_succ];generalize d/2^r+a.getD (i+1) 0%2^r*2^(32-r)=X;rw[Nat.mul_add,Nat.mul_assoc,Nat.add_assoc]
   ·have:i=a.length:=by omega
    subst this;refine .al (.cm rfl rfl (yS (by omega))<|.nil) rfl (.sq ?_);refine .cF rfl (.exit fun _ _ hs=>?_);refine hs.to ⟨zs,hzl,hzs,?_⟩ (dn rfl) (jt rfl) rfl rfl;rw[List.take_of_length_le (by omega),List.drop_length]at hv;simpa [val]using hv
  ·rintro⟨zs,hzl,hzs,hv⟩;show Ok PP _ [(5,.own 17)] [(17,.row 1 230 (bE zs) (aO _))] _ _;refine .tD (n:=a.length) (m':=1) 5 rfl rfl (by simp[bB,hzl]) rfl rfl ?_;refine .sub [(5,dz zs)] [] ⟨⟨_,rfl,.of_eq (nF hzl.symm rfl)⟩,trivial⟩ trivial rfl rfl ?_;refine .al (.mv rfl<|.call (m_ _ hzs (by omega)) ⟨rfl,trivial⟩<|.ao rfl<|.nil) rfl ?_;exact .qR rfl (.tmp rfl) (.of_eq (by rw[hv])) rfl
end Go.Am
namespace Go.Am
open Go.RowKit
theorem EA{d r:Nat}(hr:r<=32):d*2^r%4294967296=(d%2^(32-r))*2^r:=by
 have:=AV (e:=d) (k:=32-r) (by omega)
 rwa [show 32-(32-r)=r by omega]at this
theorem Bb{d c r:Nat}(hr:r<=32)(hd:d<4294967296)(hc:c<2^r):c+(d%2^(32-r))*2^r<4294967296/\d/2^(32-r)<2^r/\(d%2^(32-r))*2^r+4294967296*(d/2^(32-r))=2^r*d:=by
 have hs:=kt hr;have hp:=Nat.two_pow_pos (32-r);have hm:=Nat.mod_lt d hp;have h1:(d%2^(32-r)+1)*2^r<=2^(32-r)*2^r:=Nat.mul_le_mul_right _ hm;rw[Nat.mul_comm (2^(32-r)),←hs,Nat.add_mul,Nat.one_mul]at h1;refine⟨by omega,?_,?_⟩
 ·rw[Nat.div_lt_iff_lt_mul hp,←hs];exact hd
 ·have h2:=Nat.div_add_mod d (2^(32-r))
  conv=>rhs;rw[←h2]
  rw[Nat.mul_add,←Nat.mul_assoc,←hs,Nat.mul_comm (2^r) (d%2^(32-r)),Nat.add_comm]
theorem Cq{p v c n d e t o:Nat}(h:v+p*c=t*o)(hd:d+4294967296*e=t*n):v+p*(c+d)+p*4294967296*e=t*(o+p*n):=by
 have h2:p*(d+4294967296*e)=p*(t*n):=by rw[hd]
 rw[Nat.mul_add,←Nat.mul_assoc]at h2;rw[Nat.mul_add,Nat.mul_add,Nat.mul_left_comm t p n];omega
theorem DW{P R W t c v o:Nat}(hR:P=R*W)(hp:t<=W)(ho:o<R)(h:v+P*c=t*o):v=t*o:=by
 subst hR;rcases Nat.eq_zero_or_pos c with h0|h0
 ·subst h0;simpa using h
 ·have h1:t*o<=W*o:=Nat.mul_le_mul_right _ hp;have h2:R*W*1<=R*W*c:=Nat.mul_le_mul_left _ h0;have h3:W*o<=W*R:=Nat.mul_le_mul_left _ (Nat.le_of_lt ho);rcases Nat.eq_zero_or_pos W with h4|h4
  ·subst h4;have:t=0:=by omega
   subst this;simp at h|-;omega
  ·have h5:W*o<W*R:=Nat.mul_lt_mul_of_pos_left ho h4;rw[Nat.mul_comm R W]at h h2;omega
theorem GK{r:Nat}(hr:r<=32):(2:Nat)^r<=4294967296:=by
 have:=kt hr;rw[this];exact Nat.le_mul_of_pos_right _ (Nat.two_pow_pos _)
theorem Ez{n r c v o:Nat}(hr:r<=32)(ho:o<4294967296^n)(h:v+4294967296^(n+1)*c=2^r*o):v=2^r*o:=
 DW (Nat.pow_succ ..) (GK hr) ho h
def laid(q:Nat)(a:List Nat):List Nat:=List.replicate q 0++a++[0]
theorem DI(q:Nat)(a:List Nat):(laid q a).length=q+a.length+1:=by simp[laid];omega
theorem yJ(q:Nat)(a:List Nat):val (laid q a)=4294967296^q*val a:=by
 rw[laid,kS,kS,oM];simp[val]
theorem B3(q:Nat){a:List Nat}(h:cW a):cW (laid q a):=jQ (jQ (il q) h) (fun d hd=>by simp at hd;omega)
theorem Bz(q:Nat)(a:List Nat):(List.replicate (q+a.length+1) (D.int .u32 0)).take ((q:Int).toNat*1)++bE a++(List.replicate (q+a.length+1) (D.int .u32 0)).drop ((q:Int).toNat*1+a.length)=bE (laid q a):=by
 rw[Int.toNat_natCast,Nat.mul_one,List.take_replicate,List.drop_replicate,Nat.min_eq_left (by omega),show q+a.length+1-(q+a.length)=1 by omega];simp[laid,bE]
theorem Dr(x k:Nat)(hx:(aA x).length<=1099511627776)(hk:k<35184372088832):lO PP 166 [aj x,.int .i64 k] (aj (x*2^k)):=by
 show lO PP _ [dz (aA x),.int .i64 k] _;refine .of Go.Proofs.Tryz.func166 rfl (by kernel_rfl) rfl rfl rfl (fun A w0=>?_);have hkq:(2:Nat)^k=4294967296^(k/32)*2^(k%32):=by
  rw[show(4294967296:Nat)=2^32 by rfl,←Nat.pow_mul,←Nat.pow_add,Nat.div_add_mod]
 have hq:k/32<1099511627776:=by omega
 have hr:k%32<32:=Nat.mod_lt _ (by omega);have hqi:pB .quo .i64 (k:Int) 32=some ((k/32:Nat):Int):=xd (d:=32) (by omega) (by omega);have hri:pB .rem .i64 (k:Int) 32=some ((k%32:Nat):Int):=xe (d:=32) (by omega);have hvx:=dL x;have hla:=cL x;generalize aA x=a at*;have hres:x*2^k=2^(k%32)*val (laid (k/32) a):=by
  rw[yJ,hvx,hkq,Nat.mul_comm x,Nat.mul_assoc,Nat.mul_left_comm]
 rw[hres];generalize k/32=q at*;generalize k%32=r at*;have hlo:=B3 q hla;have hln:=DI q a;have hcopy:=Bz q a;have hsmall:val (laid q a)<4294967296^(q+a.length):=by
  rw[yJ,Nat.pow_add];exact Nat.mul_lt_mul_of_pos_left (px hla) (Nat.pow_pos (by omega))
 have hstart:val ((laid q a).take q)=0:=by
  rw[laid,List.append_assoc,List.take_append_of_le_length (by simp),List.take_of_length_le (by simp)];exact oM q
 generalize laid q a=o at*;refine .al (.ao rfl<|.nil) rfl ?_;refine .al (.mv rfl<|.ar rfl rfl hqi<|.mv rfl<|.ln rfl au<|.ar rfl rfl (dJ (by omega))<|.ar rfl rfl (fA (by omega))<|.Gs rfl rfl dE rfl (by omega) (by omega) rfl<|.ao rfl<|.nil) rfl ?_;refine .al (.mv rfl<|.mv rfl<|.ar rfl rfl hqi<|.Jz (n:=q+a.length+1) (m':=1) rfl rfl rfl av (by simp) rfl rfl (by omega) (by omega)<|.mv rfl<|.JV rfl rfl rfl dE (by simp;try omega) (by simp;try omega)<|.nil) rfl ?_;refine .sub [(1,.int .i64 k),(5,.own 15)] [(15,.row 1 230 (bE o) (aO o))] (dn rfl) ⟨⟨_,rfl,.of_eq (dW hcopy)⟩,trivial⟩ rfl rfl ?_;refine .uB (ι:={zs:List Nat//zs.length=q+a.length+1/\cW zs/\val zs=2^r*val o}) (fun zs=>[(5,.own 15)]) (fun zs=>[(15,.row 1 230 (bE zs.1) (aO _))]) ?_ ?_
 ·refine .al (.mv rfl<|.ar rfl rfl hri<|.ao rfl<|.nil) rfl ?_;by_cases hr0:r=0
  ·subst hr0;refine .al (.mv rfl<|.cm rfl rfl (GR (by omega))<|.nil) rfl ?_;exact .cF rfl (.skip fun _ _ hs=>hs.to ⟨o,hln,hlo,by simp⟩ (dn rfl) (jt rfl) rfl rfl)
  refine .al (.mv rfl<|.cm rfl rfl (Gw (by omega))<|.nil) rfl ?_;refine .cT rfl ?_;refine .al (.ao rfl<|.nil) rfl ?_;refine .al (.mv rfl<|.ar rfl rfl hqi<|.ao rfl<|.nil) rfl ?_;refine .block (.loop (ι:={p:List Nat×Nat×Nat//p.1.length=q+a.length+1/\cW p.1/\p.2.1<2^r/\p.2.2<=q+a.length+1/\(∀j,p.2.2<=j->p.1.getD j 0=o.getD j 0)/\val (p.1.take p.2.2)+4294967296^p.2.2*p.2.1=2^r*val (o.take p.2.2)})
   (fun p=>[(5,.own 15),(6,.int .i64 r),(7,.int .u32 p.1.2.1),(8,.int .i64 p.1.2.2)]) (fun p=>[(15,.row 1 230 (bE p.1.1) (aO _))]) (fun p=>q+a.length+1-p.1.2.2)
   ⟨(o,0,q),hln,hlo,Nat.two_pow_pos r,by simp only;omega,fun _ _=>rfl,by simp[hstart]⟩ (dn rfl) (jt rfl) rfl rfl ?_)
  rintro⟨⟨zs,c,i⟩,hzl,hzs,hc,hi,hsame,hv⟩;simp only at hzl hzs hc hi hsame hv;show Ok PP _ [(5,.own 15),(6,.int .i64 r),(7,.int .u32 c),(8,.int .i64 i)] [(15,.row 1 230 (bE zs) (aO _))] _ _;have hl2:(bE zs).length=(q+a.length+1)*1:=by rw[bB,hzl];omega
  refine .sq ?_;by_cases hlt:i<q+a.length+1
  ·refine .al (.mv rfl<|.mv rfl<|.HC (n:=q+a.length+1) (m':=1) rfl rfl au hl2 rfl rfl<|.cm rfl rfl (zQ (by omega))<|.nil) rfl ?_;refine .cT rfl (.skip (Ok.on (.sq (.block ?_))));have hzi:zs[i]?=some (o.getD i 0):=by rw[←hsame i (Nat.le_refl _)];simp[show i<zs.length by omega]
   have hdl:=bP hlo i;have hst:=dF o i;generalize o.getD i 0=d at hzi hdl hst;obtain⟨h1,h2,h3⟩:=Bb (r:=r) (by omega) hdl hc;refine .de cn (.mv rfl<|.mv rfl<|.mv rfl<|.mv rfl<|.qH (n:=q+a.length+1) (m':=1) rfl rfl rfl av hl2 rfl rfl (by omega) (by omega)<|.zp rfl rfl aP (d:=.int .u32 d) (by rw[Int.toNat_natCast,Nat.mul_one];exact bj hzi)<|.mv rfl<|
    .ar rfl rfl (pQ (n:=32) (d:=r) (by omega) (by omega))<|.sh rfl rfl (sJ (n:=d) (k:=32-r) (by omega))<|.mv rfl<|.mv rfl<|.qH (n:=q+a.length+1) (m':=1) rfl rfl rfl av hl2 rfl rfl (by omega) (by omega)<|.zp rfl rfl aP (d:=.int .u32 d) (by rw[Int.toNat_natCast,Nat.mul_one];exact bj hzi)<|
    .mv rfl<|.sh rfl rfl (At (n:=d) (k:=r) (by omega))<|.mv rfl<|.ar rfl rfl (r:=((c+(d%2^(32-r))*2^r:Nat):Int)) (by rw[EA (by omega)];exact Fa hc h1)<|.ao rfl<|.qH (n:=q+a.length+1) (m':=1) rfl rfl rfl av hl2 rfl rfl (by omega) (by omega)<|
    .AU rfl rfl rfl aP rfl rfl (by rw[hl2];omega)<|.nil) rfl (by kernel_rfl) fun _ _ hs=>?_
   refine Ok.on ?_ _ _ hs;refine .region (.mv rfl<|.ar rfl rfl (fA (by omega))<|.ao rfl<|.nil) rfl fun _ _ hs=>?_;refine hs.round (m:=q+a.length+1-i) ⟨(zs.set i (c+(d%2^(32-r))*2^r),d/2^(32-r),i+1),by simpa using hzl,i7 hzs h1 i,h2,hlt,?_,?_⟩ (by simp only;omega) (dn rfl) ⟨⟨_,rfl,.of_eq (dW (eS ..))⟩,trivial⟩ rfl rfl
   ·intro j hj;simp only at hj|-;rw[←hsame j (by omega)];simp[List.getElem?_set_ne (show i≠j by omega)]
   ·simp only;rw[fu (by omega),hst,Nat.pow_succ];exact Cq hv h3
  ·have:i=q+a.length+1:=by omega
   subst this;refine .al (.mv rfl<|.mv rfl<|.HC (n:=q+a.length+1) (m':=1) rfl rfl au hl2 rfl rfl<|.cm rfl rfl (yS (by omega))<|.nil) rfl ?_;refine .cF rfl (.exit fun _ _ hs=>?_);rw[List.take_of_length_le (by omega),List.take_of_length_le (by omega)]at hv;exact hs.to ⟨zs,hzl,hzs,Ez (by omega) hsmall hv⟩ (dn rfl) (jt rfl) rfl rfl
 ·rintro⟨zs,hzl,hzs,hv⟩;show Ok PP _ [(5,.own 15)] [(15,.row 1 230 (bE zs) (aO _))] _ _;refine .tD (n:=q+a.length+1) (m':=1) 5 rfl rfl (by simp[bB,hzl]) rfl rfl ?_;refine .sub [(5,dz zs)] [] ⟨⟨_,rfl,.of_eq (nF hzl.symm rfl)⟩,trivial⟩ trivial rfl rfl ?_;refine .al (.mv rfl<|.call (m_ _ hzs (by omega)) ⟨rfl,trivial⟩<|.ao rfl<|.nil) rfl ?_;exact .qR rfl (.tmp rfl) (.of_eq (by rw[hv])) rfl
end Go.Am
namespace Go.Am
def i9(t:Nat):List Nat->Nat->Nat->List Nat->List Nat
 |[],c,b,u::us=>(u+(8589934592-c%4294967296-b))%4294967296::us
 |y::v,c,b,u::us=>(u+(8589934592-(c+t*y)%4294967296-b))%4294967296::i9 t v ((c+t*y)/4294967296) (if u<(c+t*y)%4294967296+b then 1 else 0) us
 |_,_,_,[]=>[]
def iD(t:Nat):List Nat->Nat->Nat->List Nat->Nat
 |[],c,b,u::_=>if u<c%4294967296+b then 1 else 0
 |y::v,c,b,u::us=>iD t v ((c+t*y)/4294967296) (if u<(c+t*y)%4294967296+b then 1 else 0) us
 |_,_,_,[]=>0
def j_:List Nat->Nat->List Nat->List Nat
 |[],c,u::us=>(u+c)%4294967296::us
 |y::v,c,u::us=>(u+y+c)%4294967296::j_ v ((u+y+c)/4294967296) us
 |_,_,[]=>[]
theorem qK(t:Nat):∀(v:List Nat) (c b:Nat) (us:List Nat),(i9 t v c b us).length=us.length
 |[],_,_,[]=>rfl
 |[],_,_,_::_=>rfl
 |_::_,_,_,[]=>rfl
 |_::v,_,_,_::us=>by simp[i9,qK t v]
theorem po(t:Nat):∀{v:List Nat} {c b:Nat} {us:List Nat},cW us->cW (i9 t v c b us)
 |[],_,_,[],h=>h
 |[],_,_,u::us,h=>fun d hd=>by
  rcases List.mem_cons.1 hd with rfl|hd
  ·exact Nat.mod_lt _ (by omega)
  ·exact h d (by simp[hd])
 |_::_,_,_,[],h=>h
 |_::v,_,_,u::us,h=>fun d hd=>by
  rcases List.mem_cons.1 hd with rfl|hd
  ·exact Nat.mod_lt _ (by omega)
  ·exact po t (v:=v) (fun x hx=>h x (by simp[hx])) d hd
theorem yA(t:Nat):∀(v:List Nat) (c b:Nat) (us:List Nat),iD t v c b us<=1
 |[],_,_,[]=>by simp[iD]
 |[],_,_,_::_=>by simp only[iD];split<;>omega
 |_::_,_,_,[]=>by simp[iD]
 |_::v,_,_,_::us=>yA t v _ _ us
theorem vq(t:Nat)(ht:t<4294967296):∀(v:List Nat) (c b:Nat) (us:List Nat),cW v->cW us->c<4294967296->b<=1->v.length<us.length->
  val ((i9 t v c b us).take (v.length+1))+(t*val v+c+b)=val (us.take (v.length+1))+4294967296^(v.length+1)*iD t v c b us
 |[],c,b,u::us,_,hu,hc,hb,_=>by
  have h1:=hu u (by simp);simp only[i9,iD,List.length_nil,Nat.zero_add,List.take_succ_cons,List.take_zero,val,Nat.mul_zero,Nat.add_zero,Nat.pow_one];rw[Nat.mod_eq_of_lt hc]
  split<;>omega
 |y::v,c,b,u::us,hv,hu,hc,hb,hl=>by
  have h1:=hu u (by simp);have h2:=hv y (by simp);have hty:t*y<=4294967295*4294967295:=Nat.mul_le_mul (by omega) (by omega);have hc':(c+t*y)/4294967296<4294967296:=by omega
  have hb':(if u<(c+t*y)%4294967296+b then 1 else 0)<=1:=by split<;>omega
  have ih:=vq t ht v ((c+t*y)/4294967296) (if u<(c+t*y)%4294967296+b then 1 else 0) us (fun x hx=>hv x (by simp[hx])) (fun x hx=>hu x (by simp[hx])) hc' hb' (by simpa using hl);simp only[i9,iD,List.length_cons,List.take_succ_cons,val];generalize iD t v _ _ us=B at*;generalize val ((i9 t v _ _ us).take (v.length+1))=X at*;generalize val (us.take (v.length+1))=U at*;have hp:(4294967296:Nat)^(v.length+1+1)*B=4294967296*(4294967296^(v.length+1)*B):=by rw[Nat.pow_succ (n:=4294967296) (m:=v.length+1),Nat.mul_comm (4294967296^(v.length+1)),Nat.mul_assoc]
  rw[hp];generalize (4294967296:Nat)^(v.length+1)*B=Z at*;have htv:t*(y+4294967296*val v)=t*y+4294967296*(t*val v):=by rw[Nat.mul_add,Nat.mul_left_comm]
  rw[htv];generalize t*val v=W at*;generalize t*y=S at*
  split at ih<;>omega
theorem qT:∀(v:List Nat) (c:Nat) (us:List Nat),(j_ v c us).length=us.length
 |[],_,[]=>rfl
 |[],_,_::_=>rfl
 |_::_,_,[]=>rfl
 |_::v,_,_::us=>by simp[j_,qT v]
theorem pb:∀{v:List Nat} {c:Nat} {us:List Nat},cW us->cW (j_ v c us)
 |[],_,[],h=>h
 |[],_,u::us,h=>fun d hd=>by
  rcases List.mem_cons.1 hd with rfl|hd
  ·exact Nat.mod_lt _ (by omega)
  ·exact h d (by simp[hd])
 |_::_,_,[],h=>h
 |_::v,_,u::us,h=>fun d hd=>by
  rcases List.mem_cons.1 hd with rfl|hd
  ·exact Nat.mod_lt _ (by omega)
  ·exact pb (v:=v) (fun x hx=>h x (by simp[hx])) d hd
theorem vm:∀(v:List Nat) (c:Nat) (us:List Nat),cW v->cW us->c<=1->v.length<us.length->
  ∃k,k<=1/\val ((j_ v c us).take (v.length+1))+4294967296^(v.length+1)*k=val (us.take (v.length+1))+val v+c
 |[],c,u::us,_,hu,hc,_=>by
  have h1:=hu u (by simp);refine⟨(u+c)/4294967296,by omega,?_⟩;simp only[j_,List.length_nil,Nat.zero_add,List.take_succ_cons,List.take_zero,val,Nat.mul_zero,Nat.add_zero,Nat.pow_one];omega
 |y::v,c,u::us,hv,hu,hc,hl=>by
  have h1:=hu u (by simp);have h2:=hv y (by simp);obtain⟨k,hk,ih⟩:=vm v ((u+y+c)/4294967296) us (fun x hx=>hv x (by simp[hx])) (fun x hx=>hu x (by simp[hx])) (by omega) (by simpa using hl);refine⟨k,hk,?_⟩;simp only[j_,List.length_cons,List.take_succ_cons,val];have hp:(4294967296:Nat)^(v.length+1+1)*k=4294967296*(4294967296^(v.length+1)*k):=by rw[Nat.pow_succ (n:=4294967296) (m:=v.length+1),Nat.mul_comm (4294967296^(v.length+1)),Nat.mul_assoc]
  rw[hp];generalize (4294967296:Nat)^(v.length+1)*k=Z at*;generalize val ((j_ v _ us).take (v.length+1))=X at*;generalize val (us.take (v.length+1))=U at*;omega
theorem oX(t:Nat):∀(v:List Nat) (c b:Nat) (us:List Nat),(i9 t v c b us).drop (v.length+1)=us.drop (v.length+1)
 |[],_,_,[]=>rfl
 |[],_,_,_::_=>rfl
 |_::_,_,_,[]=>rfl
 |_::v,_,_,_::us=>by simpa [i9]using oX t v _ _ us
theorem tF:∀(v:List Nat) (c:Nat) (us:List Nat),(j_ v c us).drop (v.length+1)=us.drop (v.length+1)
 |[],_,[]=>rfl
 |[],_,_::_=>rfl
 |_::_,_,[]=>rfl
 |_::v,_,_::us=>by simpa [j_]using tF v _ us
end Go.Am
namespace Go.Am
open Go.RowKit
theorem sy{p:List Nat}{u d:Nat}{q:List Nat}{i:Nat}(h:p.length=i):(p++u::q).set i d=p++d::q:=by
 subst h;simp
theorem zW{p:List Nat}{u:Nat}{q:List Nat}{i:Nat}(h:p.length=i):(p++u::q)[i]?=some u:=by
 subst h;simp
def taken(us v:List Nat)(t at':Nat):List Nat:=us.take at'++i9 t v 0 0 (us.drop at')
def given(us v:List Nat)(at':Nat):List Nat:=us.take at'++j_ v 0 (us.drop at')
theorem GQ(us v:List Nat)(t at':Nat)(hus:cW us)(hv:cW v)(ht:t<4294967296)(hl:at'+v.length<us.length)(hmax:us.length<=2199023255552):
  CK PP 227 [dz v,.int .u64 t,.int .i64 at'] 1 230 (bE us) (.bool (iD t v 0 0 (us.drop at') !=0)) (bE (taken us v t at')):=by
 refine .of (hl:=aO us) (hl':=aO _) Go.Proofs.Tryz.func227 rfl (by kernel_rfl) rfl rfl rfl (fun A w0 b F hF=>?_);refine .al (.ao rfl<|.nil) rfl ?_;refine .al (.ao rfl<|.ao rfl<|.nil) rfl (.sq ?_);refine .al (.mv rfl<|.ln rfl au<|.mv rfl<|.nil) rfl ?_;refine .block (.loop (ι:={p:List Nat×Nat×Nat×Nat//p.1.length=at'+p.2.2.2/\p.2.2.2<=v.length/\p.2.1<4294967296/\p.2.2.1<=1/\taken us v t at'=p.1++i9 t (v.drop p.2.2.2) p.2.1 p.2.2.1 (us.drop (at'+p.2.2.2))/\
   iD t v 0 0 (us.drop at')=iD t (v.drop p.2.2.2) p.2.1 p.2.2.1 (us.drop (at'+p.2.2.2))})
  (fun p=>[(0,wR 0 b),(1,dz v),(2,.int .u64 t),(3,.int .i64 at'),(9,.int .u64 p.1.2.1),(10,.int .u32 p.1.2.2.1),(13,dz v),(14,.int .i64 v.length),(15,.int .i64 p.1.2.2.2)])
  (fun p=>[(0,.row 1 230 (bE (p.1.1++us.drop (at'+p.1.2.2.2))) (aO _))]) (fun p=>v.length-p.1.2.2.2)
  ⟨(us.take at',0,0,0),by simp;omega,Nat.zero_le _,by simp,by simp,rfl,rfl⟩ (dn rfl) ⟨⟨_,rfl,.of_eq (dW (by simp))⟩,trivial⟩ rfl rfl ?_)
 rintro⟨⟨ps,c,bo,i⟩,hpl,hi,hc,hbo,htk,htb⟩;simp only at hpl hi hc hbo htk htb;show Ok PP _ [(0,wR 0 b),(1,dz v),(2,.int .u64 t),(3,.int .i64 at'),(9,.int .u64 c),(10,.int .u32 bo),(13,dz v),(14,.int .i64 v.length),(15,.int .i64 i)] [(0,.row 1 230 (bE (ps++us.drop (at'+i))) (aO _))] _ _;have hdu:us.drop (at'+i)=us.getD (at'+i) 0::us.drop (at'+i+1):=by
  rw[List.drop_eq_getElem_cons (show at'+i<us.length by omega)];simp[show at'+i<us.length by omega]
 have hul:=bP hus (at'+i);generalize us.getD (at'+i) 0=u at hdu hul;refine .sub [(0,wR 0 b),(1,dz v),(2,.int .u64 t),(3,.int .i64 at'),(9,.int .u64 c),(10,.int .u32 bo),(13,dz v),(14,.int .i64 v.length),(15,.int .i64 i)] [(0,.row 1 230 (bE (ps++u::us.drop (at'+i+1))) (aO _))] (dn rfl) ⟨⟨_,rfl,.of_eq (dW (by rw[hdu]))⟩,trivial⟩ rfl rfl ?_;rw[hdu]at htk htb;have hrl:(bE (ps++u::us.drop (at'+i+1))).length=us.length*1:=by
  rw[bB,List.length_append,List.length_cons,List.length_drop,hpl];omega
 have hgu:(bE (ps++u::us.drop (at'+i+1)))[((at'+i:Nat):Int).toNat*1]?=some (.int .u32 u):=by
  rw[Int.toNat_natCast,Nat.mul_one];exact bj (zW hpl)
 by_cases hlt:i<v.length
 ·refine .al (.cm rfl rfl (zQ (by omega))<|.nil) rfl (.sq ?_);refine .cT rfl (.skip (Ok.on (.sq (.block ?_))));have hvi:v[i]?=some (v.getD i 0):=by simp[hlt]
  have hyl:=bP hv i;have hdv:v.drop i=v.getD i 0::v.drop (i+1):=by
   rw[List.drop_eq_getElem_cons hlt];simp[hlt]
  generalize v.getD i 0=y at hvi hyl hdv;rw[hdv]at htk htb;simp only[i9,iD]at htk htb;have hty:t*y<=4294967295*4294967295:=Nat.mul_le_mul (by omega) (by omega);have hs:c+t*y<18446744073709551616:=by omega
  have hm:(c+t*y)%4294967296<4294967296:=Nat.mod_lt _ (by omega);refine .al (.mv rfl<|.pV rfl rfl av (by omega) (by omega) (bj hvi)<|.iJ rfl aP<|.ao rfl<|.ao rfl<|.nil) rfl ?_;refine .al (.mv rfl<|.mv rfl<|.mv rfl<|.cv rfl bk (bJ (by omega))<|.ar rfl rfl (sO (by omega))<|.ar rfl rfl (sk hs)<|.ao rfl<|.nil) rfl ?_;refine .al (.Gt rfl mR<|.mv rfl<|.mv rfl<|.ar rfl rfl (dJ (by omega))<|.Gt rfl mR<|.mv rfl<|.mv rfl<|.ar rfl rfl (dJ (by omega))<|.qH (n:=us.length) (m':=1) rfl rfl rfl av hrl rfl rfl (by omega) (by omega)<|.zp rfl rfl aP hgu<|
   .mv rfl<|.cv rfl eB (jz _)<|.mv rfl<|.call (wE u ((c+t*y)%4294967296) bo hul hm hbo) ⟨rfl,rfl,rfl,trivial⟩<|.mv rfl<|.ext rfl rfl<|.ext rfl rfl<|.qH (n:=us.length) (m':=1) rfl rfl rfl av hrl rfl rfl (by omega) (by omega)<|
   .AU rfl rfl rfl aP rfl rfl (by rw[hrl];omega)<|.ao rfl<|.nil) rfl ?_
  refine .region (.mv rfl<|.sh rfl rfl (xn (by decide))<|.ao rfl<|.nil) rfl fun _ _ hs=>?_;refine Ok.on ?_ _ _ hs;refine .region (.ar rfl rfl (fA (by omega))<|.mv rfl<|.nil) rfl fun _ _ hs=>?_;refine hs.round (m:=v.length-i) ⟨(ps++[(u+(8589934592-(c+t*y)%4294967296-bo))%4294967296],(c+t*y)/4294967296,if u<(c+t*y)%4294967296+bo then 1 else 0,i+1),by simp[hpl];omega,hlt,by simp only;omega,by simp only;split<;>omega,?_,?_⟩ (by simp only;omega)
   (dn rfl) ⟨⟨_,rfl,.of_eq (dW (by rw[eS,sy hpl];simp only[List.append_assoc,List.singleton_append,Nat.add_assoc]))⟩,trivial⟩ rfl rfl
  ·simp only;rw[htk,List.append_assoc,List.singleton_append,Nat.add_assoc]
  ·simp only;rw[htb,Nat.add_assoc]
 ·have:i=v.length:=by omega
  subst this;refine .al (.cm rfl rfl (yS (by omega))<|.nil) rfl (.sq ?_);refine .cF rfl (.exit (Ok.on ?_));rw[List.drop_length]at htk htb;simp only[i9,iD]at htk htb;have hm:c%4294967296=c:=Nat.mod_eq_of_lt hc;rw[hm]at htk htb;refine .al (.Gt rfl mR<|.mv rfl<|.mv rfl<|.ln rfl au<|.ar rfl rfl (dJ (by omega))<|.Gt rfl mR<|.mv rfl<|.mv rfl<|.ln rfl au<|.ar rfl rfl (dJ (by omega))<|.qH (n:=us.length) (m':=1) rfl rfl rfl av hrl rfl rfl (by omega) (by omega)<|.zp rfl rfl aP hgu<|
   .mv rfl<|.cv rfl eB (fT hc)<|.mv rfl<|.call (wE u c bo hul hc hbo) ⟨rfl,rfl,rfl,trivial⟩<|.mv rfl<|.ext rfl rfl<|.ext rfl rfl<|.qH (n:=us.length) (m':=1) rfl rfl rfl av hrl rfl rfl (by omega) (by omega)<|
   .AU rfl rfl rfl aP rfl rfl (by rw[hrl];omega)<|.ao rfl<|.nil) rfl ?_
  refine .al (.mv rfl<|.cm rfl rfl (b:=iD t v 0 0 (us.drop at') !=0) (by rw[htb];split<;>rfl)<|.ao rfl<|.nil) rfl ?_;refine .sub [(0,wR 0 b),(8,.bool (iD t v 0 0 (us.drop at') !=0))] [(0,.row 1 230 (bE (taken us v t at')) (aO _))] (dn rfl) ⟨⟨_,rfl,.of_eq (dW (by rw[eS,sy hpl,htk]))⟩,trivial⟩ rfl rfl ?_;exact .HH (t:=0) (r:=0) hF (fun _ _ h=>h) rfl (.tmp rfl) (.refl _) rfl rfl rfl
theorem Sat.HN{P:Program}{c:Ctx}{T:List (Nat×D)}{H:List (Nat×Hp)}{fn:Func}{t r m:Nat}{e:TypeId}{l:List D}{hl:bD l=[]}{b:Value}{a:Act}{w:World}(hL:∀k,c.L k->b≠.slice none 0 0/\k=j3 b)(hx:fn.results=#[])
  (ht:aM T t=some (wR r b))(hh:af H r=some (.row m e l hl))(hs:Sat c (aM T) (af H) a w):bodyPost P fn (Gz c .any m e l hl b) .normal a w:=by
 obtain⟨ε,φ,hs⟩:=hs;obtain⟨hrow,hS⟩:=xA hL ht hh hs;refine⟨hs.df,.tuple #[],?_,.tuple #[],φ r,rfl,trivial,(Hp.row m e l hl).mono hrow (fun r h=>by cases h) (fun k hk _=>⟨hS k hk,rfl⟩) (fun _ _=>rfl),hs.pP⟩;rw[fp,hx];simp
theorem Gf(us v:List Nat)(at':Nat)(hus:cW us)(hv:cW v)(hl:at'+v.length<us.length)(hmax:us.length<=2199023255552):
  CK PP 228 [dz v,.int .i64 at'] 1 230 (bE us) .any (bE (given us v at')):=by
 refine .of (hl:=aO us) (hl':=aO _) Go.Proofs.Tryz.func228 rfl (by kernel_rfl) rfl rfl rfl (fun A w0 b F hF=>?_);refine .al (.ao rfl<|.nil) rfl (.sq ?_);refine .al (.mv rfl<|.ln rfl au<|.mv rfl<|.nil) rfl ?_;refine .block (.loop (ι:={p:List Nat×Nat×Nat//p.1.length=at'+p.2.2/\p.2.2<=v.length/\p.2.1<=1/\given us v at'=p.1++j_ (v.drop p.2.2) p.2.1 (us.drop (at'+p.2.2))})
  (fun p=>[(0,wR 0 b),(1,dz v),(2,.int .i64 at'),(6,.int .u32 p.1.2.1),(9,dz v),(10,.int .i64 v.length),(11,.int .i64 p.1.2.2)])
  (fun p=>[(0,.row 1 230 (bE (p.1.1++us.drop (at'+p.1.2.2))) (aO _))]) (fun p=>v.length-p.1.2.2)
  ⟨(us.take at',0,0),by simp;omega,Nat.zero_le _,by simp,rfl⟩ (dn rfl) ⟨⟨_,rfl,.of_eq (dW (by simp))⟩,trivial⟩ rfl rfl ?_)
 rintro⟨⟨ps,c,i⟩,hpl,hi,hc,htk⟩;simp only at hpl hi hc htk;show Ok PP _ [(0,wR 0 b),(1,dz v),(2,.int .i64 at'),(6,.int .u32 c),(9,dz v),(10,.int .i64 v.length),(11,.int .i64 i)] [(0,.row 1 230 (bE (ps++us.drop (at'+i))) (aO _))] _ _;have hdu:us.drop (at'+i)=us.getD (at'+i) 0::us.drop (at'+i+1):=by
  rw[List.drop_eq_getElem_cons (show at'+i<us.length by omega)];simp[show at'+i<us.length by omega]
 have hul:=bP hus (at'+i);generalize us.getD (at'+i) 0=u at hdu hul;refine .sub [(0,wR 0 b),(1,dz v),(2,.int .i64 at'),(6,.int .u32 c),(9,dz v),(10,.int .i64 v.length),(11,.int .i64 i)] [(0,.row 1 230 (bE (ps++u::us.drop (at'+i+1))) (aO _))] (dn rfl) ⟨⟨_,rfl,.of_eq (dW (by rw[hdu]))⟩,trivial⟩ rfl rfl ?_;rw[hdu]at htk;have hrl:(bE (ps++u::us.drop (at'+i+1))).length=us.length*1:=by
  rw[bB,List.length_append,List.length_cons,List.length_drop,hpl];omega
 have hgu:(bE (ps++u::us.drop (at'+i+1)))[((at'+i:Nat):Int).toNat*1]?=some (.int .u32 u):=by
  rw[Int.toNat_natCast,Nat.mul_one];exact bj (zW hpl)
 by_cases hlt:i<v.length
 ·refine .al (.cm rfl rfl (zQ (by omega))<|.nil) rfl (.sq ?_);refine .cT rfl (.skip (Ok.on (.sq (.block ?_))));have hvi:v[i]?=some (v.getD i 0):=by simp[hlt]
  have hyl:=bP hv i;have hdv:v.drop i=v.getD i 0::v.drop (i+1):=by
   rw[List.drop_eq_getElem_cons hlt];simp[hlt]
  generalize v.getD i 0=y at hvi hyl hdv;rw[hdv]at htk;simp only[j_]at htk;refine .al (.mv rfl<|.pV rfl rfl av (by omega) (by omega) (bj hvi)<|.iJ rfl aP<|.ao rfl<|.ao rfl<|.nil) rfl ?_;refine .region (.Gt rfl mR<|.mv rfl<|.mv rfl<|.ar rfl rfl (dJ (by omega))<|.Gt rfl mR<|.mv rfl<|.mv rfl<|.ar rfl rfl (dJ (by omega))<|.qH (n:=us.length) (m':=1) rfl rfl rfl av hrl rfl rfl (by omega) (by omega)<|.zp rfl rfl aP hgu<|
   .mv rfl<|.mv rfl<|.call (Fg u y c hul hyl hc) ⟨rfl,rfl,rfl,trivial⟩<|.mv rfl<|.ext rfl rfl<|.ext rfl rfl<|.qH (n:=us.length) (m':=1) rfl rfl rfl av hrl rfl rfl (by omega) (by omega)<|
   .AU rfl rfl rfl aP rfl rfl (by rw[hrl];omega)<|.ao rfl<|.nil) rfl fun _ _ hs=>?_
  refine Ok.on ?_ _ _ hs;refine .region (.ar rfl rfl (fA (by omega))<|.mv rfl<|.nil) rfl fun _ _ hs=>?_;refine hs.round (m:=v.length-i) ⟨(ps++[(u+y+c)%4294967296],(u+y+c)/4294967296,i+1),by simp[hpl];omega,hlt,by simp only;omega,?_⟩ (by simp only;omega)
   (dn rfl) ⟨⟨_,rfl,.of_eq (dW (by rw[eS,sy hpl];simp only[List.append_assoc,List.singleton_append,Nat.add_assoc]))⟩,trivial⟩ rfl rfl
  simp only;rw[htk,List.append_assoc,List.singleton_append,Nat.add_assoc at']
 ·have:i=v.length:=by omega
  subst this;refine .al (.cm rfl rfl (yS (by omega))<|.nil) rfl (.sq ?_);refine .cF rfl (.exit (Ok.on ?_));rw[List.drop_length]at htk;simp only[j_]at htk;have hw:IntKind.u32.wrap ((u:Int)+(c:Int))=(((u+c)%4294967296:Nat):Int):=wrap_u32 (by omega);refine .region (.Gt rfl mR<|.mv rfl<|.mv rfl<|.ln rfl au<|.ar rfl rfl (dJ (by omega))<|.qH (n:=us.length) (m':=1) rfl rfl rfl av hrl rfl rfl (by omega) (by omega)<|.zp rfl rfl aP hgu<|
   .mv rfl<|.ar rfl rfl (congrArg some hw)<|.qH (n:=us.length) (m':=1) rfl rfl rfl av hrl rfl rfl (by omega) (by omega)<|
   .AU rfl rfl rfl aP rfl rfl (by rw[hrl];omega)<|.nil) rfl fun _ _ hs=>?_
  refine(hs.sub (T':=[(0,wR 0 b)]) (H':=[(0,.row 1 230 (bE (given us v at')) (aO _))]) (dn rfl) ⟨⟨_,rfl,.of_eq (dW (by rw[eS,sy hpl,htk]))⟩,trivial⟩ rfl rfl).HN (t:=0) (r:=0) hF rfl rfl rfl
end Go.Am
namespace Go.Am
theorem DM{U V v1 R two q:Nat}(hV:v1*R<=V)(hU:U<(two+1)*R)(hq:q*V<=U):q*v1<=two:=by
 have h1:q*(v1*R)<=q*V:=Nat.mul_le_mul_left _ hV;rw[←Nat.mul_assoc]at h1;have h2:q*v1*R<(two+1)*R:=by omega
 have:=Nat.lt_of_mul_lt_mul_right h2;omega
theorem D1{U V B v1 v2 u2 P two g rest q:Nat}(hV:(v1*B+v2)*P<=V)(hU:U<(two*B+u2+1)*P)(hg:g*v1+rest=two)(ht:rest*B+u2<g*v2)(hq:q*V<=U):q<g:=by
 apply Nat.lt_of_not_le;intro hle;have h1:g*((v1*B+v2)*P)<=q*V:=Nat.mul_le_mul hle hV;have h2:g*(v1*B+v2)*P<(two*B+u2+1)*P:=by rw[Nat.mul_assoc];omega
 have h3:=Nat.lt_of_mul_lt_mul_right h2;have h4:g*(v1*B+v2)=g*v1*B+g*v2:=by rw[Nat.mul_add,Nat.mul_assoc]
 have h5:two*B=g*v1*B+rest*B:=by rw[←hg,Nat.add_mul]
 omega
theorem CE{U V B v1 v2 u2 P two g rest:Nat}(hV1:B*P<=V)(hV:V<(v1*B+v2+1)*P)(hU:(two*B+u2)*P<=U)(hg:g*v1+rest=two)(ht:g*v2<=rest*B+u2)(hgB:g<=B):g*V<=U+V:=by
 have h4:g*(v1*B+v2)=g*v1*B+g*v2:=by rw[Nat.mul_add,Nat.mul_assoc]
 have h5:two*B=g*v1*B+rest*B:=by rw[←hg,Nat.add_mul]
 have h6:g*(v1*B+v2)<=two*B+u2:=by omega
 have h7:g*(v1*B+v2)*P<=(two*B+u2)*P:=Nat.mul_le_mul_right _ h6;have h8:g*V<=g*((v1*B+v2+1)*P):=Nat.mul_le_mul_left _ (Nat.le_of_lt hV);have h9:g*((v1*B+v2+1)*P)=g*(v1*B+v2)*P+g*P:=by rw[←Nat.mul_assoc,Nat.mul_add g,Nat.mul_one,Nat.add_mul]
 have h10:g*P<=B*P:=Nat.mul_le_mul_right _ hgB;omega
theorem Ge{U V g q X Y M bo k:Nat}(hq:q=U/V)(hV:0<V)(h1:q<=g)(h2:g*V<=U+V)(_hUM:U<M)(hbo:bo<=1)(hX:X<M)(hT:X+g*V=U+M*bo)(hk:k<=1)(hY:Y<M)(_hVM:V<M)(hG:Y+M*k=X+V):
  (bo=0/\g=q/\X=U%V)\/(bo=1/\g=q+1/\Y=U%V):=by
 have hdm:=Nat.div_add_mod U V;have hm:=Nat.mod_lt U hV;rw[←hq]at hdm;have hc:V*q=q*V:=Nat.mul_comm _ _;have hg:g=q\/g=q+1:=by
  rcases Nat.lt_or_ge (q+1) g with h|h
  ·exfalso
   have h3:(q+2)*V<=g*V:=Nat.mul_le_mul_right _ h;rw[Nat.add_mul]at h3;omega
  ·omega
 have hb:bo=0\/bo=1:=by omega
 have hkk:k=0\/k=1:=by omega
 rcases hg with rfl|rfl
 ·left
  rcases hb with rfl|rfl
  ·refine⟨rfl,rfl,?_⟩;omega
  ·exfalso;omega
 ·right
  rw[Nat.add_mul,Nat.one_mul]at hT;rcases hb with rfl|rfl
  ·exfalso;omega
  ·refine⟨rfl,rfl,?_⟩;rcases hkk with rfl|rfl<;>omega
end Go.Am
namespace Go.Am
open Go.RowKit
theorem F3(x y:Nat)(hx:(aA x).length<=1099511627776)(hy:(aA y).length<=1099511627776):lO PP 212 [aj x,aj y] (aj (x+y)):=
 GW (aA x) (aA y) (cL x) (cL y) hx hy (by rw[dL,dL])
def ke(l:List UInt8):Nat:=l.foldl (fun a b=>a*10+(b.toNat-48)) 0
theorem ov(l:List UInt8)(b:UInt8):ke (l++[b])=ke l*10+(b.toNat-48):=by simp[ke]
def uJ(l:List UInt8):Prop:=∀b∈l,48<=b.toNat/\b.toNat<=57
theorem Af{l:List UInt8}(h:uJ l):ke l<4294967296^l.length:=by
 have key:∀(n:Nat) (l:List UInt8),l.length=n->uJ l->ke l<4294967296^n:=by
  intro n
  induction n with
  |zero=>intro l hl _;rw[List.length_eq_zero_iff.1 hl];simp[ke]
  |succ n ih=>
   intro l hl hd;have hne:l≠[]:=by intro e;subst e;simp at hl
   rw[←List.dropLast_concat_getLast hne,ov];have h1:=ih l.dropLast (by simp[hl]) (fun b hb=>hd b (List.dropLast_subset _ hb));have h2:=hd (l.getLast hne) (List.getLast_mem hne);have hp:(4294967296:Nat)^(n+1)=4294967296^n*4294967296:=Nat.pow_succ ..;rw[hp];generalize (4294967296:Nat)^n=P at*;omega
 exact key _ l rfl h
theorem Br(s:ByteArray)(hs:s.size<=1000000)(hd:uJ s.data.toList):lO PP 148 [.str s] (aj (ke s.data.toList)):=by
 refine .of Go.Proofs.Tryz.func148 rfl (by kernel_rfl) rfl rfl rfl (fun A w0=>?_);have hsl:s.data.toList.length=s.size:=Array.length_toList;refine .al (.ao rfl<|.nil) rfl ?_;refine .al (.ao rfl<|.nil) rfl (.sq ?_);refine .al (.mv rfl<|.Jj rfl c_<|.mv rfl<|.nil) rfl ?_;refine .block (.loop (ι:={i:Nat//i<=s.size}) (fun i=>[(0,.str s),(3,aj (ke (s.data.toList.take i.1))),(6,.int .i64 s.size),(7,.int .i64 i.1)]) (fun _=>[]) (fun i=>s.size-i.1)
  ⟨0,Nat.zero_le _⟩ ⟨⟨_,rfl,.refl _⟩,⟨_,rfl,aV⟩,⟨_,rfl,.refl _⟩,⟨_,rfl,.refl _⟩,trivial⟩ trivial rfl rfl ?_)
 rintro⟨i,hi⟩;show Ok PP _ [(0,.str s),(3,aj (ke (s.data.toList.take i))),(6,.int .i64 s.size),(7,.int .i64 i)] [] _ _;by_cases hlt:i<s.size
 ·refine .al (.cm rfl rfl (zQ (by omega))<|.nil) rfl (.sq ?_);refine .cT rfl (.skip (Ok.on (.sq (.block ?_))));have hb:s[i]?=some s[i]:=getElem?_pos s i hlt;have hbl:s.data.toList[i]?=some s[i]:=by
   rw[Array.getElem?_toList,ByteArray.getElem_eq_getElem_data];exact Array.getElem?_eq_getElem _
  have hdb:=hd s[i] (List.mem_of_getElem? hbl);have htk:s.data.toList.take (i+1)=s.data.toList.take i++[s[i]]:=by
   rw[List.take_add_one,hbl];rfl
  have hlen:(s.data.toList.take i).length=i:=by rw[List.length_take,hsl];omega
  have hdt:uJ (s.data.toList.take i):=fun b hb=>hd b (List.mem_of_mem_take hb);have hvl:=Af hdt;rw[hlen]at hvl;have hl1:=eW hvl;have hvl2:=Af (l:=s.data.toList.take (i+1)) (fun b hb=>hd b (List.mem_of_mem_take hb));have hlen2:(s.data.toList.take (i+1)).length=i+1:=by rw[htk,List.length_append,hlen];rfl
  rw[hlen2,htk,ov]at hvl2;generalize s[i]=b at*;generalize hv0:ke (s.data.toList.take i)=v at*;have hl2:(aA (v*10)).length<=i+1:=eW (Nat.lt_of_le_of_lt (Nat.le_add_right _ _) hvl2);have hl3:(aA (b.toNat-48)).length<=1:=eW (by omega);have hl4:(aA 10).length<=1:=eW (by omega);have hw:IntKind.u8.wrap ((b.toNat:Int)-48)=((b.toNat-48:Nat):Int):=by rw[IntKind.wrap_u8];omega
  refine .al (.mv rfl<|.ao rfl<|.nil) rfl ?_;refine .de cn (.mv rfl<|.call (sP 10 (by omega)) ⟨rfl,trivial⟩<|.call (FP v 10 (by omega) (by omega)) ⟨rfl,rfl,trivial⟩<|.mv rfl<|.mv rfl<|.I4 rfl rfl c_ (by omega) hb<|.ar rfl rfl (congrArg some hw)<|.cv rfl se (bJ (by omega))<|
   .call (sP (b.toNat-48) (by omega)) ⟨rfl,trivial⟩<|.call (F3 (v*10) (b.toNat-48) (by omega) (by omega)) ⟨rfl,rfl,trivial⟩<|.ao rfl<|.nil) rfl (by kernel_rfl) fun _ _ hs=>?_
  refine Ok.on ?_ _ _ hs;refine .region (.ar rfl rfl (fA (by omega))<|.mv rfl<|.nil) rfl fun _ _ hs=>?_;exact hs.round (m:=s.size-i) ⟨i+1,hlt⟩ (by simp only;omega) ⟨⟨_,rfl,.refl _⟩,⟨_,rfl,.of_eq (by rw[htk,ov,hv0])⟩,⟨_,rfl,.refl _⟩,⟨_,rfl,.refl _⟩,trivial⟩ trivial rfl rfl
 ·have:i=s.size:=by omega
  subst this;refine .al (.cm rfl rfl (yS (by omega))<|.nil) rfl (.sq ?_);refine .cF rfl (.exit (Ok.on ?_));refine .al (.mv rfl<|.ao rfl<|.nil) rfl ?_;exact .qR rfl (.tmp rfl) (.of_eq (by rw[List.take_of_length_le (by omega)])) rfl
end Go.Am
namespace Go.Am
open Go.RowKit
end Go.Am
namespace Go.Am
theorem FV(B P a b:Nat):P*a+P*B*b=P*(b*B+a):=by
 rw[Nat.mul_add,Nat.mul_assoc,Nat.mul_comm B b];omega
theorem Ii(B P a b c:Nat):P*a+P*B*b+P*B*B*c=P*((c*B+b)*B+a):=by
 have e:P*B*B*c=P*(c*B*B):=by rw[Nat.mul_assoc,Nat.mul_assoc,Nat.mul_comm B c,Nat.mul_comm B (c*B)]
 rw[e,FV,←Nat.mul_add,Nat.add_mul]
 congr 1;omega
theorem Fp{l:List Nat}{p a b:Nat}(ha:l[p]?=some a)(hb:l[p+1]?=some b):val (l.take (p+2))=val (l.take p)+4294967296^p*(b*4294967296+a):=by
 have h1:=ee hb;have h2:=ee ha;rw[←FV,show p+2=p+1+1 from rfl,h1,h2,Nat.pow_succ,Nat.add_assoc]
theorem B1{l:List Nat}{p a b c:Nat}(ha:l[p]?=some a)(hb:l[p+1]?=some b)(hc:l[p+2]?=some c):val (l.take (p+3))=val (l.take p)+4294967296^p*((c*4294967296+b)*4294967296+a):=by
 have h1:=ee hc;have h2:=ee hb;have h3:=ee ha;rw[←Ii,show p+3=p+2+1 from rfl,h1,show p+2=p+1+1 from rfl,h2,h3,Nat.pow_succ,Nat.pow_succ,Nat.add_assoc,Nat.add_assoc,Nat.add_assoc,Nat.pow_succ]
theorem Ai{X P t U:Nat}(h:U=X+P*t)(hX:X<P):t*P<=U/\U<(t+1)*P:=by
 rw[h,Nat.add_mul,Nat.one_mul,Nat.mul_comm P t];omega
theorem yR{q two v1:Nat}(h:q*v1<=two)(h1:0<v1):q<=two/v1:=(Nat.le_div_iff_mul_le h1).2 h
theorem zj{g v1 rest two:Nat}(h:g*v1+rest=two)(hg:0<g):(g-1)*v1+(rest+v1)=two:=by
 obtain⟨k,rfl⟩:∃k,g=k+1:=⟨g-1,by omega⟩;rw[Nat.add_mul,Nat.one_mul]at h;rw[Nat.add_sub_cancel];omega
theorem yh{g v1 rest B u1 u0:Nat}(h:g*v1+rest=u1*B+u0)(hr:B<=rest)(hu1:u1<=v1)(hu0:u0<B):g<B:=by
 have h1:u1*B<=v1*B:=Nat.mul_le_mul_right _ hu1;have h2:g*v1<B*v1:=by rw[Nat.mul_comm B v1];omega
 exact Nat.lt_of_mul_lt_mul_right h2
end Go.Am
namespace Go.Am
open Go.RowKit
structure pG(us v:List Nat)(i n:Nat):Prop where
 n2:2<=n
 vl:v.length=n
 lv:cW v
 lu:cW us
 fit:i+n<us.length
 JB:4294967296^n<=2*val v
 less:val (us.drop (i+1))<val v
theorem pG.rest{us v:List Nat}{i n:Nat}(h:pG us v i n):val (us.drop i)=val ((us.drop i).take (n+1)):=by
 have h1:=eR (us.drop (i+1)) n (by rw[List.length_drop];have:=h.fit;omega);have h2:=px h.lv;rw[h.vl]at h2;have h3:val ((us.drop (i+1)).drop n)=0:=by
  rcases Nat.eq_zero_or_pos (val ((us.drop (i+1)).drop n))with h|h'
  ·exact h
  ·exfalso
   have:=Nat.mul_le_mul_left (4294967296^n) h';have:=h.less;omega
 have h4:=eR (us.drop i) (n+1) (by rw[List.length_drop];have:=h.fit;omega);rw[List.drop_drop]at h3 h4;rw[show i+(n+1)=i+1+n by omega,h3,Nat.mul_zero,Nat.add_zero]at h4;exact h4
theorem getD_some{l:List Nat}{i:Nat}(h:i<l.length):l[i]?=some (l.getD i 0):=by simp[h]
theorem pG.win{us v:List Nat}{i p:Nat}(h:pG us v i (p+2)):
  ((us.getD (i+p+2) 0*4294967296+us.getD (i+p+1) 0)*4294967296+us.getD (i+p) 0)*4294967296^p<=val (us.drop i)/\
  val (us.drop i)<((us.getD (i+p+2) 0*4294967296+us.getD (i+p+1) 0)*4294967296+us.getD (i+p) 0+1)*4294967296^p:=by
 have hf:=h.fit;have g:∀k,k<p+3->(us.drop i)[k]?=some (us.getD (i+k) 0):=fun k hk=>by
  rw[List.getElem?_drop];exact getD_some (by omega)
 have h3:=B1 (l:=us.drop i) (p:=p) (g p (by omega)) (g (p+1) (by omega)) (g (p+2) (by omega));rw[h.rest];exact Ai h3 (eY (jy h.lu i) p)
theorem pG.div{us v:List Nat}{i p:Nat}(h:pG us v i (p+2)):
  (v.getD (p+1) 0*4294967296+v.getD p 0)*4294967296^p<=val v/\val v<(v.getD (p+1) 0*4294967296+v.getD p 0+1)*4294967296^p:=by
 have hl:=h.vl;have h3:=Fp (l:=v) (p:=p) (getD_some (by omega)) (getD_some (by omega));rw[←hl,List.take_length]at h3;exact Ai h3 (eY h.lv p)
theorem HS(a B P:Nat):a*B*B*P=B*(a*B*P):=by
 rw[Nat.mul_right_comm (a*B) B P,Nat.mul_comm (a*B*P) B]
theorem FH{v1 v2:Nat}(h1:v1<2147483648)(h2:v2<4294967296):v1*4294967296+v2+1<=9223372036854775808:=by omega
theorem pG.size{us v:List Nat}{i p:Nat}(h:pG us v i (p+2)):4294967296*4294967296^p<=val v/\2147483648<=v.getD (p+1) 0:=by
 have hb:=h.JB;have hd:=h.div.2;have hv2:=bP h.lv p;rw[Nat.pow_succ,Nat.pow_succ]at hb;generalize (4294967296:Nat)^p=P at*;generalize v.getD (p+1) 0=v1 at*;generalize v.getD p 0=v2 at*;generalize val v=V at*;refine⟨by omega,?_⟩;apply Nat.le_of_not_lt;intro hlt;have h0:=FH hlt hv2;have h1:=Nat.mul_le_mul_right P h0;omega
theorem pG.top{us v:List Nat}{i p:Nat}(h:pG us v i (p+2)):us.getD (i+p+2) 0<=v.getD (p+1) 0:=by
 have hu:=h.win.1;have hd:=h.div.2;have hr:=fB us i;have hul:=bP h.lu i;have hv2:=bP h.lv p;have hs:=h.less;generalize us.getD (i+p+2) 0=a at*;generalize us.getD (i+p+1) 0=b at*;generalize us.getD (i+p) 0=c at*;generalize us.getD i 0=d at*;generalize val (us.drop i)=U at*;generalize val (us.drop (i+1))=W at*;generalize (4294967296:Nat)^p=P at*;generalize v.getD (p+1) 0=v1 at*;generalize v.getD p 0=v2 at*;generalize val v=V at*;apply Nat.le_of_not_lt;intro hlt;have h1:((v1+1)*4294967296*4294967296)*P<=((a*4294967296+b)*4294967296+c)*P:=Nat.mul_le_mul_right _ (by omega);have h2:(v1*4294967296+v2+1)*P<=((v1+1)*4294967296)*P:=Nat.mul_le_mul_right _ (by omega);have h3:((v1+1)*4294967296*4294967296)*P=4294967296*(((v1+1)*4294967296)*P):=HS ..;omega
end Go.Am
namespace Go.Am
theorem FE{U V B P two c v1 v2 q:Nat}(hw:U<(two*B+c+1)*P)(hd:(v1*B+v2)*P<=V)(hc:c<B)(hq:q*V<=U):q*v1<=two:=by
 refine DM (R:=B*P) (Nat.le_trans ?_ hd) (Nat.lt_of_lt_of_le hw ?_) hq
 ·rw[←Nat.mul_assoc];exact Nat.mul_le_mul_right _ (Nat.le_add_right _ _)
 ·rw[←Nat.mul_assoc];exact Nat.mul_le_mul_right _ (by rw[Nat.add_mul,Nat.one_mul];omega)
theorem pG.ge{us v:List Nat}{i p q:Nat}(h:pG us v i (p+2))(hq:q*val v<=val (us.drop i)):q*v.getD (p+1) 0<=us.getD (i+p+2) 0*4294967296+us.getD (i+p+1) 0:=
 FE h.win.2 h.div.1 (bP h.lu (i+p)) hq
end Go.Am
namespace Go.Am
structure Stood(us v:List Nat)(i p g:Nat):Prop where
 ge:val (us.drop i)/val v<=g
 le:g*val v<=val (us.drop i)+val v
 lt:g<4294967296
theorem pG.stood{us v:List Nat}{i p g rest:Nat}(h:pG us v i (p+2))(hge:val (us.drop i)/val v<=g)(hg:g*v.getD (p+1) 0+rest=us.getD (i+p+2) 0*4294967296+us.getD (i+p+1) 0)
  (ht:g*v.getD p 0<=rest*4294967296+us.getD (i+p) 0)(hgB:g<4294967296):Stood us v i p g:=
 ⟨hge,CE h.size.1 h.div.2 h.win.1 hg ht (Nat.le_of_lt hgB),hgB⟩
theorem vc(us v:List Nat)(t i:Nat):(taken us v t i).length=us.length:=by
 rw[taken,List.length_append,qK,List.length_take,List.length_drop];omega
theorem uy{us v:List Nat}{t i:Nat}(h:i<=us.length):(taken us v t i).drop i=i9 t v 0 0 (us.drop i):=by
 rw[taken,List.drop_append_of_le_length (by simp;omega),List.drop_of_length_le (by simp;omega),List.nil_append]
theorem y_{us v:List Nat}{t i:Nat}(h:i<=us.length):(taken us v t i).take i=us.take i:=by
 rw[taken,List.take_append_of_le_length (by simp;omega),List.take_of_length_le (by simp;omega)]
theorem yZ{us v:List Nat}{t i:Nat}(h:cW us):cW (taken us v t i):=jQ (l9 h i) (po t (jy h i))
theorem BZ(us v:List Nat)(i:Nat):(given us v i).length=us.length:=by
 rw[given,List.length_append,qT,List.length_take,List.length_drop];omega
theorem zL{us v:List Nat}{i:Nat}(h:i<=us.length):(given us v i).drop i=j_ v 0 (us.drop i):=by
 rw[given,List.drop_append_of_le_length (by simp;omega),List.drop_of_length_le (by simp;omega),List.nil_append]
theorem ze{us v:List Nat}{i:Nat}(h:i<=us.length):(given us v i).take i=us.take i:=by
 rw[given,List.take_append_of_le_length (by simp;omega),List.take_of_length_le (by simp;omega)]
theorem zq{us v:List Nat}{i:Nat}(h:cW us):cW (given us v i):=jQ (l9 h i) (pb (jy h i))
theorem pG.HP{us v:List Nat}{i n:Nat}(h:pG us v i n):val ((us.drop i).drop (n+1))=0:=by
 have h1:=h.rest;have h4:=eR (us.drop i) (n+1) (by rw[List.length_drop];have:=h.fit;omega);have hp:0<4294967296^(n+1):=Nat.pow_pos (by omega);generalize (4294967296:Nat)^(n+1)=P at*;rcases Nat.eq_zero_or_pos (val ((us.drop i).drop (n+1)))with h0|h0
 ·exact h0
 ·have:=Nat.mul_le_mul hp h0;omega
theorem pG.step{us v:List Nat}{i p g:Nat}(h:pG us v i (p+2))(hs:Stood us v i p g):
  (iD g v 0 0 (us.drop i)=0/\g=val (us.drop i)/val v/\val ((taken us v g i).drop i)=val (us.drop i)%val v)\/
  (iD g v 0 0 (us.drop i)=1/\g=val (us.drop i)/val v+1/\val ((given (taken us v g i) v i).drop i)=val (us.drop i)%val v):=by
 have hf:=h.fit;have hil:i<=us.length:=by omega
 have hld:v.length<(us.drop i).length:=by rw[List.length_drop,h.vl];omega
 have hT:=vq g hs.lt v 0 0 (us.drop i) h.lv (jy h.lu i) (by omega) (by omega) hld;have hlt:=po g (v:=v) (c:=0) (b:=0) (jy h.lu i);have hlen:=qK g v 0 0 (us.drop i);obtain⟨k,hk,hG⟩:=vm v 0 (i9 g v 0 0 (us.drop i)) h.lv hlt (by omega) (by rw[hlen];exact hld);have hbo:=yA g v 0 0 (us.drop i);have hV:0<val v:=by
  have:=h.size.1;have h2:0<4294967296*4294967296^p:=Nat.mul_pos (by omega) (Nat.pow_pos (by omega));exact Nat.lt_of_lt_of_le h2 this
 have hab:=h.HP;have hrest:=h.rest;rw[h.vl]at hT hG;have e1:val ((taken us v g i).drop i)=val ((i9 g v 0 0 (us.drop i)).take (p+2+1)):=by
  rw[uy hil,eR _ (p+2+1) (by rw[hlen,←h.vl];omega)];have:=oX g v 0 0 (us.drop i);rw[h.vl]at this;rw[this,hab,Nat.mul_zero,Nat.add_zero]
 have e2:val ((given (taken us v g i) v i).drop i)=val ((j_ v 0 (i9 g v 0 0 (us.drop i))).take (p+2+1)):=by
  rw[zL (by rw[vc];exact hil),uy hil,eR _ (p+2+1) (by rw[qT,hlen,←h.vl];omega)];have g1:=tF v 0 (i9 g v 0 0 (us.drop i));have g2:=oX g v 0 0 (us.drop i);rw[h.vl]at g1 g2;rw[g1,g2,hab,Nat.mul_zero,Nat.add_zero]
 have hX:=eY hlt (p+2+1);have hY:=eY (pb (v:=v) (c:=0) hlt) (p+2+1);have hU:=eY (jy h.lu i) (p+2+1);have hVM:=px h.lv;rw[h.vl]at hVM;have hMM:4294967296^(p+2)<=4294967296^(p+2+1):=Nat.pow_le_pow_right (by omega) (by omega);rw[e1,e2];rw[←hrest]at hT hU;exact Ge rfl hV hs.ge hs.le hU hbo hX (by rw[←hT];omega) hk hY (Nat.lt_of_lt_of_le hVM hMM) hG
end Go.Am
namespace Go.Am
open Go.RowKit
theorem Le.IC{a b c d:D}(h:Le a c)(k:Le b d):Le (.gV [a,b]) (.gV [c,d]):=by
 refine⟨fun ε w S v ⟨vs,e,hv⟩=>⟨vs,e,?_⟩,fun r hr=>?_⟩
 ·match vs,hv with
  |[x,y],hv=>exact⟨h.1 _ _ _ _ hv.1,k.1 _ _ _ _ hv.2.1,trivial⟩
 ·obtain⟨e,he,hr'⟩:=bG.1 (show r∈bD [c,d]from hr);simp only[List.mem_cons,List.not_mem_nil,or_false]at he;rcases he with rfl|rfl
  ·exact bG.2 ⟨a,by simp,h.2 r hr'⟩
  ·exact bG.2 ⟨b,by simp,k.2 r hr'⟩
theorem Ck{y:Nat}(h:(aA y).length=1):y<4294967296/\y≠0/\aA y=[y]:=by
 have h1:=lI (x:=y);rw[h]at h1;have h0:y≠0:=by intro e;subst e;rw[cS]at h;simp at h
 have hy:y<4294967296:=by omega
 refine⟨hy,h0,?_⟩;rw[ky h0,Nat.div_eq_of_lt hy,Nat.mod_eq_of_lt hy,cS]
theorem xG{x y:Nat}(h:y<=x):0<=fR x y:=by unfold fR;split<;>(try split)<;>omega
theorem Dw{y k:Nat}(hy:y≠0):bz (y*2^k)=bz y+k:=by
 have hp:=Nat.two_pow_pos k;have h:=qb (x:=y*2^k) k (Nat.le_mul_of_pos_left _ (by omega));rw[Nat.mul_div_cancel _ hp]at h;exact h.symm
theorem Ff{y n d:Nat}(hn:(aA y).length=n+1)(hd:(aA y)[n]?=some d)(hy:y≠0)(hd32:bz d<=32):
  4294967296^(n+1)<=2*(y*2^(32-bz d))/\(aA (y*2^(32-bz d))).length=n+1:=by
 have hb:=vf hn hd;have hm:=Dw (k:=32-bz d) hy;have hV:bz (y*2^(32-bz d))=32*(n+1):=by omega
 have hV0:y*2^(32-bz d)≠0:=Nat.mul_ne_zero hy (Nat.pos_iff_ne_zero.1 (Nat.two_pow_pos _));generalize y*2^(32-bz d)=V at*;have h1:=mF V;have h2:=wQ hV0;rw[hV]at h1 h2;have hp:(4294967296:Nat)^(n+1)=2^(32*(n+1)):=by rw[Nat.pow_mul]
 have hq:(2:Nat)^(32*(n+1))=2*2^(32*(n+1)-1):=by
  conv=>lhs;rw[show 32*(n+1)=(32*(n+1)-1)+1 by omega,Nat.pow_succ,Nat.mul_comm]
 have h3:4294967296^(n+1)<=2*V:=by rw[hp,hq];exact Nat.mul_le_mul_left _ h2
 refine⟨h3,?_⟩;have h4:=eW (x:=V) (n:=n+1) (by rw[hp];exact h1);have h5:¬(aA V).length<=n:=by
  intro hle;have h6:=lI (x:=V);have h7:4294967296^(aA V).length<=4294967296^n:=Nat.pow_le_pow_right (by omega) hle;rw[Nat.pow_succ]at h3;generalize (4294967296:Nat)^n=P at*;omega
 omega
theorem BO{t P U q r V Z X B:Nat}(h:t+P*U+V*(P*B*Z)=X)(hU:V*q+r=U):t+P*r+V*(P*(q+B*Z))=X:=by
 rw[←h,←hU,Nat.mul_add P q,Nat.mul_add V,Nat.mul_add P (V*q),Nat.mul_left_comm V P q,←Nat.mul_assoc P B Z];omega
end Go.Am
namespace Go.Am
open Go.RowKit
theorem CY{l:List Nat}{n:Nat}(hw:l.length<=n):(List.replicate (n+1) (D.int .u32 0)).take 0++bE l++(List.replicate (n+1) (D.int .u32 0)).drop (0+l.length)=bE (l++List.replicate (n+1-l.length) 0):=by
 rw[List.take_zero,List.nil_append,Nat.zero_add,List.drop_replicate];simp[bE]
theorem Cp{l:List Nat}{n:Nat}(hw:l.length<=n):(l++List.replicate (n+1-l.length) 0).take n=l++List.replicate (n-l.length) 0:=by
 rw[List.take_append,List.take_of_length_le hw,List.take_replicate,Nat.min_eq_left (by omega)]
theorem Eo(l:List Nat)(n:Nat):val (l++List.replicate n 0)=val l:=by
 rw[kS,oM,Nat.mul_zero,Nat.add_zero]
theorem pG.Jf{us v:List Nat}{i n:Nat}(h:pG us v i n):val (us.drop i)/val v<4294967296:=by
 have hV:0<val v:=by have:=h.less;omega
 rw[Nat.div_lt_iff_lt_mul hV];have hd:us.drop i=us.getD i 0::us.drop (i+1):=by
  rw[List.drop_eq_getElem_cons (by have:=h.fit;omega)];congr 1;simp[show i<us.length from by have:=h.fit;omega]
 have hl:=bP h.lu i;have hless:=h.less;rw[hd,val];omega
theorem pG.dec{us v:List Nat}{i p g rest:Nat}(h:pG us v i (p+2))(hge:val (us.drop i)/val v<=g)(hg:g*v.getD (p+1) 0+rest=us.getD (i+p+2) 0*4294967296+us.getD (i+p+1) 0)
  (ht:4294967296<=g\/rest*4294967296+us.getD (i+p) 0<g*v.getD p 0):val (us.drop i)/val v<g:=by
 rcases ht with ht|ht
 ·have:=h.Jf;omega
 ·exact D1 h.div.1 h.win.2 hg ht (Nat.div_mul_le_self _ _)
theorem pG.cp{us v:List Nat}{i p g rest:Nat}(h:pG us v i (p+2))(hge:val (us.drop i)/val v<=g)(hg:g*v.getD (p+1) 0+rest=us.getD (i+p+2) 0*4294967296+us.getD (i+p+1) 0)
  (hr:4294967296<=rest):Stood us v i p g:=by
 have hgB:=yh hg hr h.top (bP h.lu (i+p+1));refine h.stood hge hg ?_ hgB;have h2:=bP h.lv p;have h3:g*v.getD p 0<=4294967296*4294967296:=Nat.mul_le_mul (by omega) (by omega);have h4:4294967296*4294967296<=rest*4294967296:=Nat.mul_le_mul_right _ hr;omega
theorem BK{x y n la m p:Nat}(hxl:x<4294967296^la)(hyl:4294967296^n<=y)(hm:n+m=la)(hp:0<p):x*p<y*p*4294967296^m:=by
 have h3:=Nat.mul_le_mul_right (4294967296^m) hyl;rw[←Nat.pow_add,hm]at h3;have h4:x<y*4294967296^m:=Nat.lt_of_lt_of_le hxl h3;rw[Nat.mul_right_comm];exact Nat.mul_lt_mul_of_pos_right h4 hp
theorem FF{us0:List Nat}{V X m:Nat}(h:val us0=X)(hl:m<=us0.length)(hVX:X<V*4294967296^m):val (us0.drop m)<V:=by
 have h1:=eR us0 m hl;rw[h]at h1;have h2:val (us0.drop m)*4294967296^m<V*4294967296^m:=by
  rw[Nat.mul_comm (val _)];exact Nat.lt_of_le_of_lt (by rw[h1];exact Nat.le_add_left _ _) hVX
 exact Nat.lt_of_mul_lt_mul_right h2
theorem Ej{x y p a b:Nat}(hp:0<p)(hy:0<y)(h:a+y*p*b=x*p)(hl:a<y*p):b=x/y/\a=(x%y)*p:=by
 have hV:0<y*p:=Nat.mul_pos hy hp
 constructor
 ·have h1:x*p/(y*p)=b:=by rw[←h,Nat.add_mul_div_left _ _ hV,Nat.div_eq_of_lt hl,Nat.zero_add]
  rw[←h1,Nat.mul_div_mul_right _ _ hp]
 ·have h1:x*p%(y*p)=a:=by rw[←h,Nat.add_mul_mod_self_left,Nat.mod_eq_of_lt hl]
  rw[←h1,Nat.mul_mod_mul_right]
theorem C5{us v:List Nat}{n:Nat}(hn:n<=us.length)(hv:cW v)(hvl:v.length=n)(h:val us<val v):val (us.take n)=val us:=by
 have h1:=eR us n hn;have h2:=px hv;rw[hvl]at h2;have h3:val (us.drop n)=0:=by
  rcases Nat.eq_zero_or_pos (val (us.drop n))with h|h
  ·exact h
  ·exfalso
   have h4:=Nat.mul_le_mul_left (4294967296^n) h;rw[Nat.mul_succ,Nat.mul_zero,Nat.zero_add]at h4;have h5:4294967296^n*val (us.drop n)<=val us:=by rw[h1];exact Nat.le_add_left _ _
   have h6:=Nat.lt_trans ‹val us<val v› h2;exact Nat.lt_irrefl _ (Nat.lt_of_le_of_lt (Nat.le_trans h4 h5) h6)
 rw[h1,h3,Nat.mul_zero,Nat.add_zero]
structure w8(la m V X:Nat)(us qs:List Nat)(i:Nat):Prop where
 ul:us.length=la+1
 lu:cW us
 ql:qs.length=m
 lq:cW qs
 im:i<=m
 sum:val us+V*(4294967296^i*val (qs.drop i))=X
 less:val (us.drop i)<V
theorem w8.init{la m V X:Nat}{us:List Nat}(h1:us.length=la+1)(h2:cW us)(h3:val us=X)(h4:val (us.drop m)<V):w8 la m V X us (List.replicate m 0) m:=
 ⟨h1,h2,List.length_replicate,il m,Nat.le_refl _,by rw[List.drop_of_length_le (by simp),h3];simp[val],h4⟩
theorem w8.fin{la m V X x y p:Nat}{us qs v:List Nat}{n:Nat}(h:w8 la m V X us qs 0)(hX:x*p=X)(hV:y*p=V)(hp:0<p)(hy:0<y)(hn:n<=us.length)(hv:cW v)(hvl:v.length=n)(hvv:val v=V):
  val qs=x/y/\val (us.take n)=(x%y)*p:=by
 have hless:=h.less;have hval:=h.sum;rw[List.drop_zero]at hless;rw[List.drop_zero,Nat.pow_zero,Nat.one_mul]at hval;rw[←hX,←hV]at hval;obtain⟨hq,hr⟩:=Ej hp hy hval (by rw[hV];exact hless);have htk:=C5 hn hv hvl (by rw[hvv];exact hless);rw[hr]at htk;exact⟨hq,htk⟩
theorem w8.step{la m V X:Nat}{us qs us':List Nat}{i q:Nat}(h:w8 la m V X us qs (i+1))(hlu:cW us')(hl:us'.length=us.length)(hm:val (us'.drop i)=val (us.drop i)%V)(htk:us'.take i=us.take i)(hq:q=val (us.drop i)/V)(hqB:q<4294967296)(hV:0<V)(hiu:i<=us.length):
  w8 la m V X us' (qs.set i q) i:=by
 have hiq:i<qs.length:=by have:=h.im;have:=h.ql;omega
 refine⟨by rw[hl];exact h.ul,hlu,by rw[List.length_set];exact h.ql,i7 h.lq hqB i,by have:=h.im;omega,?_,?_⟩
 ·have hd:(qs.set i q).drop i=q::qs.drop (i+1):=by
   rw[List.drop_eq_getElem_cons (by rw[List.length_set];exact hiq),List.getElem_set_self,List.drop_set_of_lt (Nat.lt_succ_self i)]
  have h1:=eR us i hiu;have h2:=eR us' i (by omega);have h3:=h.sum;rw[h1,Nat.pow_succ]at h3;rw[hd,val,h2,htk,hm];exact BO h3 (by rw[hq];exact Nat.div_add_mod _ _)
 ·rw[hm];exact Nat.mod_lt _ hV
theorem Il(x y:Nat)(hy0:y≠0)(hx:(aA x).length<=549755813888)(hy:(aA y).length<=549755813888):lO PP 167 [aj x,aj y] (.gV [aj (x/y),aj (x%y)]):=by
 show lO PP _ [dz (aA x),dz (aA y)] _;refine .of Go.Proofs.Tryz.func167 rfl (by kernel_rfl) rfl rfl rfl (fun A w0=>?_);refine .al (.ao rfl<|.ao rfl<|.nil) rfl (.sq (.block ?_));by_cases hlt:x<y
 ·refine .al (.mv rfl<|.mv rfl<|.call (DQ x y (by omega) (by omega)) ⟨rfl,rfl,trivial⟩<|.cm rfl rfl (zQ (by rw[wF hlt];decide))<|.ao rfl<|.nil) rfl ?_;refine .cT rfl (.al (.mv rfl<|.ao rfl<|.ao rfl<|.nil) rfl ?_);exact .DV (fun _ _ h=>h) rfl (.tmp rfl) (.tmp rfl) (.IC (by rw[Nat.div_eq_of_lt hlt];exact aV) (.of_eq (by rw[Nat.mod_eq_of_lt hlt];rfl))) rfl
 have hyx:y<=x:=Nat.le_of_not_lt hlt;refine .al (.mv rfl<|.mv rfl<|.call (DQ x y (by omega) (by omega)) ⟨rfl,rfl,trivial⟩<|.cm rfl rfl (yS (xG hyx))<|.ao rfl<|.nil) rfl ?_;refine .cF rfl ?_;by_cases h1:(aA y).length=1
 ·obtain⟨hyb,_,hyd⟩:=Ck h1;refine .al (.mv rfl<|.ln rfl au<|.cm rfl rfl (I2 (by omega))<|.ao rfl<|.nil) rfl ?_;refine .cT rfl (.al (.mv rfl<|.mv rfl<|.pV rfl rfl av (by omega) (by omega) (bj (i:=0) (d:=y) (by rw[hyd];rfl))<|.iJ rfl aP<|.call (Ah x y hy0 hyb (by omega)) ⟨rfl,rfl,trivial⟩<|.ext rfl rfl<|.ext rfl rfl<|.ao rfl<|.ao rfl<|.nil) rfl ?_);exact .DV (fun _ _ h=>h) rfl (.tmp rfl) (.tmp rfl) (.refl _) rfl
 refine .al (.mv rfl<|.ln rfl au<|.cm rfl rfl (HX (by omega))<|.ao rfl<|.nil) rfl ?_;refine .cF rfl (.skip (Ok.on ?_));obtain⟨p,hp⟩:∃p,(aA y).length=p+2:=⟨(aA y).length-2,by have:=cM hy0;omega⟩;have htop:(aA y)[p+1]?=some ((aA y).getD (p+1) 0):=getD_some (by omega);have hdl:=bP (cL y) (p+1);generalize (aA y).getD (p+1) 0=d at htop hdl;have hb32:bz d<=32:=dS (n:=32) hdl;obtain⟨hbig,hvl⟩:=Ff (n:=p+1) hp htop hy0 hb32;have hsub1:pB .sub .i64 (((aA y).length:Nat):Int) 1=some ((p+1:Nat):Int):=by rw[kf (by omega)];congr 1;omega
 refine .al (.mv rfl<|.mv rfl<|.ln rfl au<|.ar rfl rfl hsub1<|.pV rfl rfl av (by omega) (by omega) (bj (i:=p+1) (d:=d) htop)<|.iJ rfl aP<|.call (q7 d hdl) ⟨rfl,trivial⟩<|.ao rfl<|.nil) rfl ?_;have hkl:32-bz d<35184372088832:=by omega
 have hk32:32-bz d<=32:=by omega
 generalize 32-bz d=k at hbig hvl hkl hk32;have hpk:2^k<=4294967296:=Nat.le_trans (Nat.pow_le_pow_right (by decide) hk32) (by decide);have hXlt:x*2^k<4294967296^((aA x).length+1):=by
  rw[Nat.pow_succ];exact Nat.mul_lt_mul_of_lt_of_le lI hpk (by decide)
 have hAl:(aA (x*2^k)).length<=(aA x).length+1:=eW hXlt;have hXlt':=hXlt;refine .al (.mv rfl<|.mv rfl<|.call (Dr y k (by omega) hkl) ⟨rfl,rfl,trivial⟩<|.ao rfl<|.nil) rfl ?_;refine .sub [(0,aj x),(1,aj y),(6,.int .i64 (k:Nat)),(7,dz (aA (y*2^k)))] [] (dn rfl) (jt rfl) rfl rfl ?_;have hvv:=dL (y*2^k);have hvo:=cL (y*2^k);generalize aA (y*2^k)=v at hvl hvv hvo;have hvl:v.length=p+2:=hvl;have hln:pB .sub .i64 (((aA x).length:Nat):Int) ((p+1+1:Nat):Int)=some ((((aA x).length-(p+2):Nat)):Int):=pQ (by have:=jI hyx;omega) (by omega);have hnx:p+2<=(aA x).length:=by have:=jI hyx;omega
 refine .al (.mv rfl<|.ln rfl au<|.ao rfl<|.nil) rfl ?_;refine .sub [(0,dz (aA x)),(6,.int .i64 (k:Nat)),(7,dz v),(8,.int .i64 ((p+2:Nat)))] [] ⟨⟨_,rfl,.refl _⟩,⟨_,rfl,.refl _⟩,⟨_,rfl,.refl _⟩,⟨_,rfl,.of_eq (by rw[hvl])⟩,trivial⟩ (jt rfl) rfl rfl ?_;refine .al (.mv rfl<|.ln rfl au<|.ar rfl rfl (dJ (d:=2) (by omega))<|.Gs rfl rfl dE rfl (by omega) (by omega) rfl<|.ao rfl<|.nil) rfl ?_;have hKx:lO PP 166 [dz (aA x),.int .i64 (k:Nat)] (dz (aA (x*2^k))):=Dr x k (by omega) hkl;refine .al (.mv rfl<|.mv rfl<|.mv rfl<|.call hKx ⟨rfl,rfl,trivial⟩<|.JS rfl rfl rfl dE (by simp;try omega)<|.nil) rfl ?_;have hcopy:=CY hAl;have hpt:=Cp hAl;have hpv:=Eo (aA (x*2^k)) ((aA x).length+1-(aA (x*2^k)).length);have hplo:cW (aA (x*2^k)++List.replicate ((aA x).length+1-(aA (x*2^k)).length) 0):=jQ (cL _) (il _);rw[dL]at hpv;have hpl:(aA (x*2^k)++List.replicate ((aA x).length+1-(aA (x*2^k)).length) 0).length=(aA x).length+1:=by rw[List.length_append,List.length_replicate];omega
 have hpl2:(aA (x*2^k)++List.replicate ((aA x).length+1+1-(aA (x*2^k)).length) 0).length=(aA x).length+2:=by rw[List.length_append,List.length_replicate];omega
 refine .sub [(0,dz (aA x)),(6,.int .i64 (k:Nat)),(7,dz v),(8,.int .i64 ((p+2:Nat))),(9,.own 47)] [(47,.row 1 230 (bE (aA (x*2^k)++List.replicate ((aA x).length+1+1-(aA (x*2^k)).length) 0)) (aO _))] (dn rfl) ⟨⟨_,rfl,.of_eq (dW hcopy)⟩,trivial⟩ rfl rfl ?_;generalize aA (x*2^k)++List.replicate ((aA x).length+1-(aA (x*2^k)).length) 0=us0 at hpt hpv hplo hpl;generalize aA (x*2^k)++List.replicate ((aA x).length+1+1-(aA (x*2^k)).length) 0=us1 at hpt hpl2;refine .al (.mv rfl<|.mv rfl<|.ln rfl au<|.ar rfl rfl (fA (by omega))<|.JG (n:=(aA x).length+2) (m':=1) rfl rfl rfl av (by rw[bB,hpl2];omega) rfl rfl (by omega) (by omega) (by omega)<|.ao rfl<|.nil) rfl ?_;refine .HY 9 200 (n:=(aA x).length+1) (m':=1) rfl rfl rfl (by rw[bB,hpl2];omega) rfl (by rw[bB,hpl2];omega) ?_;refine .sub [(0,dz (aA x)),(6,.int .i64 (k:Nat)),(7,dz v),(8,.int .i64 ((p+2:Nat))),(9,.own 200)] [(200,.row 1 230 (bE us0) (aO _))] (dn rfl) ⟨⟨_,rfl,.of_eq (dW (by rw[Nat.mul_one,vB,hpt]))⟩,trivial⟩ rfl rfl ?_;refine .al (.mv rfl<|.ln rfl au<|.mv rfl<|.ar rfl rfl hln<|.ar rfl rfl (fA (by omega))<|.Gs rfl rfl dE rfl (by omega) (by omega) rfl<|.ao rfl<|.nil) rfl ?_;refine .sq ?_;refine .al (.mv rfl<|.HC (n:=(aA x).length-(p+2)+1) (m':=1) rfl rfl au (by simp) rfl rfl<|.ar rfl rfl (kf (by omega))<|.ao rfl<|.nil) rfl ?_;generalize hm:(aA x).length-(p+2)+1=m;generalize hX:x*2^k=X at hpv;have hbig':=hbig;generalize hV:y*2^k=V at hvv hbig';have hpk0:0<2^k:=Nat.two_pow_pos k;have hVX:X<V*4294967296^m:=by
  rw[←hX,←hV];exact BK lI (sn hy0) (by omega) hpk0
 have hini:val (us0.drop m)<V:=FF hpv (by omega) hVX;have hI0:w8 (aA x).length m V X us0 (List.replicate m 0) m:=.init hpl hplo hpv hini;refine .block (.loop (ι:={s:List Nat×List Nat×Nat//w8 (aA x).length m V X s.1 s.2.1 s.2.2})
  (fun s=>[(6,.int .i64 (k:Nat)),(7,dz v),(8,.int .i64 ((p+2:Nat))),(9,.own 200),(10,.own 63),(11,.int .i64 ((s.1.2.2:Nat)-1))]) (fun s=>[(200,.row 1 230 (bE s.1.1) (aO _)),(63,.row 1 230 (bE s.1.2.1) (aO _))]) (fun s=>s.1.2.2)
  ⟨(us0,List.replicate m 0,m),hI0⟩ (dn rfl) ⟨⟨_,rfl,.refl _⟩,⟨_,rfl,.of_eq (dW (by simp[bE]))⟩,trivial⟩ rfl rfl ?_)
 rintro⟨⟨us,qs,i1⟩,hI⟩;simp only at hI;show Ok PP _ [(6,.int .i64 (k:Nat)),(7,dz v),(8,.int .i64 ((p+2:Nat))),(9,.own 200),(10,.own 63),(11,.int .i64 ((i1:Nat)-1))] [(200,.row 1 230 (bE us) (aO _)),(63,.row 1 230 (bE qs) (aO _))] _ _;have hul:=hI.ul;have hql:=hI.ql;refine .sq ?_
 cases i1 with
 |zero=>
  refine .al (.mv rfl<|.cm rfl rfl (b:=false) (by simp[du])<|.nil) rfl ?_;refine .cF rfl (.exit (Ok.on ?_));obtain⟨hq,hr⟩:=hI.fin hX hV hpk0 (Nat.pos_of_ne_zero hy0) (n:=p+2) (by omega) hvo hvl hvv;have hltk:cW (us.take (p+2)):=l9 hI.lu _;have B6:=hI.lq;refine .tD (n:=m) (m':=1) 10 rfl rfl (by rw[bB,hql];omega) rfl rfl ?_;refine .tD (n:=(aA x).length+1) (m':=1) 9 rfl rfl (by rw[bB,hul];omega) rfl rfl ?_;refine .sub [(6,.int .i64 (k:Nat)),(8,.int .i64 ((p+2:Nat))),(9,dz us),(10,dz qs)] [] ⟨⟨_,rfl,.refl _⟩,⟨_,rfl,.refl _⟩,⟨_,rfl,.of_eq (nF hul.symm rfl)⟩,⟨_,rfl,.of_eq (nF hql.symm rfl)⟩,trivial⟩ trivial rfl rfl ?_;have hKn:lO PP 210 [dz (us.take (p+2))] (aj (x%y*2^k)):=by rw[←hr];exact m_ _ hltk (by rw[List.length_take];omega)
  have hKq:lO PP 210 [dz qs] (aj (x/y)):=by rw[←hq];exact m_ _ B6 (by omega)
  have hrl:(aA (x%y*2^k)).length<=1099511627776:=by
   have h1:x%y*2^k<4294967296^((aA x).length+1):=by
    refine Nat.lt_of_le_of_lt (Nat.mul_le_mul_right _ (Nat.mod_le x y)) hXlt'
   have:=eW h1;omega
  have hsl:∀h,D.jm ((p+2:Nat):Int).toNat 1 ((bE us).take (((p+2:Nat):Int).toNat*1)) h=dz (us.take (p+2)):=fun h=>nF (by rw[Int.toNat_natCast,List.length_take];omega) (by rw[Int.toNat_natCast,Nat.mul_one,vB]);have hKs:=FW (x%y*2^k) k hrl (by omega);rw[Nat.mul_div_cancel _ hpk0]at hKs;refine .dh cn (.mv rfl<|.call hKq ⟨rfl,trivial⟩<|.mv rfl<|.mv rfl<|.I9 rfl rfl av (by omega) (by omega)<|.call hKn ⟨congrArg some (hsl _),trivial⟩<|.mv rfl<|.call hKs ⟨rfl,rfl,trivial⟩<|.ao rfl<|.ao rfl<|.nil) rfl (by kernel_rfl) ?_;exact .EC rfl (.tmp rfl) (.tmp rfl) (.refl _) rfl
 |succ i=>
  have hvl':v.length=p+2:=hvl;have cY:i+(p+2)<us.length:=by have:=hI.im;rw[hul];omega
  have hW:pG us v i (p+2):=⟨by omega,hvl,hvo,hI.lu,cY,by rw[hvv];exact hbig',by rw[hvv];exact hI.less⟩;have hiq:i<qs.length:=by have:=hI.im;omega
  refine .al (.mv rfl<|.cm rfl rfl (b:=true) (by simp[du];try omega)<|.nil) rfl ?_;refine .cT rfl (.skip (Ok.on (.sq (.block ?_))));rw[show((i+1:Nat):Int)-1=i by omega];have g0:us[i+p]?=some (us.getD (i+p) 0):=getD_some (by omega);have g1:us[i+p+1]?=some (us.getD (i+p+1) 0):=getD_some (by omega);have g2:us[i+(p+2)]?=some (us.getD (i+p+2) 0):=getD_some (by omega);have gv1:v[p+1]?=some (v.getD (p+1) 0):=getD_some (by omega);have gv2:v[p]?=some (v.getD p 0):=getD_some (by omega);have l0:=bP hI.lu (i+p);have l1:=bP hI.lu (i+p+1);have l2:=bP hI.lu (i+p+2);have lv1:=bP hvo (p+1);have lv2:=bP hvo p;have hv1p:2147483648<=v.getD (p+1) 0:=hW.size.2;have hwdec:=@pG.dec us v i p;have hwbrk:=@pG.cp us v i p;have hwst:=@pG.stood us v i p;have hwge:=fun q h=>pG.ge (q:=q) hW h;generalize hu0:us.getD (i+p) 0=u0 at*;generalize hu1:us.getD (i+p+1) 0=u1 at*;generalize hu2:us.getD (i+p+2) 0=u2 at*;generalize hv1:v.getD (p+1) 0=v1 at*;generalize hv2:v.getD p 0=v2 at*;have hrl:(bE us).length=((aA x).length+1)*1:=by rw[bB,hul];omega
  have s1:pB .sub .i64 ((i+(p+2):Nat):Int) 1=some ((i+p+1:Nat):Int):=by rw[kf (by omega)];congr 1;omega
  have s2:pB .sub .i64 ((i+(p+2):Nat):Int) 2=some ((i+p:Nat):Int):=by rw[show(2:Int)=((2:Nat):Int)from rfl,pQ (by omega) (by omega)];congr 2
  have s3:pB .sub .i64 ((p+2:Nat):Int) 1=some ((p+1:Nat):Int):=by rw[kf (by omega)];congr 1;omega
  have s4:pB .sub .i64 ((p+2:Nat):Int) 2=some ((p:Nat):Int):=by rw[show(2:Int)=((2:Nat):Int)from rfl,pQ (by omega) (by omega)];congr 2
  refine .dh cn (.mv rfl<|.mv rfl<|.mv rfl<|.ar rfl rfl (dJ (n:=i) (d:=p+2) (by omega))<|.qH (n:=(aA x).length+1) (m':=1) rfl rfl rfl av hrl rfl rfl (by omega) (by omega)<|.zp rfl rfl aP (d:=.int .u32 u2) (by rw[Int.toNat_natCast,Nat.mul_one];exact bj g2)<|.cv rfl bk (bJ (by omega))<|.sh rfl rfl (z6 (n:=u2) l2)<|
   .mv rfl<|.mv rfl<|.mv rfl<|.ar rfl rfl (dJ (n:=i) (d:=p+2) (by omega))<|.ar rfl rfl s1<|.qH (n:=(aA x).length+1) (m':=1) rfl rfl rfl av hrl rfl rfl (by omega) (by omega)<|.zp rfl rfl aP (d:=.int .u32 u1) (by rw[Int.toNat_natCast,Nat.mul_one];exact bj g1)<|.cv rfl bk (bJ (by omega))<|.ar rfl rfl (wK l2 l1)<|.ao rfl<|.nil) rfl (by kernel_rfl) ?_
  have htwo:u2*4294967296+u1<18446744073709551616:=by omega
  refine .dh cn (.mv rfl<|.mv rfl<|.mv rfl<|.ar rfl rfl s3<|.pV rfl rfl av (by omega) (by omega) (bj (i:=p+1) (d:=v1) gv1)<|.iJ rfl aP<|.cv rfl bk (bJ (by omega))<|.ar rfl rfl (DK (n:=u2*4294967296+u1) (d:=v1) (by omega) htwo)<|
   .mv rfl<|.mv rfl<|.mv rfl<|.ar rfl rfl s3<|.pV rfl rfl av (by omega) (by omega) (bj (i:=p+1) (d:=v1) gv1)<|.iJ rfl aP<|.cv rfl bk (bJ (by omega))<|.ar rfl rfl (xe (n:=u2*4294967296+u1) (d:=v1) (by omega))<|.ao rfl<|.ao rfl<|.nil) rfl (by kernel_rfl) ?_
  have hVpos:0<val v:=by have:=hW.less;omega
  have hge0:val (us.drop i)/val v<=(u2*4294967296+u1)/v1:=yR (hwge _ (Nat.div_mul_le_self _ _)) (by omega);have hst0:(u2*4294967296+u1)/v1*v1+(u2*4294967296+u1)%v1=u2*4294967296+u1:=by rw[Nat.mul_comm];exact Nat.div_add_mod _ _
  have hr0:(u2*4294967296+u1)%v1<4294967296:=Nat.lt_trans (Nat.mod_lt _ (by omega)) lv1;generalize (u2*4294967296+u1)/v1=gu0 at hge0 hst0|-;generalize (u2*4294967296+u1)%v1=re0 at hr0 hst0|-;refine .uB (ι:={g:Nat//Stood us v i p g}) (fun g=>[(6,.int .i64 (k:Nat)),(7,dz v),(8,.int .i64 ((p+2:Nat))),(9,.own 200),(10,.own 63),(11,.int .i64 (i:Nat)),(13,.int .u64 (g.1:Nat))]) (fun _=>[(200,.row 1 230 (bE us) (aO _)),(63,.row 1 230 (bE qs) (aO _))]) ?_ ?_
  ·refine .block (.loop (ι:={s:Nat×Nat//val (us.drop i)/val v<=s.1/\s.1*v1+s.2=u2*4294967296+u1/\s.2<4294967296})
    (fun s=>[(6,.int .i64 (k:Nat)),(7,dz v),(8,.int .i64 ((p+2:Nat))),(9,.own 200),(10,.own 63),(11,.int .i64 (i:Nat)),(13,.int .u64 (s.1.1:Nat)),(14,.int .u64 (s.1.2:Nat))]) (fun _=>[(200,.row 1 230 (bE us) (aO _)),(63,.row 1 230 (bE qs) (aO _))]) (fun s=>s.1.1)
    ⟨(gu0,re0),hge0,hst0,hr0⟩ (dn rfl) (jt rfl) rfl rfl ?_)
   rintro⟨⟨g,re⟩,hge,hgr,hre⟩;simp only at hge hgr hre;show Ok PP _ [(6,.int .i64 (k:Nat)),(7,dz v),(8,.int .i64 ((p+2:Nat))),(9,.own 200),(10,.own 63),(11,.int .i64 (i:Nat)),(13,.int .u64 (g:Nat)),(14,.int .u64 (re:Nat))] [(200,.row 1 230 (bE us) (aO _)),(63,.row 1 230 (bE qs) (aO _))] _ _;have hgm:g<=g*v1:=Nat.le_mul_of_pos_right _ (by omega);have hg64:g<18446744073709551616:=by omega
   refine .uB (ι:={_u:Unit//4294967296<=g\/re*4294967296+u0<g*v2}) (fun _=>[(6,.int .i64 (k:Nat)),(7,dz v),(8,.int .i64 ((p+2:Nat))),(9,.own 200),(10,.own 63),(11,.int .i64 (i:Nat)),(13,.int .u64 (g:Nat)),(14,.int .u64 (re:Nat))]) (fun _=>[(200,.row 1 230 (bE us) (aO _)),(63,.row 1 230 (bE qs) (aO _))]) ?_ ?_
   ·by_cases hgB:4294967296<=g
    ·refine .dh cn (.mv rfl<|.cm rfl rfl (Gk (by omega))<|.mv rfl<|.uQ rfl rfl rfl rfl<|.uQ rfl rfl rfl rfl<|.uQ rfl rfl rfl rfl<|.uQ rfl rfl rfl rfl<|.uQ rfl rfl rfl rfl<|.uQ rfl rfl rfl rfl<|.uQ rfl rfl rfl rfl<|.uQ rfl rfl rfl rfl<|.uQ rfl rfl rfl rfl<|.uQ rfl rfl rfl rfl<|.uQ rfl rfl rfl rfl<|.uQ rfl rfl rfl rfl<|.uQ rfl rfl rfl rfl<|.uQ rfl rfl rfl rfl<|.uQ rfl rfl rfl rfl<|.uQ rfl rfl rfl rfl<|.uQ rfl rfl rfl rfl<|.uQ rfl rfl rfl rfl<|.uQ rfl rfl rfl rfl<|.uQ rfl rfl rfl rfl<|.bm rfl rfl rfl<|.nil) rfl (by kernel_rfl) ?_;exact .cT rfl (.skip fun _ _ hs=>hs.to ⟨(),.inl hgB⟩ (dn rfl) (jt rfl) rfl rfl)
    ·have hprod:g*v2<18446744073709551616:=by
      have:g*v2<=4294967295*4294967295:=Nat.mul_le_mul (by omega) (by omega);omega
     have hng:¬(false=true):=by decide
     by_cases ht:re*4294967296+u0<g*v2
     ·refine .dh cn (.mv rfl<|.cm rfl rfl (EH (by omega))<|.mv rfl<|.lT rfl rfl rfl hng<|.mv rfl<|.lT rfl rfl rfl hng<|.mv rfl<|.lT rfl rfl rfl hng<|.mv rfl<|.lT rfl rfl rfl hng<|.ar rfl rfl s4<|.lT rfl rfl rfl hng<|.pV rfl rfl av (by omega) (by omega) (bj (i:=p) (d:=v2) gv2)<|.lT rfl rfl rfl hng<|.iJ rfl aP<|.lT rfl rfl rfl hng<|.cv rfl bk (bJ (by omega))<|.lT rfl rfl rfl hng<|.ar rfl rfl (sO (n:=g) (d:=v2) hprod)<|
       .lT rfl rfl rfl hng<|.mv rfl<|.lT rfl rfl rfl hng<|.sh rfl rfl (z6 (n:=re) hre)<|.lT rfl rfl rfl hng<|.mv rfl<|.lT rfl rfl rfl hng<|.mv rfl<|.lT rfl rfl rfl hng<|.mv rfl<|.lT rfl rfl rfl hng<|.ar rfl rfl (dJ (n:=i) (d:=p+2) (by omega))<|.lT rfl rfl rfl hng<|.ar rfl rfl s2<|.lT rfl rfl rfl hng<|.qH (n:=(aA x).length+1) (m':=1) rfl rfl rfl av hrl rfl rfl (by omega) (by omega)<|.lT rfl rfl rfl hng<|.zp rfl rfl aP (d:=.int .u32 u0) (by rw[Int.toNat_natCast,Nat.mul_one];exact bj g0)<|.lT rfl rfl rfl hng<|.cv rfl bk (bJ (by omega))<|.lT rfl rfl rfl hng<|.ar rfl rfl (wK hre l0)<|.lT rfl rfl rfl hng<|.cm rfl rfl (Gw (by omega))<|.bh rfl hng rfl<|.nil) rfl (by kernel_rfl) ?_
      exact .cT rfl (.skip fun _ _ hs=>hs.to ⟨(),.inr ht⟩ (dn rfl) (jt rfl) rfl rfl)
     ·refine .dh cn (.mv rfl<|.cm rfl rfl (EH (by omega))<|.mv rfl<|.lT rfl rfl rfl hng<|.mv rfl<|.lT rfl rfl rfl hng<|.mv rfl<|.lT rfl rfl rfl hng<|.mv rfl<|.lT rfl rfl rfl hng<|.ar rfl rfl s4<|.lT rfl rfl rfl hng<|.pV rfl rfl av (by omega) (by omega) (bj (i:=p) (d:=v2) gv2)<|.lT rfl rfl rfl hng<|.iJ rfl aP<|.lT rfl rfl rfl hng<|.cv rfl bk (bJ (by omega))<|.lT rfl rfl rfl hng<|.ar rfl rfl (sO (n:=g) (d:=v2) hprod)<|
       .lT rfl rfl rfl hng<|.mv rfl<|.lT rfl rfl rfl hng<|.sh rfl rfl (z6 (n:=re) hre)<|.lT rfl rfl rfl hng<|.mv rfl<|.lT rfl rfl rfl hng<|.mv rfl<|.lT rfl rfl rfl hng<|.mv rfl<|.lT rfl rfl rfl hng<|.ar rfl rfl (dJ (n:=i) (d:=p+2) (by omega))<|.lT rfl rfl rfl hng<|.ar rfl rfl s2<|.lT rfl rfl rfl hng<|.qH (n:=(aA x).length+1) (m':=1) rfl rfl rfl av hrl rfl rfl (by omega) (by omega)<|.lT rfl rfl rfl hng<|.zp rfl rfl aP (d:=.int .u32 u0) (by rw[Int.toNat_natCast,Nat.mul_one];exact bj g0)<|.lT rfl rfl rfl hng<|.cv rfl bk (bJ (by omega))<|.lT rfl rfl rfl hng<|.ar rfl rfl (wK hre l0)<|.lT rfl rfl rfl hng<|.cm rfl rfl (GR (by omega))<|.bh rfl hng rfl<|.nil) rfl (by kernel_rfl) ?_
      have hS:Stood us v i p g:=hwst hW hge hgr (by omega) (by omega);exact .cF rfl (.exit fun _ _ hs=>hs.to ⟨g,hS⟩ (dn rfl) (jt rfl) rfl rfl)
   ·rintro⟨_,ht⟩;have hlt:val (us.drop i)/val v<g:=hwdec hW hge hgr ht;have hgpos:0<g:=Nat.lt_of_le_of_lt (Nat.zero_le _) hlt;have hge2:val (us.drop i)/val v<=g-1:=Nat.le_sub_one_of_lt hlt;have hnx:=zj hgr hgpos;show Ok PP _ [(6,.int .i64 (k:Nat)),(7,dz v),(8,.int .i64 ((p+2:Nat))),(9,.own 200),(10,.own 63),(11,.int .i64 (i:Nat)),(13,.int .u64 (g:Nat)),(14,.int .u64 (re:Nat))] [(200,.row 1 230 (bE us) (aO _)),(63,.row 1 230 (bE qs) (aO _))] _ _;have s5:pB .sub .u64 (g:Int) 1=some ((g-1:Nat):Int):=congrArg some (wrap_u64 (by omega) (by omega));refine .block ?_;refine .al (.mv rfl<|.ar rfl rfl s5<|.ao rfl<|.nil) rfl ?_;refine .al (.mv rfl<|.mv rfl<|.mv rfl<|.ar rfl rfl s3<|.pV rfl rfl av (by omega) (by omega) (bj (i:=p+1) (d:=v1) gv1)<|.iJ rfl aP<|.cv rfl bk (bJ (by omega))<|.ar rfl rfl (sk (n:=re) (d:=v1) (by omega))<|.ao rfl<|.nil) rfl ?_;by_cases hbk:4294967296<=re+v1
    ·refine .al (.mv rfl<|.cm rfl rfl (Gk (by omega))<|.nil) rfl ?_;have hS:Stood us v i p (g-1):=hwbrk hW hge2 hnx hbk;exact .cT rfl (.exit fun _ _ hs=>hs.to ⟨g-1,hS⟩ (dn rfl) (jt rfl) rfl rfl)
    ·refine .al (.mv rfl<|.cm rfl rfl (EH (by omega))<|.nil) rfl ?_;exact .cF rfl (.skip fun _ _ hs=>hs.round (m:=g) ⟨(g-1,re+v1),hge2,hnx,by omega⟩ (by simp only;omega) (dn rfl) (jt rfl) rfl rfl)
  ·rintro⟨g,hst⟩;show Ok PP _ [(6,.int .i64 (k:Nat)),(7,dz v),(8,.int .i64 ((p+2:Nat))),(9,.own 200),(10,.own 63),(11,.int .i64 (i:Nat)),(13,.int .u64 (g:Nat))] [(200,.row 1 230 (bE us) (aO _)),(63,.row 1 230 (bE qs) (aO _))] _ _;have hgl:g<4294967296:=hst.lt;have hilv:i+v.length<us.length:=by rw[hvl'];exact cY
   have humax:us.length<=2199023255552:=by rw[hul];omega
   have hKt:=GQ us v g i hI.lu hvo hgl hilv humax;have htl:=vc us v g i;have htk:=y_ (us:=us) (v:=v) (t:=g) (i:=i) (by omega);have hto:=yZ (v:=v) (t:=g) (i:=i) hI.lu;refine .uB (ι:={s:List Nat×Nat//s.2=val (us.drop i)/V/\cW s.1/\s.1.length=us.length/\val (s.1.drop i)=val (us.drop i)%V/\s.1.take i=us.take i}) (fun s=>[(6,.int .i64 (k:Nat)),(7,dz v),(8,.int .i64 ((p+2:Nat))),(9,.own 200),(10,.own 63),(11,.int .i64 (i:Nat)),(13,.int .u64 (s.1.2:Nat))]) (fun s=>[(200,.row 1 230 (bE s.1.1) (aO _)),(63,.row 1 230 (bE qs) (aO _))]) ?_ ?_
   ·rcases pG.step hW hst with⟨b0,hq,hmod⟩|⟨b1,hq,hmod⟩
    ·rw[show(iD g v 0 0 (us.drop i) !=0)=false from by rw[b0];rfl]at hKt;rw[hvv]at hq hmod;refine .al (.mv rfl<|.mv rfl<|.mv rfl<|.mv rfl<|.DA (hl:=aO us) (hl':=aO (taken us v g i)) hKt rfl ⟨rfl,rfl,rfl,trivial⟩ rfl<|.nil) rfl ?_;exact .cF rfl (.skip fun _ _ hs=>hs.to ⟨(taken us v g i,g),hq,hto,htl,hmod,htk⟩ (dn rfl) (jt rfl) rfl rfl)
    ·rw[show(iD g v 0 0 (us.drop i) !=0)=true from by rw[b1];rfl]at hKt;rw[hvv]at hq hmod;have hgpos:0<g:=by rw[hq];exact Nat.succ_pos _
     have s5:pB .sub .u64 (g:Int) 1=some ((g-1:Nat):Int):=congrArg some (wrap_u64 (by omega) (by omega));have hKg:=Gf (taken us v g i) v i hto hvo (by rw[htl];exact hilv) (by rw[htl];exact humax);have hgk:=BZ (taken us v g i) v i;have hgt:=ze (us:=taken us v g i) (v:=v) (i:=i) (by omega);have hgo:=zq (v:=v) (i:=i) hto;refine .al (.mv rfl<|.mv rfl<|.mv rfl<|.mv rfl<|.DA (hl:=aO us) (hl':=aO (taken us v g i)) hKt rfl ⟨rfl,rfl,rfl,trivial⟩ rfl<|.nil) rfl ?_;refine .cT rfl ?_;refine .al (.mv rfl<|.ar rfl rfl s5<|.ao rfl<|.nil) rfl ?_;refine .region (.mv rfl<|.mv rfl<|.mv rfl<|.DA (hl:=aO (taken us v g i)) (hl':=aO (given (taken us v g i) v i)) hKg rfl ⟨rfl,rfl,trivial⟩ rfl<|.nil) rfl fun _ _ hs=>?_;exact hs.to ⟨(given (taken us v g i) v i,g-1),by simp only;rw[hq];rfl,hgo,by simp only;rw[hgk,htl],hmod,by simp only;rw[hgt,htk]⟩ (dn rfl) (jt rfl) rfl rfl
   ·rintro⟨⟨us',q⟩,hq,hlu',hlen',hmod,htk'⟩;simp only at hq hlu' hlen' hmod htk';show Ok PP _ [(6,.int .i64 (k:Nat)),(7,dz v),(8,.int .i64 ((p+2:Nat))),(9,.own 200),(10,.own 63),(11,.int .i64 (i:Nat)),(13,.int .u64 (q:Nat))] [(200,.row 1 230 (bE us') (aO _)),(63,.row 1 230 (bE qs) (aO _))] _ _;have hqB:q<4294967296:=by rw[hq,←hvv];exact hW.Jf
    have hVp:0<V:=by rw[←hvv];exact Nat.lt_of_le_of_lt (Nat.zero_le _) hW.less
    have hD:=hI.step hlu' hlen' hmod htk' hq hqB hVp (by omega);have hqrl:(bE qs).length=m*1:=by rw[bB,hql];omega
    have him:i<m:=by rw[←hql];exact hiq
    have hmx:m<9223372036854775808:=by omega
    have hix:i<9223372036854775808:=by omega
    refine .region (.mv rfl<|.mv rfl<|.mv rfl<|.cv rfl eB (fT hqB)<|.qH (n:=m) (m':=1) rfl rfl rfl av hqrl rfl rfl (by omega) (by omega)<|.AU rfl rfl rfl aP rfl rfl (by rw[hqrl];omega)<|.nil) rfl fun _ _ hs=>?_;refine Ok.on ?_ _ _ hs;refine .region (.mv rfl<|.ar rfl rfl (kf hix)<|.ao rfl<|.nil) rfl fun _ _ hs=>?_;exact hs.round (m:=i+1) ⟨(us',qs.set i q,i),hD⟩ (by simp) (dn rfl) ⟨⟨_,rfl,.refl _⟩,⟨_,rfl,.of_eq (dW (eS ..))⟩,trivial⟩ rfl rfl
end Go.Am
namespace Go.Am
open Go.RowKit
def sm(x:Nat):Prop:=bz x<=4398046511104
instance (x:Nat):Decidable (sm x):=inferInstanceAs (Decidable (bz x<=4398046511104))
theorem lK(x:Nat):(aA x).length<=bz x/32+1:=by
 refine eW ?_;have h1:=mF x;have h2:(2:Nat)^bz x<=2^(32*(bz x/32+1)):=Nat.pow_le_pow_right (by omega) (by omega);rw[Nat.pow_mul]at h2;exact Nat.lt_of_lt_of_le h1 h2
theorem EJ{x:Nat}(h:sm x):(aA x).length<=549755813888:=by
 have:=lK x;unfold sm at h;omega
theorem ga{x:Nat}(h:sm x):(aA x).length<=1099511627776:=by have:=EJ h;omega
def mV(n:Int):Option Nat:=bO (0<=n/\n<18446744073709551616) (some n.toNat)
theorem uG{a:Int}{r:Nat}(h:mV a=some r):aW PP 145 [] [D.int .u64 a] [] (aj r):=by
 obtain⟨⟨h0,h1⟩,h⟩:=ax h;injection h with h;subst h;have:=sP a.toNat (by omega);rw[Int.toNat_of_nonneg h0]at this;exact this.gen
def uS(a b:Nat):Option Nat:=bO (sm a/\sm b) (some (a+b))
theorem AF{a b r:Nat}(h:uS a b=some r):aW PP 212 [] [aj a,aj b] [] (aj r):=by
 obtain⟨⟨h0,h1⟩,h⟩:=ax h;injection h with h;subst h;exact(F3 a b (ga h0) (ga h1)).gen
def yx(a b:Nat):Option Nat:=bO (b<=a/\sm a) (some (a-b))
theorem Dd{a b r:Nat}(h:yx a b=some r):aW PP 215 [] [aj a,aj b] [] (aj r):=by
 obtain⟨⟨h0,h1⟩,h⟩:=ax h;injection h with h;subst h;exact(H4 a b h0 (ga h1)).gen
def p6(a b:Nat):Option Nat:=bO (sm a/\sm b) (some (a*b))
theorem s6{a b r:Nat}(h:p6 a b=some r):aW PP 150 [] [aj a,aj b] [] (aj r):=by
 obtain⟨⟨h0,h1⟩,h⟩:=ax h;injection h with h;subst h;exact(FP a b (ga h0) (ga h1)).gen
def vV(a b:Nat):Option Int:=bO (sm a/\sm b) (some (fR a b))
theorem AP{a b:Nat}{r:Int}(h:vV a b=some r):aW PP 224 [] [aj a,aj b] [] (D.int .i64 r):=by
 obtain⟨⟨h0,h1⟩,h⟩:=ax h;injection h with h;subst h;exact(DQ a b (ga h0) (ga h1)).gen
def yW(a:Nat):Option Int:=bO (sm a) (some (bz a:Int))
theorem Hh{a:Nat}{r:Int}(h:yW a=some r):aW PP 186 [] [aj a] [] (D.int .i64 r):=by
 obtain⟨h0,h⟩:=ax h;injection h with h;subst h;exact(GC a (ga h0)).gen
def mY(a:Nat):Option Int:=bO ((aA a).length<=2) (some (a:Int))
theorem wD{a:Nat}{r:Int}(h:mY a=some r):aW PP 185 [] [aj a] [] (D.int .u64 r):=by
 obtain⟨h0,h⟩:=ax h;injection h with h;subst h;exact(Es a h0).gen
def uX(a:Nat)(k:Int):Option Nat:=bO (sm a/\0<=k/\k<35184372088832) (some (a*2^k.toNat))
theorem Cc{a:Nat}{k:Int}{r:Nat}(h:uX a k=some r):aW PP 166 [] [aj a,D.int .i64 k] [] (aj r):=by
 obtain⟨⟨h0,h1,h2⟩,h⟩:=ax h;injection h with h;subst h;have:=Dr a k.toNat (ga h0) (by omega);rw[Int.toNat_of_nonneg h1]at this;exact this.gen
def kB(a b:Nat):Option (Nat×Nat):=bO (b≠0/\sm a/\sm b) (some (a/b,a%b))
theorem rO{a b q r:Nat}(h:kB a b=some (q,r)):aW PP 167 [] [aj a,aj b] [] (D.gV [aj q,aj r]):=by
 obtain⟨⟨h0,h1,h2⟩,h⟩:=ax h;cases h;have e1:(aA a).length<=549755813888:=by have:=lK a;unfold sm at h1;omega
 have e2:(aA b).length<=549755813888:=by have:=lK b;unfold sm at h2;omega
 exact(Il a b h0 e1 e2).gen
def wP(a:Nat)(d:Int):Option (Nat×Nat):=bO (sm a/\0<d/\d<4294967296) (some (a/d.toNat,a%d.toNat))
theorem EI{a q r:Nat}{d:Int}(h:wP a d=some (q,r)):aW PP 225 [] [aj a,D.int .u32 d] [] (D.gV [aj q,aj r]):=by
 obtain⟨⟨h0,h1,h2⟩,h⟩:=ax h;cases h;have:=Ah a d.toNat (by omega) (by omega) (ga h0);rw[Int.toNat_of_nonneg (by omega)]at this;exact this.gen
def Ay(a:Nat)(k:Int):Option Nat:=bO (sm a/\0<=k/\k<35184372088832) (some (a/2^k.toNat))
theorem HV{a:Nat}{k:Int}{r:Nat}(h:Ay a k=some r):aW PP 229 [] [aj a,D.int .i64 k] [] (aj r):=by
 obtain⟨⟨h0,h1,h2⟩,h⟩:=ax h;injection h with h;subst h;have:=FW a k.toNat (ga h0) (by omega);rw[Int.toNat_of_nonneg h1]at this;exact this.gen
instance (l:List UInt8):Decidable (uJ l):=inferInstanceAs (Decidable (∀b∈l,_))
def nU(s:List UInt8):Option Nat:=bO (s.length<=1000000/\uJ s) (some (ke s))
theorem zN{s:List UInt8}{r:Nat}(h:nU s=some r):aW PP 148 [] [cf s] [] (aj r):=by
 obtain⟨⟨h0,h1⟩,h⟩:=ax h;injection h with h;subst h;exact(Br ⟨s.toArray⟩ h0 h1).gen
theorem BU{k:IntKind}{n m:Int}(h:m≠0):pB .quo k n m=some (k.wrap (n.tdiv m)):=if_neg h
theorem A9{k:IntKind}{n m:Int}(h:m≠0):pB .rem k n m=some (n.tmod m):=if_neg h
section
variable {P:Program} {os:List Oper} {c:Ctx} {T T':List (Nat×D)} {H H':List (Nat×Hp)} {sps:List Spec}
variable {ops:Array Oper} {dst:Option Nat} {ty:TypeId} {pos:String} {aft:Array Edge}
theorem ai.yQ{t:TypeId}{x:Operand}{a:Nat}(hx:ev T x=some (aj a))(ht:isSlice P t=true)(hr:ai P ops c os (bg T dst (.int .i64 (aA a).length)) H sps T' H'):
  ai P ops c (⟨dst,.call {callee:=.builtin .len,args:=#[x],argTypes:=#[t]},ty,pos,aft,none⟩::os) T H (ps [(x,aj a)] (.int .i64 (aA a).length)::sps) T' H':=.ln (hl:=aO _) hx ht hr
theorem ai.Ik{t:TypeId}{x y:Operand}{a d:Nat}{k:IntKind}{z:Int}(hx:ev T x=some (aj a))(hy:ev T y=some (.int k z))(ht:sle P t=some 1)(h:ix (aA a) z=some d)
  (hr:ai P ops c os (bg T dst (.ptr [.int .u32 d] rfl)) H sps T' H'):
  ai P ops c (⟨dst,.indexAddr t x y,ty,pos,aft,none⟩::os) T H (ps [(x,aj a),(y,.int k z)] (.ptr [.int .u32 d] rfl)::sps) T' H':=
 .pV (hl:=aO _) hx hy ht (ag h).1 (by have:=cO h;have:=(ag h).1;omega) (bj (ag h).2) hr
def Ie(T:List (Nat×D)):List (Nat×Operand×D×List D)->Prop
 |[]=>True
 |(_,x,d,_)::q=>ev T x=some d/\Ie T q
theorem sL{T:List (Nat×D)}:∀{q:List (Nat×Operand×D×List D)},Ie T q->∀x∈qs q,ev T x.1=some x.2
 |[],_,x,hx=>by cases hx
 |(o,y,d,m)::q,h,x,hx=>by
  simp only[qs,List.map_cons,List.mem_cons]at hx;rcases hx with rfl|hx
  ·exact h.1
  ·exact sL h.2 x hx
theorem ai.pC{t:TypeId}{parts:List (Nat×Operand)}{z:List D}{pl:List (Nat×Nat)}(l:List D)(q:List (Nat×Operand×D×List D))(hz:Bu P t=some z)(hp:EV P t=some pl)(hq:iQ pl z.length parts q)(he:Ie T q)(hle:si (over z q) l)
  (hr:ai P ops c os (bg T dst (.agg l)) H sps T' H'):
  ai P ops c (⟨dst,.build t parts.toArray,ty,pos,aft,none⟩::os) T H (ps (qs q) (.agg l)::sps) T' H':=.JP q hz hp hq (sL he) hle hr
theorem ai.yO{α:Type}{e:ak α}{t te:TypeId}{parts:List (Nat×Operand)}{m bt n:Nat}{z:List D}(xs:List α)(q:List (Nat×Operand×D×List D))(hm:oj P t=some (te,m,bt,z))(hmn:m=e.n)(hs:Nat.ble (n*m) 16777216=true)(hn0:Nat.blt 0 n=true)(hq:iQ (B7 m 0 n) (n*m) parts q)(he:Ie T q)
  (hle:over (List.replicate n z).flatten q=flat e xs)(hln:xs.length=n)
  (hr:ai P ops c os (bg T dst (an e xs)) H sps T' H'):
  ai P ops c (⟨dst,.buildSlice t n parts.toArray,ty,pos,aft,none⟩::os) T H (ps (qs q) (an e xs)::sps) T' H':=.JJ xs q hm hmn hs hn0 hq (sL he) hle hln hr
theorem ai.Jy{α:Type}{e:ak α}{t te:TypeId}{r:Nat}{parts:List (Nat×Operand)}{m bt n:Nat}{z:List D}(xs:List α)(q:List (Nat×Operand×D×List D))(hm:oj P t=some (te,m,bt,z))(hmn:m=e.n)(hs:Nat.ble (n*m) 16777216=true)(hn0:Nat.blt 0 n=true)(hq:iQ (B7 m 0 n) (n*m) parts q)(he:Ie T q)
  (hle:over (List.replicate n z).flatten q=flat e xs)(hln:xs.length=n)(hf:af H r=none)
  (hr:ai P ops c os ((r,.own r)::T) ((r,aR e te xs)::H) sps T' H'):
  ai P ops c (⟨some r,.buildSlice t n parts.toArray,ty,pos,aft,none⟩::os) T H (rws (qs q) r (aR e te xs)::sps) T' H':=.Js xs q hm hmn hs hn0 hq (sL he) hle hln hf hr
end
end Go.Am
namespace Go.Am
open Go.RowKit
set_option maxRecDepth 100000
noncomputable section
def fJ(v18:Int)(v19:Int):Option (St (Int×Int) Int):=(if(v19 !=0)=true then bO ((v19:Int)≠0) (some (St.next (v19,(Int.tmod v18 v19))))else some (St.done v18))
def dm(v3:Nat)(v4:Nat):Option (St (Nat×Nat) (Ex Nat Nat)):=(if(decide (((aA v4).length:Int)>0))=true then((if(decide (((aA v3).length:Int)<=2))=true then(if(decide (((aA v4).length:Int)<=2))=true then(mY v3).bind fun v14=>(mY v4).bind fun v16=>(Loop (fun(s:Int×Int)=>fJ s.1 s.2) (v14,v16)).bind fun v26=>(mV v26).bind fun v27=>some (Ex.ret v27)else some (Ex.cp ()))else some (Ex.cp ()))).bind fun o10=>(match o10 with|Ex.cp ()=>(kB v3 v4).bind fun(v29,v30)=>some (St.next (v4,v30))|Ex.ret r32=>some (St.done (Ex.ret r32)))else some (St.done (Ex.cp v3)))
def oB(a1:Nat)(a2:Nat):Option Nat:=(Loop (fun(s:Nat×Nat)=>dm s.1 s.2) (a1,a2)).bind fun o5=>(match o5 with|Ex.cp v33=>some v33|Ex.ret r34=>some r34)
theorem AY{a1:Nat}{a2:Nat}{r35:Nat}(h:oB a1 a2=some r35):aW PP 214 [] [aj a1,aj a2] [] (aj r35):=by
 unfold oB at h;refine .of Go.Proofs.Tryz.func214 rfl (by kernel_rfl) rfl rfl rfl rfl rfl rfl (fun A w0 L b=>?_);show Ok PP _ [(0,aj a1),(1,aj a2)] [] _ _;refine .al (.ao rfl<|.nil) rfl ?_;obtain⟨o5,hl6,h⟩:=bind_some h;refine .cz (fun i=>o5=Ex.cp i) (fun(i:Nat)=>[(0,aj i)]) (fun(i:Nat)=>[]) ?_ ?_
 ·have ho1:=h;refine .block (.cc (fun(s:Nat×Nat)=>[(0,aj s.1),(1,aj s.2)]) (fun(s:Nat×Nat)=>[]) hl6 (.of rfl) trivial rfl rfl ?_);rintro⟨v3,v4⟩ st7 hb8;have h:dm v3 v4=some st7:=hb8;unfold dm at h
  try dsimp only
  refine .sq ?_;refine .al (.mv rfl<|.yQ rfl au<|.cm rfl rfl rfl<|.nil) rfl ?_;by_cases c9:(decide (((aA v4).length:Int)>0))=true
  ·replace h:=ab c9 h;refine .cq rfl c9 ?_;refine .skip (Ok.on ?_);refine .block ?_;obtain⟨o10,hp11,h⟩:=bind_some h;refine .cz (fun i=>o10=Ex.cp i) (fun(i:Unit)=>[(0,aj v3),(1,aj v4)]) (fun(i:Unit)=>[]) ?_ ?_
   ·have ho2:=h;have h:=hp11;by_cases c12:(decide (((aA v3).length:Int)<=2))=true
    ·replace h:=ab c12 h;refine .al (.mv rfl<|.yQ rfl au<|.cm rfl rfl rfl<|.mv rfl<|.gy c12<|.mv rfl<|.gy c12<|.yQ rfl au<|.gy c12<|.cm rfl rfl rfl<|.bm rfl c12 rfl<|.nil) rfl ?_;by_cases c13:(decide (((aA v4).length:Int)<=2))=true
     ·replace h:=ab c13 h;refine .cq rfl c13 ?_;obtain⟨v14,e15,h⟩:=bind_some h;obtain⟨v16,e17,h⟩:=bind_some h;refine .al (.mv rfl<|.ah (wD e15) ⟨rfl,trivial⟩ trivial trivial<|.mv rfl<|.ah (wD e17) ⟨rfl,trivial⟩ trivial trivial<|.ao rfl<|.ao rfl<|.nil) rfl ?_;obtain⟨v26,hl21,h⟩:=bind_some h;refine .cz (fun i=>v26=i) (fun(i:Int)=>[(5,D.int .u64 i)]) (fun(i:Int)=>[]) ?_ ?_
      ·have ho3:=h;refine .block (.cc (fun(s:Int×Int)=>[(5,D.int .u64 s.1),(6,D.int .u64 s.2)]) (fun(s:Int×Int)=>[]) hl21 (.of rfl) trivial rfl rfl ?_);rintro⟨v18,v19⟩ st22 hb23;have h:fJ v18 v19=some st22:=hb23;unfold fJ at h
       try dsimp only
       refine .sq ?_;refine .al (.mv rfl<|.cm rfl rfl rfl<|.nil) rfl ?_;by_cases c24:(v19 !=0)=true
       ·replace h:=ab c24 h;refine .cq rfl c24 ?_;refine .skip (Ok.on ?_);refine .block ?_;obtain⟨k25,h⟩:=ax h;refine .de cn (.mv rfl<|.mv rfl<|.mv rfl<|.ar rfl rfl (A9 k25)<|.ao rfl<|.ao rfl<|.nil) rfl (by kernel_rfl) (fun _ _ hs=>⟨(v19,(Int.tmod v18 v19)),(sj h),hs.sub (.of rfl) trivial rfl rfl⟩)
       ·replace h:=ae c24 h;refine .cA rfl c24 ?_;refine .exit (fun _ _ hs=>⟨_,(sj h),fun e=>⟨v18,e.symm,hs.sub (.of rfl) trivial rfl rfl⟩⟩)
      ·rintro _ rfl
       try dsimp only
       obtain⟨v27,e28,h⟩:=bind_some h;refine .al (.mv rfl<|.ah (uG e28) ⟨rfl,trivial⟩ trivial trivial<|.ao rfl<|.nil) rfl ?_;cases h;have h:=ho2;refine .aN (Hi:=[]) (Ho:=[]) (b:=b) (fn:=Go.Proofs.Tryz.f214) (d:=aj v27) (fun _ _ hb=>by exact⟨_,(sj h),fun e=>by subst e;have h:=ho1;cases h;exact hb⟩) rfl (.t1 (.tmp rfl)) (.refl _) trivial trivial
     ·replace h:=ae c13 h;refine .cA rfl c13 ?_;refine .skip (fun _ _ hs=>⟨(),(sj h),hs.sub (.of rfl) trivial rfl rfl⟩)
    ·replace h:=ae c12 h;refine .al (.mv rfl<|.yQ rfl au<|.cm rfl rfl rfl<|.mv rfl<|.gm c12<|.gm c12<|.gm c12<|.bh rfl c12 rfl<|.nil) rfl ?_;refine .cA rfl (by decide) ?_;refine .skip (fun _ _ hs=>⟨(),(sj h),hs.sub (.of rfl) trivial rfl rfl⟩)
   ·rintro⟨⟩ rfl
    try dsimp only
    obtain⟨⟨v29,v30⟩,e31,h⟩:=bind_some h;refine .al (.mv rfl<|.mv rfl<|.ah (rO e31) ⟨rfl,rfl,trivial⟩ trivial trivial<|.mv rfl<|.ext rfl rfl<|.ext rfl rfl<|.ao rfl<|.ao rfl<|.nil) rfl ?_;refine .region (.mv rfl<|.mv rfl<|.ao rfl<|.ao rfl<|.nil) rfl (fun _ _ hs=>⟨(v4,v30),(sj h),hs.sub (.of rfl) trivial rfl rfl⟩)
  ·replace h:=ae c9 h;refine .cA rfl c9 ?_;refine .exit (fun _ _ hs=>⟨_,(sj h),fun e=>⟨v3,e.symm,hs.sub (.of rfl) trivial rfl rfl⟩⟩)
 ·rintro v33 rfl
  try dsimp only
  refine .al (.mv rfl<|.ao rfl<|.nil) rfl ?_;cases h;refine .aN (fun _ _ hb=>hb) rfl (.t1 (.tmp rfl)) (.refl _) trivial trivial
def hZ(a1:Nat)(v9:Nat):Option (St Nat Nat):=(kB a1 v9).bind fun(v14,v15)=>(uS v9 v14).bind fun v17=>(Ay v17 1).bind fun v19=>(vV v19 v9).bind fun v21=>(if(decide (v21>=0))=true then some (St.done v9)else some (St.next v19))
def m5(a1:Nat):Option Nat:=(if(((aA a1).length:Int)==0)=true then some 0 else(mV 1).bind fun v3=>(yW a1).bind fun v5=>(uX v3 (IntKind.i64.wrap (Int.tdiv (IntKind.i64.wrap (v5+1)) 2))).bind fun v7=>(Loop (fun(s:Nat)=>hZ a1 s) v7).bind fun r24=>some r24)
theorem zh{a1:Nat}{r25:Nat}(h:m5 a1=some r25):aW PP 170 [] [aj a1] [] (aj r25):=by
 unfold m5 at h;refine .of Go.Proofs.Tryz.func170 rfl (by kernel_rfl) rfl rfl rfl rfl rfl rfl (fun A w0 L b=>?_);show Ok PP _ [(0,aj a1)] [] _ _;refine .al (.ao rfl<|.nil) rfl ?_;refine .sq ?_;refine .al (.mv rfl<|.yQ rfl au<|.cm rfl rfl rfl<|.nil) rfl ?_;by_cases c2:(((aA a1).length:Int)==0)=true
 ·replace h:=ab c2 h;refine .cq rfl c2 ?_;refine .al (.ao rfl<|.nil) rfl ?_;cases h;refine .aN (fun _ _ hb=>hb) rfl (.t1 (.tmp rfl)) (aV) trivial trivial
 ·replace h:=ae c2 h;refine .cA rfl c2 ?_;refine .skip (Ok.on ?_);obtain⟨v3,e4,h⟩:=bind_some h;obtain⟨v5,e6,h⟩:=bind_some h;obtain⟨v7,e8,h⟩:=bind_some h;refine .al (.ah (uG e4) ⟨rfl,trivial⟩ trivial trivial<|.mv rfl<|.ah (Hh e6) ⟨rfl,trivial⟩ trivial trivial<|.ar rfl rfl rfl<|.ar rfl rfl (BU (by decide))<|.ah (Cc e8) ⟨rfl,rfl,trivial⟩ trivial trivial<|.ao rfl<|.nil) rfl ?_;obtain⟨o10,hl11,h⟩:=bind_some h;have ho1:=h;refine .block (.cc (fun(s:Nat)=>[(0,aj a1),(3,aj s)]) (fun(s:Nat)=>[]) hl11 (.of rfl) trivial rfl rfl ?_);rintro v9 st12 hb13;have h:hZ a1 v9=some st12:=hb13;unfold hZ at h
  try dsimp only
  refine .block ?_;obtain⟨⟨v14,v15⟩,e16,h⟩:=bind_some h;refine .al (.mv rfl<|.mv rfl<|.ah (rO e16) ⟨rfl,rfl,trivial⟩ trivial trivial<|.mv rfl<|.ext rfl rfl<|.ext rfl rfl<|.ao rfl<|.ao rfl<|.nil) rfl ?_;obtain⟨v17,e18,h⟩:=bind_some h;obtain⟨v19,e20,h⟩:=bind_some h;refine .al (.mv rfl<|.mv rfl<|.ah (AF e18) ⟨rfl,rfl,trivial⟩ trivial trivial<|.ah (HV e20) ⟨rfl,rfl,trivial⟩ trivial trivial<|.ao rfl<|.nil) rfl ?_;refine .sq ?_;obtain⟨v21,e22,h⟩:=bind_some h;refine .al (.mv rfl<|.mv rfl<|.ah (AP e22) ⟨rfl,rfl,trivial⟩ trivial trivial<|.cm rfl rfl rfl<|.nil) rfl ?_;by_cases c23:(decide (v21>=0))=true
  ·replace h:=ab c23 h;refine .cq rfl c23 ?_;refine .al (.mv rfl<|.ao rfl<|.nil) rfl ?_;refine .aN (Hi:=[]) (Ho:=[]) (b:=b) (fn:=Go.Proofs.Tryz.f170) (d:=aj v9) (fun _ _ hb=>by exact⟨_,(sj h),fun e=>by subst e;have h:=ho1;cases h;exact hb⟩) rfl (.t1 (.tmp rfl)) (.refl _) trivial trivial
  ·replace h:=ae c23 h;refine .cA rfl c23 ?_;refine .skip (Ok.on ?_);refine .region (.mv rfl<|.ao rfl<|.nil) rfl (fun _ _ hs=>⟨v19,(sj h),hs.sub (.of rfl) trivial rfl rfl⟩)
def eE(v2:Int)(v3:Int)(v4:List Int):Option (St (Int×Int×(List Int)) (List Int)):=(if(decide (v2<v3))=true then(ix v4 v3).bind fun v10=>(ix v4 v2).bind fun v12=>(ix (v4.set v2.toNat v10) v3).bind fun v14=>some (St.next ((IntKind.i64.wrap (v2+1)),(IntKind.i64.wrap (v3-1)),((v4.set v2.toNat v10).set v3.toNat v12)))else some (St.done v4))
def fL(a1:List Int):Option (List Int):=(Loop (fun(s:Int×Int×(List Int))=>eE s.1 s.2.1 s.2.2) (0,(IntKind.i64.wrap ((a1.length:Int)-1)),a1)).bind fun v16=>some v16
theorem r_{a1:List Int}{r17:List Int}(h:fL a1=some r17):aW PP 230 [(0,aR (ak.int .u8) 5 a1)] [D.own 0] [(0,aR (ak.int .u8) 5 r17)] (D.gV []):=by
 unfold fL at h;refine .of Go.Proofs.Tryz.func230 rfl (by kernel_rfl) rfl rfl rfl rfl rfl rfl (fun A w0 L b=>?_);show Ok PP _ [(0,D.own 0),(1000000,D.pinned 0 (b 0))] [(0,aR (ak.int .u8) 5 a1)] _ _;refine .sl 0 rfl rfl rfl ?_;refine .al (.mv rfl<|.Hc rfl BM<|.ar rfl rfl rfl<|.ao rfl<|.ao rfl<|.nil) rfl ?_;obtain⟨o5,hl6,h⟩:=bind_some h;have ho1:=h;refine .block (.cc (fun(s:Int×Int×(List Int))=>[(0,D.own 0),(2,D.int .i64 s.1),(3,D.int .i64 s.2.1),(1000000,D.pinned 0 (b 0))]) (fun(s:Int×Int×(List Int))=>[(0,aR (ak.int .u8) 5 s.2.2)]) hl6 (.p rfl .sl<|.k rfl<|.k rfl<|.k rfl<|trivial) (.of rfl) rfl rfl ?_);rintro⟨v2,v3,v4⟩ st7 hb8;have h:eE v2 v3 v4=some st7:=hb8;unfold eE at h
 try dsimp only
 refine .sq ?_;refine .al (.mv rfl<|.mv rfl<|.cm rfl rfl rfl<|.nil) rfl ?_;by_cases c9:(decide (v2<v3))=true
 ·replace h:=ab c9 h;refine .cq rfl c9 ?_;refine .skip (Ok.on ?_);refine .sq ?_;refine .block ?_;refine .sl 0 rfl rfl rfl ?_;obtain⟨v10,e11,h⟩:=bind_some h;obtain⟨v12,e13,h⟩:=bind_some h;obtain⟨v14,e15,h⟩:=bind_some h;refine .de cn (.mv rfl<|.mv rfl<|.mv rfl<|.mv rfl<|.mv rfl<|.mv rfl<|.pF rfl rfl om (ag e11).1 (by have:=jh e11;simpa using this)<|.ID rfl rfl nB rfl (ag e11).2 rfl<|.mv rfl<|.mv rfl<|.pF rfl rfl om (ag e13).1 (by have:=jh e13;simpa using this)<|.ID rfl rfl nB rfl (ag e13).2 rfl<|.pF rfl rfl om (ag e13).1 (by have:=jh e13;simpa using this)<|.Fm v10 rfl rfl rfl nB rfl rfl rfl rfl (cO e13)<|.pF rfl rfl om (ag e15).1 (by have:=jh e15;simpa using this)<|.Fm v12 rfl rfl rfl nB rfl rfl rfl rfl (cO e15)<|.nil) rfl (by kernel_rfl) (Ok.on ?_);refine .region (.mv rfl<|.ar rfl rfl rfl<|.mv rfl<|.ar rfl rfl rfl<|.ao rfl<|.ao rfl<|.nil) rfl (fun _ _ hs=>⟨((IntKind.i64.wrap (v2+1)),(IntKind.i64.wrap (v3-1)),((v4.set v2.toNat v10).set v3.toNat v12)),(sj h),hs.sub (.p rfl .sl<|.k rfl<|.k rfl<|.k rfl<|trivial) (.of rfl) rfl rfl⟩)
 ·replace h:=ae c9 h;refine .cA rfl c9 ?_;refine .exit (fun a w hs=>⟨_,(sj h),fun e=>by subst e;have h:=ho1;cases h;exact aZ (hs.H_ rfl .nil (.refl _) (.of rfl) (.of rfl))⟩)
def eC(v10:Nat)(v17:Int)(v18:Int)(v19:List Int):Option (St (Int×Int×(List Int)) (List Int)):=((if(decide (v18<9))=true then(if(decide (((aA v10).length:Int)>0))=true then some (Ex.cp ())else(if(decide (v17>0))=true then some (Ex.cp ())else some (Ex.ret ())))else some (Ex.ret ()))).bind fun o24=>(match o24 with|Ex.cp ()=>bO ((v19.length+([(IntKind.u8.wrap (IntKind.u64.wrap (48+(Int.tmod v17 10))))]).length)*1<=140737488355328/\v19.length+([(IntKind.u8.wrap (IntKind.u64.wrap (48+(Int.tmod v17 10))))]).length<=9223372036854775807) (some (St.next ((IntKind.u64.wrap (Int.tdiv v17 10)),(IntKind.i64.wrap (v18+1)),(v19++[(IntKind.u8.wrap (IntKind.u64.wrap (48+(Int.tmod v17 10))))]))))|Ex.ret ()=>some (St.done v19))
def et(v3:Nat)(v4:List Int):Option (St (Nat×(List Int)) (List Int)):=(if(decide (((aA v3).length:Int)>0))=true then(wP v3 1000000000).bind fun(v10,v11)=>(mY v11).bind fun v13=>((Loop (fun(s:Int×Int×(List Int))=>eC v10 s.1 s.2.1 s.2.2) (v13,0,v4)).bind fun v30=>some (v30)).bind fun v31=>some (St.next (v10,v31))else some (St.done v4))
def jK(a1:Nat):Option (List UInt8):=(if(((aA a1).length:Int)==0)=true then some ([48]:List UInt8)else(Loop (fun(s:Nat×(List Int))=>et s.1 s.2) (a1,[])).bind fun v32=>(fL v32).bind fun v33=>some (bytesOf v33))
theorem uP{a1:Nat}{r35:List UInt8}(h:jK a1=some r35):aW PP 176 [] [aj a1] [] (cf r35):=by
 unfold jK at h;refine .of Go.Proofs.Tryz.func176 rfl (by kernel_rfl) rfl rfl rfl rfl rfl rfl (fun A w0 L b=>?_);show Ok PP _ [(0,aj a1)] [] _ _;refine .al (.ao rfl<|.nil) rfl ?_;refine .sq ?_;refine .al (.mv rfl<|.yQ rfl au<|.cm rfl rfl rfl<|.nil) rfl ?_;by_cases c2:(((aA a1).length:Int)==0)=true
 ·replace h:=ab c2 h;refine .cq rfl c2 ?_;refine .al (.ao rfl<|.nil) rfl ?_;cases h;refine .aN (fun _ _ hb=>hb) rfl (.t1 (.tmp rfl)) (.refl _) trivial trivial
 ·replace h:=ae c2 h;refine .cA rfl c2 ?_;refine .skip (Ok.on ?_);refine .al (.ao rfl<|.nil) rfl ?_;refine .gT (ak.int .u8) 3 2000003 5 rfl rfl ?_;obtain⟨v32,hl6,h⟩:=bind_some h;refine .cz (fun i=>v32=i) (fun(i:(List Int))=>[(3,D.own 2000003)]) (fun(i:(List Int))=>[(2000003,aR (ak.int .u8) 5 i)]) ?_ ?_
  ·have ho1:=h;refine .block (.cc (fun(s:Nat×(List Int))=>[(0,aj s.1),(3,D.own 2000003)]) (fun(s:Nat×(List Int))=>[(2000003,aR (ak.int .u8) 5 s.2)]) hl6 (.of rfl) (.of rfl) rfl rfl ?_);rintro⟨v3,v4⟩ st7 hb8;have h:et v3 v4=some st7:=hb8;unfold et at h
   try dsimp only
   refine .sq ?_;refine .al (.mv rfl<|.yQ rfl au<|.cm rfl rfl rfl<|.nil) rfl ?_;by_cases c9:(decide (((aA v3).length:Int)>0))=true
   ·replace h:=ab c9 h;refine .cq rfl c9 ?_;refine .skip (Ok.on ?_);refine .block ?_;obtain⟨⟨v10,v11⟩,e12,h⟩:=bind_some h;refine .al (.mv rfl<|.ah (EI e12) ⟨rfl,rfl,trivial⟩ trivial trivial<|.mv rfl<|.ext rfl rfl<|.ext rfl rfl<|.ao rfl<|.ao rfl<|.nil) rfl ?_;obtain⟨v13,e14,h⟩:=bind_some h;refine .al (.mv rfl<|.ah (wD e14) ⟨rfl,trivial⟩ trivial trivial<|.ao rfl<|.nil) rfl ?_;obtain⟨v31,hp16,h⟩:=bind_some h;refine .cz (fun i=>v31=i) (fun(i:(List Int))=>[(3,D.own 2000003),(4,aj v10)]) (fun(i:(List Int))=>[(2000003,aR (ak.int .u8) 5 i)]) ?_ ?_
    ·have ho2:=h;have h:=hp16;refine .al (.ao rfl<|.nil) rfl ?_;obtain⟨o20,hl21,h⟩:=bind_some h;have ho3:=h;refine .block (.cc (fun(s:Int×Int×(List Int))=>[(3,D.own 2000003),(4,aj v10),(6,D.int .u64 s.1),(7,D.int .i64 s.2.1)]) (fun(s:Int×Int×(List Int))=>[(2000003,aR (ak.int .u8) 5 s.2.2)]) hl21 (.of rfl) (.of rfl) rfl rfl ?_);rintro⟨v17,v18,v19⟩ st22 hb23;have h:eC v10 v17 v18 v19=some st22:=hb23;unfold eC at h
     try dsimp only
     obtain⟨o24,hp25,h⟩:=bind_some h;refine .cz (fun i=>o24=Ex.cp i) (fun(i:Unit)=>[(3,D.own 2000003),(4,aj v10),(6,D.int .u64 v17),(7,D.int .i64 v18)]) (fun(i:Unit)=>[(2000003,aR (ak.int .u8) 5 v19)]) ?_ ?_
     ·have ho4:=h;have h:=hp25;by_cases c26:(decide (v18<9))=true
      ·replace h:=ab c26 h;by_cases c27:(decide (((aA v10).length:Int)>0))=true
       ·replace h:=ab c27 h;refine .al (.mv rfl<|.cm rfl rfl rfl<|.mv rfl<|.gy c26<|.mv rfl<|.gy c26<|.yQ rfl au<|.gy c26<|.cm rfl rfl rfl<|.gy c26<|.mv rfl<|.gk c27<|.gk c27<|.gy c26<|.bm rfl c27 rfl<|.bm rfl c26 rfl<|.nil) rfl ?_;refine .cq rfl rfl ?_;refine .skip (fun _ _ hs=>⟨(),(sj h),hs.sub (.of rfl) (.of rfl) rfl rfl⟩)
       ·replace h:=ae c27 h;refine .al (.mv rfl<|.cm rfl rfl rfl<|.mv rfl<|.gy c26<|.mv rfl<|.gy c26<|.yQ rfl au<|.gy c26<|.cm rfl rfl rfl<|.gy c26<|.mv rfl<|.gz c27<|.mv rfl<|.gz c27<|.cm rfl rfl rfl<|.gy c26<|.bh rfl c27 rfl<|.bm rfl c26 rfl<|.nil) rfl ?_;by_cases c28:(decide (v17>0))=true
        ·replace h:=ab c28 h;refine .cq rfl c28 ?_;refine .skip (fun _ _ hs=>⟨(),(sj h),hs.sub (.of rfl) (.of rfl) rfl rfl⟩)
        ·replace h:=ae c28 h;refine .cA rfl c28 ?_;cases h;have h:=ho4;refine .exit (fun a w hs=>⟨_,(sj h),fun e=>by subst e;have h:=ho3;exact aZ (⟨v19,(sj h),hs.sub (.of rfl) (.of rfl) rfl rfl⟩)⟩)
      ·replace h:=ae c26 h;refine .al (.mv rfl<|.cm rfl rfl rfl<|.mv rfl<|.gm c26<|.gm c26<|.gm c26<|.gm c26<|.gu<|.gu<|.gm c26<|.bh rfl c26 rfl<|.nil) rfl ?_;refine .cA rfl (by decide) ?_;cases h;have h:=ho4;refine .exit (fun a w hs=>⟨_,(sj h),fun e=>by subst e;have h:=ho3;exact aZ (⟨v19,(sj h),hs.sub (.of rfl) (.of rfl) rfl rfl⟩)⟩)
     ·rintro⟨⟩ rfl
      try dsimp only
      refine .sq ?_;refine .block ?_;refine .sl 3 rfl rfl rfl ?_;obtain⟨k29,h⟩:=ax h;refine .al (.mv rfl<|.mv rfl<|.ar rfl rfl (A9 (by decide))<|.ar rfl rfl rfl<|.cv rfl sa rfl<|.yO (e:=(ak.int .u8)) [(IntKind.u8.wrap (IntKind.u64.wrap (48+(Int.tmod v17 10))))] [(0,_,D.int .u8 (IntKind.u8.wrap (IntKind.u64.wrap (48+(Int.tmod v17 10)))),[D.int .u8 (IntKind.u8.wrap (IntKind.u64.wrap (48+(Int.tmod v17 10))))])] vg rfl rfl rfl ⟨rfl,rfl,.one rfl,rfl,trivial⟩ ⟨rfl,trivial⟩ rfl rfl<|.xi (ys:=[(IntKind.u8.wrap (IntKind.u64.wrap (48+(Int.tmod v17 10))))]) rfl .sl rfl (.refl _) rfl vg rfl k29.1 k29.2 rfl<|.ao rfl<|.nil) rfl ?_;refine .region (.mv rfl<|.ar rfl rfl (BU (by decide))<|.ao rfl<|.nil) rfl (Ok.on ?_);refine .region (.mv rfl<|.ar rfl rfl rfl<|.ao rfl<|.nil) rfl (fun _ _ hs=>⟨((IntKind.u64.wrap (Int.tdiv v17 10)),(IntKind.i64.wrap (v18+1)),(v19++[(IntKind.u8.wrap (IntKind.u64.wrap (48+(Int.tmod v17 10))))])),(sj h),hs.l7 (fun r=>match r with|2000003=>40|r=>r) (.p rfl (.own (r:=2000003))<|.r rfl rfl<|.r rfl rfl<|.r rfl rfl<|trivial) (.r rfl rfl trivial) rfl rfl rfl⟩)
    ·rintro _ rfl
     try dsimp only
     refine .region (.mv rfl<|.ao rfl<|.nil) rfl (fun _ _ hs=>⟨(v10,v31),(sj h),hs.sub (.of rfl) (.of rfl) rfl rfl⟩)
   ·replace h:=ae c9 h;refine .cA rfl c9 ?_;refine .exit (fun _ _ hs=>⟨_,(sj h),fun e=>⟨v4,e.symm,hs.sub (.of rfl) (.of rfl) rfl rfl⟩⟩)
  ·rintro _ rfl
   try dsimp only
   refine .sl 3 rfl rfl rfl ?_;obtain⟨v33,e34,h⟩:=bind_some h;refine .al (.mv rfl<|.ah (Hi:=[(2000003,aR (ak.int .u8) 5 v32)]) (Ho:=[(2000003,aR (ak.int .u8) 5 v33)]) (d:=D.gV []) (ds:=[D.sl 2000003 v32.length]) (.B5 (r_ e34) (fun r=>match r with|0=>2000003|r=>r) (fun r=>match r with|2000003=>0|r=>r) rfl (.r rfl rfl trivial) rfl ⟨.GD (r:=0),trivial⟩ (.r rfl rfl trivial) rfl (.refl rfl) rfl rfl rfl rfl rfl) ⟨rfl,trivial⟩ ⟨rfl,trivial⟩ trivial<|.nil) rfl ?_;refine .uF 3 (.own 2000003) rfl .sl ?_;refine .j9 3 rfl rfl rfl ?_;refine .al (.mv rfl<|.JR rfl (by kernel_rfl)<|.ao rfl<|.nil) rfl ?_;cases h;refine .aN (fun _ _ hb=>hb) rfl (.t1 (.tmp rfl)) (.refl _) trivial trivial
end
end Go.Am
namespace Go.Am
open Go.RowKit
theorem lN{x:Nat}:(aA x).length=0↔x=0:=by
 constructor
 ·intro h;apply Classical.byContradiction;intro h0;have:=cM h0;omega
 ·rintro rfl;rw[cS];rfl
theorem iW{x:Nat}:(aA x).length<=2↔x<18446744073709551616:=by
 constructor
 ·intro h;have h1:=lI (x:=x);have h2:(4294967296:Nat)^(aA x).length<=4294967296^2:=Nat.pow_le_pow_right (by omega) h;have:(4294967296:Nat)^2=18446744073709551616:=by decide
  omega
 ·exact fun h=>eW (n:=2) h
theorem da{x y:Nat}(h:x<=y):bz x<=bz y:=by
 apply dS;exact Nat.lt_of_le_of_lt h (mF y)
theorem nn{x y:Nat}(h:x<=y)(hy:sm y):sm x:=Nat.le_trans (da h) hy
theorem oY{x n:Nat}(h:bz x<=n):x<2^n:=Nat.lt_of_lt_of_le (mF x) (Nat.pow_le_pow_right (by omega) h)
theorem kG{x:Nat}(h:x<18446744073709551616):sm x:=by
 have:bz x<=64:=dS (n:=64) h;unfold sm;omega
theorem cG{α:Type}{p:Prop}[Decidable p]{x y:Option α}(hp:p)(h:x=y):bO p x=y:=by rw[aG hp,h]
theorem kc{n:Nat}(h:n<18446744073709551616):mV (n:Int)=some n:=cG ⟨by omega,by omega⟩ rfl
theorem pj{x:Nat}(h:x<18446744073709551616):mY x=some (x:Int):=cG (iW.2 h) rfl
theorem qk{a b:Nat}(h:sm a)(k:sm b):uS a b=some (a+b):=cG ⟨h,k⟩ rfl
theorem sU{a b:Nat}(h:b<=a)(k:sm a):yx a b=some (a-b):=cG ⟨h,k⟩ rfl
theorem kW{a b:Nat}(h:sm a)(k:sm b):p6 a b=some (a*b):=cG ⟨h,k⟩ rfl
theorem pU{a b:Nat}(h:sm a)(k:sm b):vV a b=some (fR a b):=cG ⟨h,k⟩ rfl
theorem BN{a:Nat}(h:sm a):yW a=some (bz a:Int):=cG h rfl
theorem iR{a b:Nat}(hb:b≠0)(h:sm a)(k:sm b):kB a b=some (a/b,a%b):=cG ⟨hb,h,k⟩ rfl
theorem vu(x y:Nat):Loop (fun(s:Int×Int)=>fJ s.1 s.2) ((x:Int),(y:Int))=some ((Nat.gcd x y:Nat):Int):=by
 obtain⟨r,hr,rfl⟩:=bZ (body:=fun(s:Int×Int)=>fJ s.1 s.2) ((x:Int),(y:Int)) (fun s=>∃a b:Nat,s=((a:Int),(b:Int))/\Nat.gcd a b=Nat.gcd x y) (fun s=>s.2.toNat) (fun r=>r=((Nat.gcd x y:Nat):Int)) ⟨x,y,rfl,rfl⟩ (by
  rintro s ⟨a,b,rfl,hg⟩;simp only[fJ];by_cases hb:b=0
  ·right
   subst hb;rw[Nat.gcd_zero_right]at hg;exact⟨(a:Int),by simp,by rw[hg]⟩
  ·left
   refine⟨((b:Int),((a%b:Nat):Int)),?_,⟨b,a%b,rfl,?_⟩,?_⟩
   ·have h1:((b:Int) !=0)=true:=by simp;omega
    rw[if_pos h1];exact cG (by omega) rfl
   ·rw[←hg,Nat.gcd_comm a b,Nat.gcd_rec b a,Nat.gcd_comm]
   ·simp only[Int.toNat_natCast];exact Nat.mod_lt _ (by omega))
 exact hr
def Cg(a b:Nat):Option Nat:=bO (sm a/\sm b) (some (Nat.gcd a b))
theorem Dq{a b:Nat}(h:sm a)(k:sm b):Cg a b=some (Nat.gcd a b):=cG ⟨h,k⟩ rfl
theorem zB{a:Nat}:dm a 0=some (.done (Ex.cp a)):=by simp[dm,cS]
theorem yn{a b:Nat}(h0:b≠0)(ha:(aA a).length<=2)(hb:(aA b).length<=2)(e1:mY a=some (a:Int))(e2:mY b=some (b:Int))(e3:mV ((Nat.gcd a b:Nat):Int)=some (Nat.gcd a b)):dm a b=some (.done (Ex.ret (Nat.gcd a b))):=by
 have hl:(decide (((aA b).length:Int)>0))=true:=by have:=cM h0;simp;omega
 have h3:(decide (((aA a).length:Int)<=2))=true:=by simp;omega
 have h4:(decide (((aA b).length:Int)<=2))=true:=by simp;omega
 unfold dm;rw[if_pos hl,if_pos h3,if_pos h4,e1,e2,Option.bind_some,Option.bind_some,vu,Option.bind_some,e3]
 rfl
theorem zI{a b:Nat}(h0:b≠0)(ha:a<18446744073709551616)(hb:b<18446744073709551616):dm a b=some (.done (Ex.ret (Nat.gcd a b))):=
 yn h0 (iW.2 ha) (iW.2 hb) (pj ha) (pj hb) (kc (Nat.lt_of_le_of_lt (Nat.gcd_le_right _ (Nat.pos_of_ne_zero h0)) hb))
theorem yY{a b:Nat}(h0:b≠0)(hab:¬(a<18446744073709551616/\b<18446744073709551616))(ha:sm a)(hb:sm b):dm a b=some (.next (b,a%b)):=by
 have hl:(decide (((aA b).length:Int)>0))=true:=by have:=cM h0;simp;omega
 unfold dm;rw[if_pos hl];by_cases h3:(aA a).length<=2
 ·have h4:¬(aA b).length<=2:=fun h=>hab ⟨iW.1 h3,iW.1 h⟩;rw[if_pos (by simp;omega),if_neg (by simp;omega)];simp only[Option.bind_some,iR h0 ha hb]
 ·rw[if_neg (by simp;omega)];simp only[Option.bind_some,iR h0 ha hb]
theorem Hk(x y:Nat)(hx:sm x)(hy:sm y):oB x y=some (Nat.gcd x y):=by
 obtain⟨r,hr,hq⟩:=bZ (body:=fun(s:Nat×Nat)=>dm s.1 s.2) (x,y) (fun s=>sm s.1/\sm s.2/\Nat.gcd s.1 s.2=Nat.gcd x y) (fun s=>s.2) (fun r=>r=Ex.cp (Nat.gcd x y)\/r=Ex.ret (Nat.gcd x y)) ⟨hx,hy,rfl⟩ (by
  rintro⟨a,b⟩ ⟨ha,hb,hg⟩;simp only at ha hb hg|-;by_cases h0:b=0
  ·right
   subst h0;rw[Nat.gcd_zero_right]at hg;exact⟨_,zB,.inl (by rw[hg])⟩
  by_cases h2:a<18446744073709551616/\b<18446744073709551616
  ·right
   exact⟨_,zI h0 h2.1 h2.2,.inr (by rw[hg])⟩
  ·left
   exact⟨_,yY h0 h2 ha hb,⟨hb,nn (Nat.le_of_lt (Nat.mod_lt _ (Nat.pos_of_ne_zero h0))) hb,by rw[←hg,Nat.gcd_comm a b,Nat.gcd_rec b a,Nat.gcd_comm]⟩,Nat.mod_lt _ (Nat.pos_of_ne_zero h0)⟩)
 unfold oB;rw[hr];rcases hq with rfl|rfl<;>rfl
theorem HR{a b r:Nat}(h:Cg a b=some r):aW PP 214 [] [aj a,aj b] [] (aj r):=by
 obtain⟨⟨h0,h1⟩,h⟩:=ax h;injection h with h;subst h;exact AY (Hk a b h0 h1)
def eh:Nat->Nat
 |0=>0
 |x+1=>if(eh x+1)*(eh x+1)<=x+1 then eh x+1 else eh x
theorem qo:∀x,eh x*eh x<=x
 |0=>by simp[eh]
 |x+1=>by
  have:=qo x;simp only[eh]
  split
  ·assumption
  ·omega
theorem tR:∀x,x<(eh x+1)*(eh x+1)
 |0=>by simp[eh]
 |x+1=>by
  have h:=tR x;simp only[eh]
  split
  ·have h2:(eh x+1+1)*(eh x+1+1)=(eh x+1)*(eh x+1)+2*(eh x+1)+1:=by
    rw[Nat.add_mul,Nat.mul_add];omega
   omega
  ·omega
theorem Ca{x n:Nat}(h:n*n<=x):n<=eh x:=by
 apply Nat.le_of_lt_succ;apply Classical.byContradiction;intro hc;have h1:=Nat.mul_le_mul (Nat.le_of_not_lt hc) (Nat.le_of_not_lt hc);have:=tR x;simp only[Nat.succ_eq_add_one]at h1;omega
theorem BR{a x s:Nat}(hx:0<x)(hs:s*s<=a):s<=(x+a/x)/2:=by
 rw[Nat.le_div_iff_mul_le (by omega)];rcases Nat.lt_or_ge (2*s) x with h|h
 ·generalize a/x=q;omega
 ·have h1:2*s-x<=a/x:=by
   rw[Nat.le_div_iff_mul_le hx];refine Nat.le_trans ?_ hs;have h2:(2*s-x)*x+x*x=2*s*x:=by rw[←Nat.add_mul,Nat.sub_add_cancel h]
   have h3:2*s*x<=s*s+x*x:=by
    rcases Nat.le_total s x with h|h
    ·obtain⟨d,rfl⟩:=Nat.exists_eq_add_of_le h;rw[Nat.mul_add,Nat.add_mul,Nat.mul_add s,Nat.mul_add d];have:2*s*s=s*s+s*s:=by rw[Nat.mul_assoc];omega
     have:2*s*d=s*d+s*d:=by rw[Nat.mul_assoc];omega
     have:d*s=s*d:=Nat.mul_comm _ _;omega
    ·obtain⟨d,rfl⟩:=Nat.exists_eq_add_of_le h;have e1:2*(x+d)*x=x*x+x*x+(d*x+d*x):=by
      rw[Nat.mul_assoc,Nat.add_mul];omega
     have e2:(x+d)*(x+d)=x*x+x*d+(d*x+d*d):=by rw[Nat.add_mul,Nat.mul_add,Nat.mul_add]
     have e3:x*d=d*x:=Nat.mul_comm _ _;omega
   omega
  generalize a/x=q at h1|-;omega
theorem gg{x n:Nat}:bz x<=n↔x<2^n:=⟨oY,dS⟩
theorem tJ{x y n:Nat}(h:bz x<=n)(k:bz y<=n):bz (x+y)<=n+1:=by
 rw[gg]at*;rw[Nat.pow_succ];omega
theorem sX{a n:Nat}(h:a<n):bz (2^a)<=n:=gg.2 (Nat.pow_lt_pow_right (by omega) h)
def yU(a:Nat):Option Nat:=bO (bz a<=2199023255552) (some (eh a))
theorem wrap_small{n:Int}(h0:-9223372036854775808<=n)(h1:n<9223372036854775808):IntKind.i64.wrap n=n:=by rw[IntKind.wrap_i64];omega
theorem C3{a k:Nat}(h:sm a)(hk:k<35184372088832):Ay a (k:Int)=some (a/2^k):=cG ⟨h,by omega,by omega⟩ (by rw[Int.toNat_natCast])
theorem ti{a k:Nat}(h:sm a)(hk:k<35184372088832):uX a (k:Int)=some (a*2^k):=cG ⟨h,by omega,by omega⟩ (by rw[Int.toNat_natCast])
theorem tj{x y:Nat}(h:y<=x):fR x y>=0:=by unfold fR;rw[if_neg (by omega)];split<;>omega
theorem Et(a:Nat)(h:bz a<=2199023255552):m5 a=some (eh a):=by
 unfold m5;by_cases h0:a=0
 ·subst h0;simp[cS,eh]
 have hl:=cM h0;have hsa:sm a:=Nat.le_trans h (by omega);have hl2:¬(((aA a).length:Int)==0)=true:=by
  rw[beq_iff_eq];omega
 rw[if_neg hl2];have e1:mV (1:Int)=some 1:=kc (n:=1) (by omega);rw[e1,BN hsa];simp only[Option.bind_some];have ew:IntKind.i64.wrap (Int.tdiv (IntKind.i64.wrap ((bz a:Int)+1)) 2)=(((bz a+1)/2:Nat):Int):=by
  rw[wrap_small (n:=(bz a:Int)+1) (by omega) (by omega),Int.tdiv_eq_ediv_of_nonneg (by omega),wrap_small (by omega) (by omega)];omega
 rw[ew,ti (kG (by omega)) (by omega),Nat.one_mul];simp only[Option.bind_some];have hp0:0<2^((bz a+1)/2):=Nat.two_pow_pos _;have hs0:eh a<=2^((bz a+1)/2):=by
  apply Classical.byContradiction;intro hc;have h1:=Nat.mul_le_mul (Nat.le_of_lt (Nat.lt_of_not_le hc)) (Nat.le_of_lt (Nat.lt_of_not_le hc));have h2:=qo a;have h3:=mF a;rw[←Nat.pow_add]at h1;have h4:(2:Nat)^bz a<=2^((bz a+1)/2+(bz a+1)/2):=Nat.pow_le_pow_right (by omega) (by omega);omega
 have hb0:bz (2^((bz a+1)/2))<=1099511627778:=sX (by omega);generalize 2^((bz a+1)/2)=x0 at*;obtain⟨r,hr,rfl⟩:=bZ (body:=fun s=>hZ a s) x0 (fun x=>0<x/\eh a<=x/\bz x<=1099511627778) id (fun r=>r=eh a) ⟨hp0,hs0,hb0⟩ (by
  intro x ⟨hx,hsx,hbx⟩;have hsx':sm x:=Nat.le_trans hbx (by omega);have hbd:bz (a/x)<=2199023255552:=Nat.le_trans (da (Nat.div_le_self _ _)) h;have hsd:sm (a/x):=Nat.le_trans hbd (by omega);have hsum:sm (x+a/x):=by
   exact Nat.le_trans (tJ (Nat.le_trans hbx (by omega)) hbd) (by omega)
  have hge:=BR (a:=a) hx (qo a);have hy:sm ((x+a/x)/2):=nn (Nat.div_le_self _ _) hsum;unfold hZ;rw[iR (by omega) hsa hsx'];simp only[Option.bind_some];rw[qk hsx' hsd];simp only[Option.bind_some];have e2:Ay (x+a/x) 1=some ((x+a/x)/2):=C3 (k:=1) hsum (by omega);rw[e2];simp only[Option.bind_some];rw[pU hy hsx'];simp only[Option.bind_some];by_cases hc:x<=(x+a/x)/2
  ·right
   refine⟨x,?_,?_⟩
   ·rw[if_pos (decide_eq_true (tj hc))]
   ·have h1:x<=a/x:=by omega
    rw[Nat.le_div_iff_mul_le hx]at h1;exact Nat.le_antisymm (Ca h1) hsx
  ·left
   refine⟨(x+a/x)/2,?_,⟨?_,hge,?_⟩,by simp only[id];omega⟩
   ·rw[if_neg];have:fR ((x+a/x)/2) x=-1:=by unfold fR;rw[if_pos (by omega)]
    rw[this];decide
   ·apply Nat.pos_of_ne_zero;intro e;have h1:eh a=0:=by omega
    have h2:=tR a;rw[h1]at h2;omega
   ·exact Nat.le_trans (da (by omega)) hbx)
 rw[hr];rfl
theorem Hq{a r:Nat}(h:yU a=some r):aW PP 170 [] [aj a] [] (aj r):=by
 obtain⟨h0,h⟩:=ax h;injection h with h;subst h;exact zh (Et a h0)
theorem dT{α:Type}{xs:List α}{n:Nat}(h:n<xs.length):ix xs (n:Int)=some xs[n]:=by
 unfold ix;rw[if_pos (by omega),Int.toNat_natCast,List.getElem?_eq_getElem h]
theorem pS{α:Type}{xs:List α}{i:Int}(n:Nat)(hi:i=(n:Int))(h:n<xs.length):ix xs i=some xs[n]:=by rw[hi,dT h]
theorem zx(a:List Int)(hl:a.length<=4398046511110):fL a=some a.reverse:=by
 unfold fL;have e0:IntKind.i64.wrap ((a.length:Int)-1)=(a.length:Int)-1:=wrap_small (by omega) (by omega);rw[e0];obtain⟨r,hr,rfl⟩:=bZ (body:=fun(s:Int×Int×(List Int))=>eE s.1 s.2.1 s.2.2) (0,((a.length:Int)-1),a)
  (fun s=>∃k:Nat,s.1=(k:Int)/\s.2.1=(a.length:Int)-1-k/\k<=a.length/\s.2.2.length=a.length/\(2*k<=a.length+1)/\∀n (h:n<a.length),s.2.2[n]?=if n<k\/a.length-1-k<n then a[a.length-1-n]?else a[n]?)
  (fun s=>(s.2.1+1).toNat) (fun r=>r=a.reverse)
  ⟨0,rfl,by simp,by omega,rfl,by omega,fun n h=>by rw[if_neg (by omega)]⟩ (by
   rintro⟨i,j,xs⟩ ⟨k,hi,hj,hk,hlen,hk2,hx⟩;simp only at hi hj hlen hx|-;unfold eE;by_cases hlt:i<j
   ·left
    have h1:k<a.length-1-k:=by omega
    have hj':j=((a.length-1-k:Nat):Int):=by omega
    rw[if_pos (decide_eq_true hlt),pS (a.length-1-k) hj' (by omega),Option.bind_some,pS k hi (by omega),Option.bind_some];rw[pS (a.length-1-k) hj' (by rw[List.length_set];omega),Option.bind_some];refine⟨_,rfl,⟨k+1,?_,?_,by omega,by simp[hlen],by omega,?_⟩,by simp only;rw[wrap_small (by omega) (by omega)];omega⟩
    ·simp only;rw[wrap_small (by omega) (by omega)];omega
    ·simp only;rw[wrap_small (by omega) (by omega)];omega
    ·intro n hn;simp only;rw[show j.toNat=a.length-1-k from by omega,show i.toNat=k from by omega];have ek:=hx k (by omega);have ej:=hx (a.length-1-k) (by omega);rw[if_neg (by omega)]at ek ej;rw[List.getElem?_eq_getElem (by omega)]at ek ej;by_cases c1:n=a.length-1-k
     ·subst c1;rw[List.getElem?_set_self (by rw[List.length_set];omega),if_pos (by omega),ek];rw[show a.length-1-(a.length-1-k)=k from by omega]
     ·rw[List.getElem?_set_ne (by omega)];by_cases c2:n=k
      ·subst c2;rw[List.getElem?_set_self (by omega),if_pos (by omega),ej]
      ·rw[List.getElem?_set_ne (by omega),hx n hn];by_cases c3:n<k\/a.length-1-k<n
       ·rw[if_pos c3,if_pos (by omega)]
       ·rw[if_neg c3,if_neg (by omega)]
   ·right
    rw[if_neg (by simpa using hlt)];refine⟨xs,rfl,?_⟩;apply List.ext_getElem?;intro n;by_cases hn:n<a.length
    ·rw[hx n hn,List.getElem?_reverse hn]
     split
     ·rfl
     ·rw[show a.length-1-n=n from by omega]
    ·rw[List.getElem?_eq_none (by omega),List.getElem?_eq_none (by simp;omega)])
 rw[hr];rfl
def dR(x:Nat):List Int:=if h:x=0 then []else((48+x%10:Nat):Int)::dR (x/10)
termination_by x
decreasing_by exact Nat.div_lt_self (Nat.pos_of_ne_zero h) (by decide)
theorem wC:dR 0=[]:=by rw[dR];rfl
theorem C7{x:Nat}(h:x≠0):dR x=((48+x%10:Nat):Int)::dR (x/10):=by rw[dR,dif_neg h]
theorem zy:∀(n x:Nat),x<2^n->(dR x).length<=n
 |0,x,h=>by
  have:x=0:=by simp at h;exact h
  subst this;rw[wC];exact Nat.le_refl _
 |n+1,x,h=>by
  by_cases h0:x=0
  ·subst h0;rw[wC];exact Nat.zero_le _
  ·rw[C7 h0,List.length_cons];have:=zy n (x/10) (by rw[Nat.pow_succ]at h;omega);omega
def oS(x:Nat):List UInt8:=if x=0 then [48]else bytesOf (dR x).reverse
def AL(a:Nat):Option (List UInt8):=bO (sm a) (some (oS a))
theorem Db(n:Int)(h:0<=n/\n<=255):IntKind.u8.wrap n=n:=by rw[IntKind.wrap_u8];omega
theorem u64_in{n:Int}(h0:0<=n)(h1:n<18446744073709551616):IntKind.u64.wrap n=n:=by rw[IntKind.wrap_u64];omega
theorem zc{a:Nat}{d:Int}(h:sm a)(k:1<=d/\d<4294967296):wP a d=some (a/d.toNat,a%d.toNat):=cG ⟨h,k⟩ rfl
theorem uU{x n:Nat}(h:bz x<=n):(dR x).length<=n:=zy _ _ (oY h)
theorem Da(tgt:List Int)(q n:Nat)(b:List Int)(hn:n<1000000000)(ht:tgt.length<=4398046511104)(hq:(aA q).length=0↔q=0)(hb:b++dR (q*1000000000+n)=tgt):
  ∃b',Loop (fun(s:Int×Int×(List Int))=>eC q s.1 s.2.1 s.2.2) ((n:Int),0,b)=some b'/\b'++dR q=tgt:=by
 refine bZ (body:=fun(s:Int×Int×(List Int))=>eC q s.1 s.2.1 s.2.2) ((n:Int),0,b)
  (fun s=>∃m k:Nat,s.1=(m:Int)/\s.2.1=((9-k:Nat):Int)/\k<=9/\m<10^k/\s.2.2++dR (q*10^k+m)=tgt)
  (fun s=>(9-s.2.1).toNat) (fun r=>r++dR q=tgt) ⟨n,9,rfl,rfl,by omega,hn,hb⟩ ?_
 rintro⟨i,j,b⟩ ⟨m,k,hi,hj,hk,hm,hb⟩;simp only at hi hj hb|-;subst hi;subst hj;unfold eC;by_cases h9:k=0
 ·right
  subst h9;rw[if_neg (by simp),Option.bind_some];simp only;rw[Nat.pow_zero]at hm hb;refine⟨b,rfl,?_⟩;rw[show q=q*1+m from by omega];exact hb
 obtain⟨k,rfl⟩:=Nat.exists_eq_succ_of_ne_zero h9;have hlt:((9-(k+1):Nat):Int)<9:=by omega
 rw[Nat.succ_eq_add_one,if_pos (decide_eq_true hlt)];by_cases hz:q=0/\m=0
 ·right
  obtain⟨rfl,rfl⟩:=hz;rw[if_neg (by rw[hq.2 rfl];decide),if_neg (by decide),Option.bind_some];refine⟨b,rfl,?_⟩;rw[Nat.zero_mul]at hb;exact hb
 ·left
  have hp:q*10^(k+1)+m≠0:=by
   intro h;apply hz
   constructor
   ·apply Classical.byContradiction;intro h1;have:=Nat.mul_pos (Nat.pos_of_ne_zero h1) (show 0<10^(k+1)from Nat.pow_pos (by decide));omega
   ·omega
  have hgo:(if(decide (((aA q).length:Int)>0))=true then some (Ex.cp ())else(if(decide ((m:Int)>0))=true then some (Ex.cp ())else some (Ex.ret ())):Option (Ex Unit Unit))=some (Ex.cp ()):=by
   by_cases h1:q=0
   ·rw[if_neg (by rw[hq.2 h1];decide),if_pos (decide_eq_true (by have:=fun h=>hz ⟨h1,h⟩;omega))]
   ·rw[if_pos (decide_eq_true (by have:=fun h=>h1 (hq.1 h);omega))]
  rw[hgo,Option.bind_some];simp only;have hm':m<1000000000:=Nat.lt_of_lt_of_le hm (show 10^(k+1)<=10^9 from Nat.pow_le_pow_right (by decide) (by omega));have e1:IntKind.u8.wrap (IntKind.u64.wrap (48+Int.tmod (m:Int) 10))=((48+(q*10^(k+1)+m)%10:Nat):Int):=by
   rw[Int.tmod_eq_emod_of_nonneg (by omega),u64_in (by omega) (by omega),Db _ (by omega)];have:(q*10^(k+1)+m)%10=m%10:=by
    rw[Nat.pow_succ,←Nat.mul_assoc,Nat.add_comm,Nat.add_mul_mod_self_right]
   rw[this];omega
  have e2:IntKind.u64.wrap (Int.tdiv (m:Int) 10)=((m/10:Nat):Int):=by
   rw[Int.tdiv_eq_ediv_of_nonneg (by omega),u64_in (by omega) (by omega)];omega
  have e3:(q*10^(k+1)+m)/10=q*10^k+m/10:=by
   rw[Nat.pow_succ,←Nat.mul_assoc,Nat.add_comm,Nat.add_mul_div_right _ _ (by decide),Nat.add_comm]
  have e4:IntKind.i64.wrap (((9-(k+1):Nat):Int)+1)=((9-k:Nat):Int):=by rw[wrap_small (by omega) (by omega)];omega
  rw[C7 hp,e3]at hb;rw[e1,e2,e4];have hbl:b.length+1<=tgt.length:=by rw[←hb,List.length_append,List.length_cons];omega
  refine⟨_,cG ⟨by simp only[List.length_cons,List.length_nil];omega,by simp only[List.length_cons,List.length_nil];omega⟩ rfl,⟨m/10,k,rfl,rfl,by omega,?_,?_⟩,by simp only;omega⟩
  ·rw[Nat.pow_succ]at hm;exact Nat.div_lt_of_lt_mul (by rw[Nat.mul_comm];exact hm)
  ·simp only;rw[←hb,List.append_assoc];rfl
theorem Fy(a:Nat)(h:sm a):Loop (fun(s:Nat×(List Int))=>et s.1 s.2) (a,[])=some (dR a):=by
 obtain⟨r,hr,rfl⟩:=bZ (body:=fun(s:Nat×(List Int))=>et s.1 s.2) (a,[]) (fun s=>sm s.1/\s.2++dR s.1=dR a) (fun s=>s.1) (fun r=>r=dR a) ⟨h,rfl⟩ (by
  rintro⟨x,b⟩ ⟨hx,hb⟩;simp only at hx hb|-;unfold et;by_cases h0:x=0
  ·right
   subst h0;rw[if_neg (by rw[lN.2 rfl];decide)];refine⟨b,rfl,?_⟩;rw[wC,List.append_nil]at hb;exact hb
  ·left
   have hl:=cM h0;rw[if_pos (decide_eq_true (by omega)),zc hx ⟨by decide,by decide⟩,Option.bind_some];simp only;have en:(1000000000:Int).toNat=1000000000:=rfl;rw[en];have hlt:x%1000000000<1000000000:=Nat.mod_lt _ (by decide);rw[pj (by omega),Option.bind_some];obtain⟨b',hb',hb2⟩:=Da (dR a) (x/1000000000) (x%1000000000) b hlt (uU h) lN (by
    rw[show x/1000000000*1000000000+x%1000000000=x from Nat.div_add_mod' x 1000000000];exact hb)
   rw[hb'];exact⟨_,rfl,⟨nn (Nat.div_le_self _ _) hx,hb2⟩,Nat.div_lt_self (Nat.pos_of_ne_zero h0) (by decide)⟩)
 exact hr
theorem Hb(a:Nat)(h:sm a):jK a=some (oS a):=by
 unfold jK oS;by_cases h0:a=0
 ·subst h0;rw[if_pos (by rw[lN.2 rfl];rfl),if_pos rfl]
 ·have hl:=cM h0;have hl2:¬(((aA a).length:Int)==0)=true:=by rw[beq_iff_eq];omega
  rw[if_neg hl2,if_neg h0,Fy a h,Option.bind_some,zx _ (Nat.le_trans (uU h) (by omega))]
  rfl
theorem F2{a:Nat}{r:List UInt8}(h:AL a=some r):aW PP 176 [] [aj a] [] (cf r):=by
 obtain⟨h0,h⟩:=ax h;injection h with h;subst h;exact uP (Hb a h0)
end Go.Am
namespace Go.Am
open Go.RowKit
def qC(x:Rat):List D:=[.bool (decide (x.num<0)),aj x.num.natAbs,aj (x.den-1)]
def qD(x:Rat):D:=.agg (qC x)
def ak.rat:ak Rat:=⟨3,qC,fun _=>rfl,fun _=>rfl⟩
theorem k8:Le (.bool false) (.bool (decide ((0:Rat).num<0))):=.refl _
theorem k_:Le .nil (aj (0:Rat).num.natAbs):=aV
theorem kZ:Le .nil (aj ((0:Rat).den-1)):=aV
def aD(x:Nat):List Int:=if h:x=0 then []else((x%10000:Nat):Int)::aD (x/10000)
termination_by x
decreasing_by exact Nat.div_lt_self (by omega) (by omega)
theorem dP:aD 0=[]:=by rw[aD];simp
theorem jX{x:Nat}(h:x≠0):aD x=((x%10000:Nat):Int)::aD (x/10000):=by rw[aD];simp[h]
def GV(d:Nat):D where
 p:=fun ε w S v=>∃l:List Int,(l=aD d\/(d=1/\l=[]))/\(an (ak.int .i64) l).p ε w S v
 nm:=[]
 sh:=.one
 mono:=fun⟨l,hl,h⟩ he hS=>⟨l,hl,(an (ak.int .i64) l).mono h (fun r hr=>by cases hr) hS⟩
 ji:=fun⟨l,_,h⟩=>(an (ak.int .i64) l).ji h
def rX(x:Rat):List D:=[.bool (decide (x.num<0)),an (ak.int .i64) (aD x.num.natAbs),.bool false,GV x.den]
def D_(x:Rat):D:=.agg (rX x)
def ak.rq:ak Rat:=⟨4,rX,fun _=>rfl,fun _=>rfl⟩
theorem C2:Le .nil (an (ak.int .i64) (aD 0)):=by rw[dP];exact .gT _
theorem Ih:Le (.bool false) (.bool (decide ((0:Rat).num<0))):=.refl _
theorem Ic:Le .nil (an (ak.int .i64) (aD (0:Rat).num.natAbs)):=C2
theorem HJ:Le .nil (GV (0:Rat).den):=⟨fun ε w S v h=>⟨[],.inr ⟨rfl,rfl⟩,(Le.gT (ak.int .i64)).1 ε w S v h⟩,fun r hr=>by cases hr⟩
def sz(x:Rat):Nat:=max (bz x.num.natAbs) (bz x.den)
def dv(x:Rat):Prop:=sz x<=400000000000
instance (x:Rat):Decidable (dv x):=inferInstanceAs (Decidable (sz x<=400000000000))
def eM(n:Int):Prop:=-9223372036854775808<=n/\n<9223372036854775808
instance (n:Int):Decidable (eM n):=inferInstanceAs (Decidable (_/\_))
def Be(x:Rat):Int:=if x<0 then-1 else if x=0 then 0 else 1
def iu(x y:Rat):Int:=if x<y then-1 else if y<x then 1 else 0
def fh(n:Int):Option Rat:=bO (eM n) (some (n:Rat))
def Ei(n d:Int):Option (Rat×Int):=bO (eM n/\eM d) (some (if d=0 then(0,9)else((n:Rat)/(d:Rat),0)))
def j0(a b:Rat):Option Rat:=bO (dv a/\dv b) (some (a+b))
def kH(a b:Rat):Option Rat:=bO (dv a/\dv b) (some (a-b))
def eJ(a b:Rat):Option Rat:=bO (dv a/\dv b) (some (a*b))
def gR(a b:Rat):Option Rat:=bO (b≠0/\dv a/\dv b) (some (a/b))
def uf(a:Rat):Option Rat:=some (-a)
def AD(a:Rat):Option Rat:=some (if a<0 then-a else a)
def kK(a b:Rat):Option Int:=bO (dv a/\dv b) (some (iu a b))
def fm(a:Rat):Option Int:=some (Be a)
def uD(a:Rat):Option Rat:=bO (dv a) (some (a.den:Rat))
def qm(a:Rat):Option Rat:=bO (dv a) (some (a.floor:Rat))
def Iq(a:Rat):List UInt8:=(if a.num<0 then [45]else [])++oS a.num.natAbs++(if a.den=1 then []else 47::oS a.den)
def ts(a:Rat):Option (List UInt8):=bO (dv a) (some (Iq a))
end Go.Am
namespace Go.Am
open Go.RowKit
set_option maxRecDepth 100000
noncomputable section
def cD(a1:Bool)(a2:Nat):Option (Bool×Nat):=(if a1=true then some ((decide (((aA a2).length:Int)>0)),a2)else some (false,a2))
theorem eo{a1:Bool}{a2:Nat}{r4:Bool}{r5:Nat}(h:cD a1 a2=some (r4,r5)):aW PP 152 [] [D.bool a1,aj a2] [] (D.agg ([D.bool r4,aj r5])):=by
 unfold cD at h;refine .of Go.Proofs.Tryz.func152 rfl (by kernel_rfl) rfl rfl rfl rfl rfl rfl (fun A w0 L b=>?_);show Ok PP _ [(0,D.bool a1),(1,aj a2)] [] _ _;refine .al (.fW ([D.bool false,aj 0]) dH ⟨.refl _,aV,trivial⟩ rfl<|.nil) rfl ?_;by_cases c3:a1=true
 ·replace h:=ab c3 h;refine .al (.mv rfl<|.mv rfl<|.gy c3<|.mv rfl<|.gy c3<|.yQ rfl au<|.gy c3<|.cm rfl rfl rfl<|.bm rfl c3 rfl<|.mv rfl<|.pC ([D.bool (decide (((aA a2).length:Int)>0)),aj a2]) [(0,_,D.bool (decide (((aA a2).length:Int)>0)),[D.bool (decide (((aA a2).length:Int)>0))]),(1,_,aj a2,[aj a2])] dH gj ⟨rfl,rfl,.one rfl,rfl,rfl,rfl,.one rfl,rfl,trivial⟩ ⟨rfl,rfl,trivial⟩ ⟨.refl _,.refl _,trivial⟩<|.cH ([D.bool (decide (((aA a2).length:Int)>0)),aj a2]) rfl rfl rfl bb rfl rfl rfl<|.nil) rfl ?_;cases h;refine .aN (fun _ _ hb=>hb) rfl (.cons (.agg rfl rfl bb rfl) .nil) (.refl _) trivial trivial
 ·replace h:=ae c3 h;refine .al (.mv rfl<|.mv rfl<|.gm c3<|.gm c3<|.gm c3<|.bh rfl c3 rfl<|.mv rfl<|.pC ([D.bool false,aj a2]) [(0,_,D.bool false,[D.bool false]),(1,_,aj a2,[aj a2])] dH gj ⟨rfl,rfl,.one rfl,rfl,rfl,rfl,.one rfl,rfl,trivial⟩ ⟨rfl,rfl,trivial⟩ ⟨.refl _,.refl _,trivial⟩<|.cH ([D.bool false,aj a2]) rfl rfl rfl bb rfl rfl rfl<|.nil) rfl ?_;cases h;refine .aN (fun _ _ hb=>hb) rfl (.cons (.agg rfl rfl bb rfl) .nil) (.refl _) trivial trivial
def iS(a1:Bool)(a2:Nat):Option Int:=(if a1=true then some (-1)else(if(((aA a2).length:Int)==0)=true then some 0 else some 1))
theorem wZ{a1:Bool}{a2:Nat}{r5:Int}(h:iS a1 a2=some r5):aW PP 153 [] [D.agg ([D.bool a1,aj a2])] [] (D.int .i64 r5):=by
 unfold iS at h;refine .of Go.Proofs.Tryz.func153 rfl (by kernel_rfl) rfl rfl rfl rfl rfl rfl (fun A w0 L b=>?_);show Ok PP _ [(0,D.agg ([D.bool a1,aj a2]))] [] _ _;refine .al (.j8 rfl rfl<|.ao rfl<|.nil) rfl ?_;refine .sq ?_;refine .block ?_;refine .al (.fa rfl aQ<|.bA (D.bool a1) rfl rfl bW rfl<|.ao rfl<|.nil) rfl ?_;by_cases c3:a1=true
 ·replace h:=ab c3 h;refine .cq rfl c3 ?_;refine .al (.ao rfl<|.nil) rfl ?_;cases h;refine .aN (fun _ _ hb=>hb) rfl (.t1 (.tmp rfl)) (.refl _) trivial trivial
 ·replace h:=ae c3 h;refine .cA rfl c3 ?_;refine .al (.fa rfl aK<|.bA (aj a2) rfl rfl aS rfl<|.yQ rfl au<|.cm rfl rfl rfl<|.ao rfl<|.nil) rfl ?_;by_cases c4:(((aA a2).length:Int)==0)=true
  ·replace h:=ab c4 h;refine .cq rfl c4 ?_;refine .al (.ao rfl<|.nil) rfl ?_;cases h;refine .aN (fun _ _ hb=>hb) rfl (.t1 (.tmp rfl)) (.refl _) trivial trivial
  ·replace h:=ae c4 h;refine .cA rfl c4 ?_;refine .skip (Ok.on ?_);refine .al (.ao rfl<|.nil) rfl ?_;cases h;refine .aN (fun _ _ hb=>hb) rfl (.t1 (.tmp rfl)) (.refl _) trivial trivial
def jU(a1:Bool)(a2:Nat)(a3:Bool)(a4:Nat):Option (Bool×Nat):=(if(a1==a3)=true then(uS a2 a4).bind fun v6=>(cD a1 v6).bind fun(v8,v9)=>some (v8,v9)else(vV a2 a4).bind fun v11=>(if(decide (v11>=0))=true then(yx a2 a4).bind fun v14=>(cD a1 v14).bind fun(v16,v17)=>some (v16,v17)else(yx a4 a2).bind fun v19=>(cD a3 v19).bind fun(v21,v22)=>some (v21,v22)))
theorem yF{a1:Bool}{a2:Nat}{a3:Bool}{a4:Nat}{r24:Bool}{r25:Nat}(h:jU a1 a2 a3 a4=some (r24,r25)):aW PP 180 [] [D.agg ([D.bool a1,aj a2]),D.agg ([D.bool a3,aj a4])] [] (D.agg ([D.bool r24,aj r25])):=by
 unfold jU at h;refine .of Go.Proofs.Tryz.func180 rfl (by kernel_rfl) rfl rfl rfl rfl rfl rfl (fun A w0 L b=>?_);show Ok PP _ [(0,D.agg ([D.bool a1,aj a2])),(1,D.agg ([D.bool a3,aj a4]))] [] _ _;refine .al (.j8 rfl rfl<|.j8 rfl rfl<|.fW ([D.bool false,aj 0]) dH ⟨.refl _,aV,trivial⟩ rfl<|.nil) rfl ?_;refine .sq ?_;refine .block ?_;refine .al (.fa rfl aQ<|.bA (D.bool a1) rfl rfl bW rfl<|.fa rfl aQ<|.bA (D.bool a3) rfl rfl bW rfl<|.bc jF rfl rfl rfl<|.ao rfl<|.nil) rfl ?_;by_cases c5:(a1==a3)=true
 ·replace h:=ab c5 h;refine .cq rfl c5 ?_;obtain⟨v6,e7,h⟩:=bind_some h;obtain⟨⟨v8,v9⟩,e10,h⟩:=bind_some h;refine .dh cn (.fa rfl aQ<|.bA (D.bool a1) rfl rfl bW rfl<|.fa rfl aK<|.bA (aj a2) rfl rfl aS rfl<|.fa rfl aK<|.bA (aj a4) rfl rfl aS rfl<|.ah (AF e7) ⟨rfl,rfl,trivial⟩ trivial trivial<|.ah (eo e10) ⟨rfl,rfl,trivial⟩ trivial trivial<|.cH ([D.bool v8,aj v9]) rfl rfl rfl bb rfl rfl rfl<|.nil) rfl (by kernel_rfl) ?_;cases h;refine .aN (fun _ _ hb=>hb) rfl (.cons (.agg rfl rfl bb rfl) .nil) (.refl _) trivial trivial
 ·replace h:=ae c5 h;refine .cA rfl c5 ?_;obtain⟨v11,e12,h⟩:=bind_some h;refine .al (.fa rfl aK<|.bA (aj a2) rfl rfl aS rfl<|.fa rfl aK<|.bA (aj a4) rfl rfl aS rfl<|.ah (AP e12) ⟨rfl,rfl,trivial⟩ trivial trivial<|.cm rfl rfl rfl<|.ao rfl<|.nil) rfl ?_;by_cases c13:(decide (v11>=0))=true
  ·replace h:=ab c13 h;refine .cq rfl c13 ?_;obtain⟨v14,e15,h⟩:=bind_some h;obtain⟨⟨v16,v17⟩,e18,h⟩:=bind_some h;refine .dh cn (.fa rfl aQ<|.bA (D.bool a1) rfl rfl bW rfl<|.fa rfl aK<|.bA (aj a2) rfl rfl aS rfl<|.fa rfl aK<|.bA (aj a4) rfl rfl aS rfl<|.ah (Dd e15) ⟨rfl,rfl,trivial⟩ trivial trivial<|.ah (eo e18) ⟨rfl,rfl,trivial⟩ trivial trivial<|.cH ([D.bool v16,aj v17]) rfl rfl rfl bb rfl rfl rfl<|.nil) rfl (by kernel_rfl) ?_;cases h;refine .aN (fun _ _ hb=>hb) rfl (.cons (.agg rfl rfl bb rfl) .nil) (.refl _) trivial trivial
  ·replace h:=ae c13 h;refine .cA rfl c13 ?_;refine .skip (Ok.on ?_);obtain⟨v19,e20,h⟩:=bind_some h;obtain⟨⟨v21,v22⟩,e23,h⟩:=bind_some h;refine .dh cn (.fa rfl aQ<|.bA (D.bool a3) rfl rfl bW rfl<|.fa rfl aK<|.bA (aj a4) rfl rfl aS rfl<|.fa rfl aK<|.bA (aj a2) rfl rfl aS rfl<|.ah (Dd e20) ⟨rfl,rfl,trivial⟩ trivial trivial<|.ah (eo e23) ⟨rfl,rfl,trivial⟩ trivial trivial<|.cH ([D.bool v21,aj v22]) rfl rfl rfl bb rfl rfl rfl<|.nil) rfl (by kernel_rfl) ?_;cases h;refine .aN (fun _ _ hb=>hb) rfl (.cons (.agg rfl rfl bb rfl) .nil) (.refl _) trivial trivial
def ec(a1:Bool)(a2:Nat)(a3:Nat):Option (Bool×Nat):=(p6 a2 a3).bind fun v4=>(cD a1 v4).bind fun(v6,v7)=>some (v6,v7)
theorem jJ{a1:Bool}{a2:Nat}{a3:Nat}{r9:Bool}{r10:Nat}(h:ec a1 a2 a3=some (r9,r10)):aW PP 177 [] [D.agg ([D.bool a1,aj a2]),aj a3] [] (D.agg ([D.bool r9,aj r10])):=by
 unfold ec at h;refine .of Go.Proofs.Tryz.func177 rfl (by kernel_rfl) rfl rfl rfl rfl rfl rfl (fun A w0 L b=>?_);show Ok PP _ [(0,D.agg ([D.bool a1,aj a2])),(1,aj a3)] [] _ _;refine .al (.j8 rfl rfl<|.fW ([D.bool false,aj 0]) dH ⟨.refl _,aV,trivial⟩ rfl<|.nil) rfl ?_;obtain⟨v4,e5,h⟩:=bind_some h;obtain⟨⟨v6,v7⟩,e8,h⟩:=bind_some h;refine .dh cn (.fa rfl aQ<|.bA (D.bool a1) rfl rfl bW rfl<|.fa rfl aK<|.bA (aj a2) rfl rfl aS rfl<|.mv rfl<|.ah (s6 e5) ⟨rfl,rfl,trivial⟩ trivial trivial<|.ah (eo e8) ⟨rfl,rfl,trivial⟩ trivial trivial<|.cH ([D.bool v6,aj v7]) rfl rfl rfl bb rfl rfl rfl<|.nil) rfl (by kernel_rfl) ?_;cases h;refine .aN (fun _ _ hb=>hb) rfl (.cons (.agg rfl rfl bb rfl) .nil) (.refl _) trivial trivial
def jM(a1:Bool)(a2:Nat)(a3:Bool)(a4:Nat):Option Int:=(if(!(a1==a3))=true then(if a1=true then some (-1)else some 1)else(if a1=true then(vV a4 a2).bind fun v8=>some v8 else(vV a2 a4).bind fun v10=>some v10))
theorem xI{a1:Bool}{a2:Nat}{a3:Bool}{a4:Nat}{r12:Int}(h:jM a1 a2 a3 a4=some r12):aW PP 178 [] [D.agg ([D.bool a1,aj a2]),D.agg ([D.bool a3,aj a4])] [] (D.int .i64 r12):=by
 unfold jM at h;refine .of Go.Proofs.Tryz.func178 rfl (by kernel_rfl) rfl rfl rfl rfl rfl rfl (fun A w0 L b=>?_);show Ok PP _ [(0,D.agg ([D.bool a1,aj a2])),(1,D.agg ([D.bool a3,aj a4]))] [] _ _;refine .al (.j8 rfl rfl<|.j8 rfl rfl<|.ao rfl<|.nil) rfl ?_;refine .sq ?_;refine .block ?_;by_cases c5:(!(a1==a3))=true
 ·replace h:=ab c5 h;refine .al (.fa rfl aQ<|.bA (D.bool a1) rfl rfl bW rfl<|.fa rfl aQ<|.bA (D.bool a3) rfl rfl bW rfl<|.bc jF rfl rfl rfl<|.mv rfl<|.gy c5<|.fa rfl aQ<|.gy c5<|.bA (D.bool a1) rfl rfl bW rfl<|.bm rfl c5 rfl<|.ao rfl<|.nil) rfl ?_;by_cases c6:a1=true
  ·replace h:=ab c6 h;refine .cq rfl c6 ?_;refine .al (.ao rfl<|.nil) rfl ?_;cases h;refine .aN (fun _ _ hb=>hb) rfl (.t1 (.tmp rfl)) (.refl _) trivial trivial
  ·replace h:=ae c6 h;refine .cA rfl c6 ?_;refine .al (.fa rfl aQ<|.bA (D.bool a1) rfl rfl bW rfl<|.fa rfl aQ<|.bA (D.bool a3) rfl rfl bW rfl<|.bc jF rfl rfl rfl<|.ao rfl<|.nil) rfl ?_;refine .cq rfl c5 ?_;refine .al (.ao rfl<|.nil) rfl ?_;cases h;refine .aN (fun _ _ hb=>hb) rfl (.t1 (.tmp rfl)) (.refl _) trivial trivial
 ·replace h:=ae c5 h;refine .al (.fa rfl aQ<|.bA (D.bool a1) rfl rfl bW rfl<|.fa rfl aQ<|.bA (D.bool a3) rfl rfl bW rfl<|.bc jF rfl rfl rfl<|.mv rfl<|.gm c5<|.gm c5<|.bh rfl c5 rfl<|.ao rfl<|.nil) rfl ?_;refine .cA rfl (by decide) ?_;refine .al (.fa rfl aQ<|.bA (D.bool a1) rfl rfl bW rfl<|.fa rfl aQ<|.bA (D.bool a3) rfl rfl bW rfl<|.bc jF rfl rfl rfl<|.ao rfl<|.nil) rfl ?_;refine .cA rfl c5 ?_;refine .al (.fa rfl aQ<|.bA (D.bool a1) rfl rfl bW rfl<|.ao rfl<|.nil) rfl ?_;by_cases c7:a1=true
  ·replace h:=ab c7 h;refine .cq rfl c7 ?_;obtain⟨v8,e9,h⟩:=bind_some h;refine .al (.fa rfl aK<|.bA (aj a4) rfl rfl aS rfl<|.fa rfl aK<|.bA (aj a2) rfl rfl aS rfl<|.ah (AP e9) ⟨rfl,rfl,trivial⟩ trivial trivial<|.ao rfl<|.nil) rfl ?_;cases h;refine .aN (fun _ _ hb=>hb) rfl (.t1 (.tmp rfl)) (.refl _) trivial trivial
  ·replace h:=ae c7 h;refine .cA rfl c7 ?_;refine .skip (Ok.on ?_);obtain⟨v10,e11,h⟩:=bind_some h;refine .al (.fa rfl aK<|.bA (aj a2) rfl rfl aS rfl<|.fa rfl aK<|.bA (aj a4) rfl rfl aS rfl<|.ah (AP e11) ⟨rfl,rfl,trivial⟩ trivial trivial<|.ao rfl<|.nil) rfl ?_;cases h;refine .aN (fun _ _ hb=>hb) rfl (.t1 (.tmp rfl)) (.refl _) trivial trivial
def gZ(a1:Bool)(a2:Nat)(a3:Nat):Option (Bool×Nat):=(kB a2 a3).bind fun(v4,v5)=>((if a1=true then(if(decide (((aA v5).length:Int)>0))=true then(mV 1).bind fun v11=>(uS v4 v11).bind fun v13=>some (v13)else some (v4))else some (v4))).bind fun v15=>(cD a1 v15).bind fun(v16,v17)=>some (v16,v17)
theorem uL{a1:Bool}{a2:Nat}{a3:Nat}{r19:Bool}{r20:Nat}(h:gZ a1 a2 a3=some (r19,r20)):aW PP 188 [] [D.agg ([D.bool a1,aj a2]),aj a3] [] (D.agg ([D.bool r19,aj r20])):=by
 unfold gZ at h;refine .of Go.Proofs.Tryz.func188 rfl (by kernel_rfl) rfl rfl rfl rfl rfl rfl (fun A w0 L b=>?_);show Ok PP _ [(0,D.agg ([D.bool a1,aj a2])),(1,aj a3)] [] _ _;refine .al (.j8 rfl rfl<|.fW ([D.bool false,aj 0]) dH ⟨.refl _,aV,trivial⟩ rfl<|.nil) rfl ?_;obtain⟨⟨v4,v5⟩,e6,h⟩:=bind_some h;refine .al (.fa rfl aK<|.bA (aj a2) rfl rfl aS rfl<|.mv rfl<|.ah (rO e6) ⟨rfl,rfl,trivial⟩ trivial trivial<|.mv rfl<|.ext rfl rfl<|.ext rfl rfl<|.ao rfl<|.ao rfl<|.nil) rfl ?_;obtain⟨v15,hp8,h⟩:=bind_some h;refine .cz (fun i=>v15=i) (fun(i:Nat)=>[(2,D.ref 2 0),(4,D.ref 4 0),(5,aj i)]) (fun(i:Nat)=>[(2,Hp.box 26 ([D.bool a1,aj a2])),(4,Hp.box 26 ([D.bool false,aj 0]))]) ?_ ?_
 ·have ho1:=h;have h:=hp8;by_cases c9:a1=true
  ·replace h:=ab c9 h;refine .al (.fa rfl aQ<|.bA (D.bool a1) rfl rfl bW rfl<|.mv rfl<|.gy c9<|.mv rfl<|.gy c9<|.yQ rfl au<|.gy c9<|.cm rfl rfl rfl<|.bm rfl c9 rfl<|.nil) rfl ?_;by_cases c10:(decide (((aA v5).length:Int)>0))=true
   ·replace h:=ab c10 h;refine .cq rfl c10 ?_;obtain⟨v11,e12,h⟩:=bind_some h;obtain⟨v13,e14,h⟩:=bind_some h;refine .region (.mv rfl<|.ah (uG e12) ⟨rfl,trivial⟩ trivial trivial<|.ah (AF e14) ⟨rfl,rfl,trivial⟩ trivial trivial<|.ao rfl<|.nil) rfl (fun _ _ hs=>⟨v13,(sj h),hs.sub (.of rfl) (.of rfl) rfl rfl⟩)
   ·replace h:=ae c10 h;refine .cA rfl c10 ?_;refine .skip (fun _ _ hs=>⟨v4,(sj h),hs.sub (.of rfl) (.of rfl) rfl rfl⟩)
  ·replace h:=ae c9 h;refine .al (.fa rfl aQ<|.bA (D.bool a1) rfl rfl bW rfl<|.mv rfl<|.gm c9<|.gm c9<|.gm c9<|.bh rfl c9 rfl<|.nil) rfl ?_;refine .cA rfl (by decide) ?_;refine .skip (fun _ _ hs=>⟨v4,(sj h),hs.sub (.of rfl) (.of rfl) rfl rfl⟩)
 ·rintro _ rfl
  try dsimp only
  obtain⟨⟨v16,v17⟩,e18,h⟩:=bind_some h;refine .al (.fa rfl aQ<|.bA (D.bool a1) rfl rfl bW rfl<|.mv rfl<|.ah (eo e18) ⟨rfl,rfl,trivial⟩ trivial trivial<|.cH ([D.bool v16,aj v17]) rfl rfl rfl bb rfl rfl rfl<|.nil) rfl ?_;cases h;refine .aN (fun _ _ hb=>hb) rfl (.cons (.agg rfl rfl bb rfl) .nil) (.refl _) trivial trivial
def ff(a1:Bool)(a2:Nat)(a3:Nat):Option Nat:=(mV 1).bind fun v4=>(uS a3 v4).bind fun v6=>some v6
theorem ib{a1:Bool}{a2:Nat}{a3:Nat}{r8:Nat}(h:ff a1 a2 a3=some r8):aW PP 168 [] [D.agg ([D.bool a1,aj a2,aj a3])] [] (aj r8):=by
 unfold ff at h;refine .of Go.Proofs.Tryz.func168 rfl (by kernel_rfl) rfl rfl rfl rfl rfl rfl (fun A w0 L b=>?_);show Ok PP _ [(0,D.agg ([D.bool a1,aj a2,aj a3]))] [] _ _;refine .al (.j8 rfl rfl<|.ao rfl<|.nil) rfl ?_;obtain⟨v4,e5,h⟩:=bind_some h;obtain⟨v6,e7,h⟩:=bind_some h;refine .dh cn (.fa rfl lC<|.bA (aj a3) rfl rfl aS rfl<|.ah (uG e5) ⟨rfl,trivial⟩ trivial trivial<|.ah (AF e7) ⟨rfl,rfl,trivial⟩ trivial trivial<|.ao rfl<|.nil) rfl (by kernel_rfl) ?_;cases h;refine .aN (fun _ _ hb=>hb) rfl (.t1 (.tmp rfl)) (.refl _) trivial trivial
def eG(a1:Bool)(a2:Nat)(a3:Nat):Option ((Bool×Nat)×Nat):=((Cg a2 a3).bind fun v6=>(if(((aA v6).length:Int) !=1)=true then(kB a2 v6).bind fun(v9,v10)=>(kB a3 v6).bind fun(v12,v13)=>some ((v12,v9))else(ix (aA v6) 0).bind fun v15=>(if((v15:Int) !=1)=true then(kB a2 v6).bind fun(v18,v19)=>(kB a3 v6).bind fun(v21,v22)=>some ((v21,v18))else some ((a3,a2))))).bind fun(v24,v25)=>(cD a1 v25).bind fun(v26,v27)=>(mV 1).bind fun v29=>(yx v24 v29).bind fun v31=>some ((v26,v27),v31)
theorem kR{a1:Bool}{a2:Nat}{a3:Nat}{r33:Bool}{r34:Nat}{r35:Nat}(h:eG a1 a2 a3=some ((r33,r34),r35)):aW PP 151 [] [D.agg ([D.bool a1,aj a2]),aj a3] [] (D.agg ([D.bool r33,aj r34,aj r35])):=by
 unfold eG at h;refine .of Go.Proofs.Tryz.func151 rfl (by kernel_rfl) rfl rfl rfl rfl rfl rfl (fun A w0 L b=>?_);show Ok PP _ [(0,D.agg ([D.bool a1,aj a2])),(1,aj a3)] [] _ _;refine .al (.j8 rfl rfl<|.fW ([D.bool false,aj 0,aj 0]) az ⟨.refl _,aV,aV,trivial⟩ rfl<|.nil) rfl ?_;obtain⟨o4,hp5,h⟩:=bind_some h;refine .cz (fun i=>o4=i) (fun(i:Nat×Nat)=>[(1,aj i.1),(2,D.ref 2 0),(4,D.ref 4 0)]) (fun(i:Nat×Nat)=>[(2,Hp.box 26 ([D.bool a1,aj i.2])),(4,Hp.box 28 ([D.bool false,aj 0,aj 0]))]) ?_ ?_
 ·have ho1:=h;have h:=hp5;obtain⟨v6,e7,h⟩:=bind_some h;refine .al (.fa rfl aK<|.bA (aj a2) rfl rfl aS rfl<|.mv rfl<|.ah (HR e7) ⟨rfl,rfl,trivial⟩ trivial trivial<|.ao rfl<|.nil) rfl ?_;by_cases c8:(((aA v6).length:Int) !=1)=true
  ·replace h:=ab c8 h;refine .al (.mv rfl<|.yQ rfl au<|.cm rfl rfl rfl<|.mv rfl<|.gk c8<|.gk c8<|.gk c8<|.gk c8<|.bm rfl c8 rfl<|.nil) rfl ?_;refine .cq rfl rfl ?_;obtain⟨⟨v9,v10⟩,e11,h⟩:=bind_some h;refine .al (.fa rfl aK<|.bA (aj a2) rfl rfl aS rfl<|.mv rfl<|.ah (rO e11) ⟨rfl,rfl,trivial⟩ trivial trivial<|.mv rfl<|.ext rfl rfl<|.ext rfl rfl<|.fa rfl aK<|.zi ([D.bool a1,aj v9]) rfl rfl rfl aS rfl rfl rfl<|.nil) rfl ?_;obtain⟨⟨v12,v13⟩,e14,h⟩:=bind_some h;refine .region (.mv rfl<|.mv rfl<|.ah (rO e14) ⟨rfl,rfl,trivial⟩ trivial trivial<|.mv rfl<|.ext rfl rfl<|.ext rfl rfl<|.ao rfl<|.nil) rfl (fun _ _ hs=>⟨(v12,v9),(sj h),hs.sub (.of rfl) (.of rfl) rfl rfl⟩)
  ·replace h:=ae c8 h;obtain⟨v15,e16,h⟩:=bind_some h;refine .al (.mv rfl<|.yQ rfl au<|.cm rfl rfl rfl<|.mv rfl<|.gz c8<|.mv rfl<|.gz c8<|.Ik rfl rfl av e16<|.gz c8<|.iJ rfl aP<|.gz c8<|.cm rfl rfl rfl<|.bh rfl c8 rfl<|.nil) rfl ?_;by_cases c17:((v15:Int) !=1)=true
   ·replace h:=ab c17 h;refine .cq rfl c17 ?_;obtain⟨⟨v18,v19⟩,e20,h⟩:=bind_some h;refine .al (.fa rfl aK<|.bA (aj a2) rfl rfl aS rfl<|.mv rfl<|.ah (rO e20) ⟨rfl,rfl,trivial⟩ trivial trivial<|.mv rfl<|.ext rfl rfl<|.ext rfl rfl<|.fa rfl aK<|.zi ([D.bool a1,aj v18]) rfl rfl rfl aS rfl rfl rfl<|.nil) rfl ?_;obtain⟨⟨v21,v22⟩,e23,h⟩:=bind_some h;refine .region (.mv rfl<|.mv rfl<|.ah (rO e23) ⟨rfl,rfl,trivial⟩ trivial trivial<|.mv rfl<|.ext rfl rfl<|.ext rfl rfl<|.ao rfl<|.nil) rfl (fun _ _ hs=>⟨(v21,v18),(sj h),hs.sub (.of rfl) (.of rfl) rfl rfl⟩)
   ·replace h:=ae c17 h;refine .cA rfl c17 ?_;refine .skip (fun _ _ hs=>⟨(a3,a2),(sj h),hs.sub (.of rfl) (.of rfl) rfl rfl⟩)
 ·rintro⟨v24,v25⟩ rfl
  try dsimp only
  obtain⟨⟨v26,v27⟩,e28,h⟩:=bind_some h;obtain⟨v29,e30,h⟩:=bind_some h;obtain⟨v31,e32,h⟩:=bind_some h;refine .al (.fa rfl aQ<|.bA (D.bool a1) rfl rfl bW rfl<|.fa rfl aK<|.bA (aj v25) rfl rfl aS rfl<|.ah (eo e28) ⟨rfl,rfl,trivial⟩ trivial trivial<|.mv rfl<|.ah (uG e30) ⟨rfl,trivial⟩ trivial trivial<|.ah (Dd e32) ⟨rfl,rfl,trivial⟩ trivial trivial<|.pC ([D.bool v26,aj v27,aj v31]) [(0,_,D.agg ([D.bool v26,aj v27]),[D.bool v26,aj v27]),(2,_,aj v31,[aj v31])] az cw ⟨rfl,rfl,.agg _,rfl,rfl,rfl,.one rfl,rfl,trivial⟩ ⟨rfl,rfl,trivial⟩ ⟨.refl _,.refl _,.refl _,trivial⟩<|.cH ([D.bool v26,aj v27,aj v31]) rfl rfl rfl aa rfl rfl rfl<|.nil) rfl ?_;cases h;refine .aN (fun _ _ hb=>hb) rfl (.cons (.agg rfl rfl aa rfl) .nil) (.refl _) trivial trivial
def uO(a1:Bool)(a2:Nat):Option ((Bool×Nat)×Nat):=some ((a1,a2),0)
theorem Ds{a1:Bool}{a2:Nat}{r3:Bool}{r4:Nat}{r5:Nat}(h:uO a1 a2=some ((r3,r4),r5)):aW PP 169 [] [D.agg ([D.bool a1,aj a2])] [] (D.agg ([D.bool r3,aj r4,aj r5])):=by
 unfold uO at h;refine .of Go.Proofs.Tryz.func169 rfl (by kernel_rfl) rfl rfl rfl rfl rfl rfl (fun A w0 L b=>?_);show Ok PP _ [(0,D.agg ([D.bool a1,aj a2]))] [] _ _;refine .al (.j8 rfl rfl<|.fW ([D.bool false,aj 0,aj 0]) az ⟨.refl _,aV,aV,trivial⟩ rfl<|.nil) rfl ?_;refine .al (.cb ([D.bool a1,aj a2]) rfl rfl bb rfl rfl<|.pC ([D.bool a1,aj a2,aj 0]) [(0,_,D.agg ([D.bool a1,aj a2]),[D.bool a1,aj a2])] az cw ⟨rfl,rfl,.agg _,rfl,trivial⟩ ⟨rfl,trivial⟩ ⟨.refl _,.refl _,aV,trivial⟩<|.cH ([D.bool a1,aj a2,aj 0]) rfl rfl rfl aa rfl rfl rfl<|.nil) rfl ?_;cases h;refine .aN (fun _ _ hb=>hb) rfl (.cons (.agg rfl rfl aa rfl) .nil) (.refl _) trivial trivial
def gr(a1:Int):Option Nat:=(if(decide (a1<0))=true then(mV (IntKind.u64.wrap (0-(IntKind.u64.wrap a1)))).bind fun v3=>some v3 else(mV (IntKind.u64.wrap a1)).bind fun v5=>some v5)
theorem n8{a1:Int}{r7:Nat}(h:gr a1=some r7):aW PP 179 [] [D.int .i64 a1] [] (aj r7):=by
 unfold gr at h;refine .of Go.Proofs.Tryz.func179 rfl (by kernel_rfl) rfl rfl rfl rfl rfl rfl (fun A w0 L b=>?_);show Ok PP _ [(0,D.int .i64 a1)] [] _ _;refine .al (.ao rfl<|.nil) rfl ?_;refine .sq ?_;refine .al (.mv rfl<|.cm rfl rfl rfl<|.nil) rfl ?_;by_cases c2:(decide (a1<0))=true
 ·replace h:=ab c2 h;refine .cq rfl c2 ?_;obtain⟨v3,e4,h⟩:=bind_some h;refine .al (.mv rfl<|.cv rfl ng rfl<|.neg rfl rfl<|.ah (uG e4) ⟨rfl,trivial⟩ trivial trivial<|.ao rfl<|.nil) rfl ?_;cases h;refine .aN (fun _ _ hb=>hb) rfl (.t1 (.tmp rfl)) (.refl _) trivial trivial
 ·replace h:=ae c2 h;refine .cA rfl c2 ?_;refine .skip (Ok.on ?_);obtain⟨v5,e6,h⟩:=bind_some h;refine .al (.mv rfl<|.cv rfl ng rfl<|.ah (uG e6) ⟨rfl,trivial⟩ trivial trivial<|.ao rfl<|.nil) rfl ?_;cases h;refine .aN (fun _ _ hb=>hb) rfl (.t1 (.tmp rfl)) (.refl _) trivial trivial
def Ak(a1:Int):Option ((Bool×Nat)×Nat):=(gr a1).bind fun v2=>(cD (decide (a1<0)) v2).bind fun(v4,v5)=>(uO v4 v5).bind fun((v7,v8),v9)=>some ((v7,v8),v9)
theorem Ib{a1:Int}{r11:Bool}{r12:Nat}{r13:Nat}(h:Ak a1=some ((r11,r12),r13)):aW PP 40 [] [D.int .i64 a1] [] (D.agg ([D.bool r11,aj r12,aj r13])):=by
 unfold Ak at h;refine .of Go.Proofs.Tryz.func40 rfl (by kernel_rfl) rfl rfl rfl rfl rfl rfl (fun A w0 L b=>?_);show Ok PP _ [(0,D.int .i64 a1)] [] _ _;refine .al (.fW ([D.bool false,aj 0,aj 0]) az ⟨.refl _,aV,aV,trivial⟩ rfl<|.nil) rfl ?_;obtain⟨v2,e3,h⟩:=bind_some h;obtain⟨⟨v4,v5⟩,e6,h⟩:=bind_some h;obtain⟨⟨⟨v7,v8⟩,v9⟩,e10,h⟩:=bind_some h;refine .al (.mv rfl<|.cm rfl rfl rfl<|.mv rfl<|.ah (n8 e3) ⟨rfl,trivial⟩ trivial trivial<|.ah (eo e6) ⟨rfl,rfl,trivial⟩ trivial trivial<|.ah (Ds e10) ⟨rfl,trivial⟩ trivial trivial<|.cH ([D.bool v7,aj v8,aj v9]) rfl rfl rfl aa rfl rfl rfl<|.nil) rfl ?_;cases h;refine .aN (fun _ _ hb=>hb) rfl (.cons (.agg rfl rfl aa rfl) .nil) (.refl _) trivial trivial
def E7(a1:Int)(a2:Int):Option (((Bool×Nat)×Nat)×Int):=(if(a2==0)=true then some (((false,0),0),9)else(gr a1).bind fun v4=>(cD (!((decide (a1<0))==(decide (a2<0)))) v4).bind fun(v6,v7)=>(gr a2).bind fun v9=>(eG v6 v7 v9).bind fun((v11,v12),v13)=>some (((v11,v12),v13),0))
theorem Ia{a1:Int}{a2:Int}{r15:Bool}{r16:Nat}{r17:Nat}{r18:Int}(h:E7 a1 a2=some (((r15,r16),r17),r18)):aW PP 36 [] [D.int .i64 a1,D.int .i64 a2] [] (D.gV [D.agg ([D.bool r15,aj r16,aj r17]),D.int .i64 r18]):=by
 unfold E7 at h;refine .of Go.Proofs.Tryz.func36 rfl (by kernel_rfl) rfl rfl rfl rfl rfl rfl (fun A w0 L b=>?_);show Ok PP _ [(0,D.int .i64 a1),(1,D.int .i64 a2)] [] _ _;refine .al (.fW ([D.bool false,aj 0,aj 0]) az ⟨.refl _,aV,aV,trivial⟩ rfl<|.ao rfl<|.nil) rfl ?_;refine .sq ?_;refine .al (.mv rfl<|.cm rfl rfl rfl<|.nil) rfl ?_;by_cases c3:(a2==0)=true
 ·replace h:=ab c3 h;refine .cq rfl c3 ?_;refine .al (.pC ([D.bool false,aj 0,aj 0]) [] az cw trivial trivial ⟨.refl _,aV,aV,trivial⟩<|.cH ([D.bool false,aj 0,aj 0]) rfl rfl rfl aa rfl rfl rfl<|.ao rfl<|.nil) rfl ?_;cases h;refine .aN (fun _ _ hb=>hb) rfl (.cons (.agg rfl rfl aa rfl) (.t1 (.tmp rfl))) (.refl _) trivial trivial
 ·replace h:=ae c3 h;refine .cA rfl c3 ?_;refine .skip (Ok.on ?_);obtain⟨v4,e5,h⟩:=bind_some h;obtain⟨⟨v6,v7⟩,e8,h⟩:=bind_some h;obtain⟨v9,e10,h⟩:=bind_some h;obtain⟨⟨⟨v11,v12⟩,v13⟩,e14,h⟩:=bind_some h;refine .al (.mv rfl<|.cm rfl rfl rfl<|.mv rfl<|.cm rfl rfl rfl<|.bc jF rfl rfl rfl<|.mv rfl<|.ah (n8 e5) ⟨rfl,trivial⟩ trivial trivial<|.ah (eo e8) ⟨rfl,rfl,trivial⟩ trivial trivial<|.mv rfl<|.ah (n8 e10) ⟨rfl,trivial⟩ trivial trivial<|.ah (kR e14) ⟨rfl,rfl,trivial⟩ trivial trivial<|.cH ([D.bool v11,aj v12,aj v13]) rfl rfl rfl aa rfl rfl rfl<|.ao rfl<|.nil) rfl ?_;cases h;refine .aN (fun _ _ hb=>hb) rfl (.cons (.agg rfl rfl aa rfl) (.t1 (.tmp rfl))) (.refl _) trivial trivial
def p7(a1:Bool)(a2:Nat)(a3:Nat):Option (List UInt8):=(AL a2).bind fun v4=>((if a1=true then bO (([45]:List UInt8).length+v4.length<=9223372036854775807) (some ((([45]:List UInt8)++v4)))else some (v4))).bind fun v10=>((if(decide (((aA a3).length:Int)>0))=true then(ff a1 a2 a3).bind fun v14=>(AL v14).bind fun v16=>bO (([47]:List UInt8).length+v16.length<=9223372036854775807) (bO (v10.length+(([47]:List UInt8)++v16).length<=9223372036854775807) (some ((v10++(([47]:List UInt8)++v16)))))else some (v10))).bind fun v20=>some v20
theorem CW{a1:Bool}{a2:Nat}{a3:Nat}{r21:List UInt8}(h:p7 a1 a2 a3=some r21):aW PP 33 [] [D.agg ([D.bool a1,aj a2,aj a3])] [] (cf r21):=by
 unfold p7 at h;refine .of Go.Proofs.Tryz.func33 rfl (by kernel_rfl) rfl rfl rfl rfl rfl rfl (fun A w0 L b=>?_);show Ok PP _ [(0,D.agg ([D.bool a1,aj a2,aj a3]))] [] _ _;refine .al (.j8 rfl rfl<|.ao rfl<|.nil) rfl ?_;obtain⟨v4,e5,h⟩:=bind_some h;refine .al (.fa rfl bL<|.fa rfl aK<|.bA (aj a2) rfl rfl aS rfl<|.ah (F2 e5) ⟨rfl,trivial⟩ trivial trivial<|.ao rfl<|.nil) rfl ?_;obtain⟨v10,hp7,h⟩:=bind_some h;refine .cz (fun i=>v10=i) (fun(i:(List UInt8))=>[(1,D.ref 1 0),(3,cf i)]) (fun(i:(List UInt8))=>[(1,Hp.box 28 ([D.bool a1,aj a2,aj a3]))]) ?_ ?_
 ·have ho1:=h;have h:=hp7;refine .al (.fa rfl bL<|.fa rfl aQ<|.bA (D.bool a1) rfl rfl bW rfl<|.nil) rfl ?_;by_cases c8:a1=true
  ·replace h:=ab c8 h;refine .cq rfl c8 ?_;obtain⟨k9,h⟩:=ax h;refine .region (.mv rfl<|.EM rfl rfl k9<|.ao rfl<|.nil) rfl (fun _ _ hs=>⟨(([45]:List UInt8)++v4),(sj h),hs.sub (.of rfl) (.of rfl) rfl rfl⟩)
  ·replace h:=ae c8 h;refine .cA rfl c8 ?_;refine .skip (fun _ _ hs=>⟨v4,(sj h),hs.sub (.of rfl) (.of rfl) rfl rfl⟩)
 ·rintro _ rfl
  try dsimp only
  obtain⟨v20,hp12,h⟩:=bind_some h;refine .cz (fun i=>v20=i) (fun(i:(List UInt8))=>[(3,cf i)]) (fun(i:(List UInt8))=>[]) ?_ ?_
  ·have ho1:=h;have h:=hp12;refine .al (.fa rfl lC<|.bA (aj a3) rfl rfl aS rfl<|.yQ rfl au<|.cm rfl rfl rfl<|.nil) rfl ?_;by_cases c13:(decide (((aA a3).length:Int)>0))=true
   ·replace h:=ab c13 h;refine .cq rfl c13 ?_;obtain⟨v14,e15,h⟩:=bind_some h;obtain⟨v16,e17,h⟩:=bind_some h;obtain⟨k18,h⟩:=ax h;obtain⟨k19,h⟩:=ax h;refine .region (.mv rfl<|.cb ([D.bool a1,aj a2,aj a3]) rfl rfl aa rfl rfl<|.ah (ib e15) ⟨rfl,trivial⟩ trivial trivial<|.ah (F2 e17) ⟨rfl,trivial⟩ trivial trivial<|.EM rfl rfl k18<|.EM rfl rfl k19<|.ao rfl<|.nil) rfl (fun _ _ hs=>⟨(v10++(([47]:List UInt8)++v16)),(sj h),hs.sub (.of rfl) trivial rfl rfl⟩)
   ·replace h:=ae c13 h;refine .cA rfl c13 ?_;refine .skip (fun _ _ hs=>⟨v10,(sj h),hs.sub (.of rfl) trivial rfl rfl⟩)
  ·rintro _ rfl
   try dsimp only
   refine .al (.mv rfl<|.ao rfl<|.nil) rfl ?_;cases h;refine .aN (fun _ _ hb=>hb) rfl (.t1 (.tmp rfl)) (.refl _) trivial trivial
def p_(a1:Bool)(a2:Nat)(a3:Nat)(a4:Bool)(a5:Nat)(a6:Nat):Option ((Bool×Nat)×Nat):=(ff a1 a2 a3).bind fun v7=>(ff a4 a5 a6).bind fun v9=>(ec a1 a2 v9).bind fun(v11,v12)=>(ec a4 a5 v7).bind fun(v14,v15)=>(jU v11 v12 v14 v15).bind fun(v17,v18)=>(p6 v7 v9).bind fun v20=>(eG v17 v18 v20).bind fun((v22,v23),v24)=>some ((v22,v23),v24)
theorem AQ{a1:Bool}{a2:Nat}{a3:Nat}{a4:Bool}{a5:Nat}{a6:Nat}{r26:Bool}{r27:Nat}{r28:Nat}(h:p_ a1 a2 a3 a4 a5 a6=some ((r26,r27),r28)):aW PP 42 [] [D.agg ([D.bool a1,aj a2,aj a3]),D.agg ([D.bool a4,aj a5,aj a6])] [] (D.agg ([D.bool r26,aj r27,aj r28])):=by
 unfold p_ at h;refine .of Go.Proofs.Tryz.func42 rfl (by kernel_rfl) rfl rfl rfl rfl rfl rfl (fun A w0 L b=>?_);show Ok PP _ [(0,D.agg ([D.bool a1,aj a2,aj a3])),(1,D.agg ([D.bool a4,aj a5,aj a6]))] [] _ _;refine .al (.j8 rfl rfl<|.j8 rfl rfl<|.fW ([D.bool false,aj 0,aj 0]) az ⟨.refl _,aV,aV,trivial⟩ rfl<|.nil) rfl ?_;obtain⟨v7,e8,h⟩:=bind_some h;obtain⟨v9,e10,h⟩:=bind_some h;refine .dh cn (.cb ([D.bool a1,aj a2,aj a3]) rfl rfl aa rfl rfl<|.ah (ib e8) ⟨rfl,trivial⟩ trivial trivial<|.cb ([D.bool a4,aj a5,aj a6]) rfl rfl aa rfl rfl<|.ah (ib e10) ⟨rfl,trivial⟩ trivial trivial<|.ao rfl<|.ao rfl<|.nil) rfl (by kernel_rfl) ?_;obtain⟨⟨v11,v12⟩,e13,h⟩:=bind_some h;obtain⟨⟨v14,v15⟩,e16,h⟩:=bind_some h;obtain⟨⟨v17,v18⟩,e19,h⟩:=bind_some h;obtain⟨v20,e21,h⟩:=bind_some h;obtain⟨⟨⟨v22,v23⟩,v24⟩,e25,h⟩:=bind_some h;refine .dh cn (.fa rfl bL<|.cb ([D.bool a1,aj a2]) rfl rfl bb rfl rfl<|.mv rfl<|.ah (jJ e13) ⟨rfl,rfl,trivial⟩ trivial trivial<|.fa rfl bL<|.cb ([D.bool a4,aj a5]) rfl rfl bb rfl rfl<|.mv rfl<|.ah (jJ e16) ⟨rfl,rfl,trivial⟩ trivial trivial<|.ah (yF e19) ⟨rfl,rfl,trivial⟩ trivial trivial<|.mv rfl<|.mv rfl<|.ah (s6 e21) ⟨rfl,rfl,trivial⟩ trivial trivial<|.ah (kR e25) ⟨rfl,rfl,trivial⟩ trivial trivial<|.cH ([D.bool v22,aj v23,aj v24]) rfl rfl rfl aa rfl rfl rfl<|.nil) rfl (by kernel_rfl) ?_;cases h;refine .aN (fun _ _ hb=>hb) rfl (.cons (.agg rfl rfl aa rfl) .nil) (.refl _) trivial trivial
def pI(a1:Bool)(a2:Nat)(a3:Nat):Option ((Bool×Nat)×Nat):=(cD (!a1) a2).bind fun(v4,v5)=>some ((v4,v5),a3)
theorem AM{a1:Bool}{a2:Nat}{a3:Nat}{r7:Bool}{r8:Nat}{r9:Nat}(h:pI a1 a2 a3=some ((r7,r8),r9)):aW PP 48 [] [D.agg ([D.bool a1,aj a2,aj a3])] [] (D.agg ([D.bool r7,aj r8,aj r9])):=by
 unfold pI at h;refine .of Go.Proofs.Tryz.func48 rfl (by kernel_rfl) rfl rfl rfl rfl rfl rfl (fun A w0 L b=>?_);show Ok PP _ [(0,D.agg ([D.bool a1,aj a2,aj a3]))] [] _ _;refine .al (.j8 rfl rfl<|.fW ([D.bool false,aj 0,aj 0]) az ⟨.refl _,aV,aV,trivial⟩ rfl<|.nil) rfl ?_;obtain⟨⟨v4,v5⟩,e6,h⟩:=bind_some h;refine .dh cn (.fa rfl bL<|.fa rfl aQ<|.bA (D.bool a1) rfl rfl bW rfl<|.not rfl<|.fa rfl bL<|.fa rfl aK<|.bA (aj a2) rfl rfl aS rfl<|.ah (eo e6) ⟨rfl,rfl,trivial⟩ trivial trivial<|.fa rfl lC<|.bA (aj a3) rfl rfl aS rfl<|.pC ([D.bool v4,aj v5,aj a3]) [(0,_,D.agg ([D.bool v4,aj v5]),[D.bool v4,aj v5]),(2,_,aj a3,[aj a3])] az cw ⟨rfl,rfl,.agg _,rfl,rfl,rfl,.one rfl,rfl,trivial⟩ ⟨rfl,rfl,trivial⟩ ⟨.refl _,.refl _,.refl _,trivial⟩<|.cH ([D.bool v4,aj v5,aj a3]) rfl rfl rfl aa rfl rfl rfl<|.nil) rfl (by kernel_rfl) ?_;cases h;refine .aN (fun _ _ hb=>hb) rfl (.cons (.agg rfl rfl aa rfl) .nil) (.refl _) trivial trivial
def sH(a1:Bool)(a2:Nat)(a3:Nat)(a4:Bool)(a5:Nat)(a6:Nat):Option ((Bool×Nat)×Nat):=(pI a4 a5 a6).bind fun((v7,v8),v9)=>(p_ a1 a2 a3 v7 v8 v9).bind fun((v11,v12),v13)=>some ((v11,v12),v13)
theorem Fx{a1:Bool}{a2:Nat}{a3:Nat}{a4:Bool}{a5:Nat}{a6:Nat}{r15:Bool}{r16:Nat}{r17:Nat}(h:sH a1 a2 a3 a4 a5 a6=some ((r15,r16),r17)):aW PP 44 [] [D.agg ([D.bool a1,aj a2,aj a3]),D.agg ([D.bool a4,aj a5,aj a6])] [] (D.agg ([D.bool r15,aj r16,aj r17])):=by
 unfold sH at h;refine .of Go.Proofs.Tryz.func44 rfl (by kernel_rfl) rfl rfl rfl rfl rfl rfl (fun A w0 L b=>?_);show Ok PP _ [(0,D.agg ([D.bool a1,aj a2,aj a3])),(1,D.agg ([D.bool a4,aj a5,aj a6]))] [] _ _;refine .al (.j8 rfl rfl<|.j8 rfl rfl<|.fW ([D.bool false,aj 0,aj 0]) az ⟨.refl _,aV,aV,trivial⟩ rfl<|.nil) rfl ?_;obtain⟨⟨⟨v7,v8⟩,v9⟩,e10,h⟩:=bind_some h;obtain⟨⟨⟨v11,v12⟩,v13⟩,e14,h⟩:=bind_some h;refine .dh cn (.cb ([D.bool a1,aj a2,aj a3]) rfl rfl aa rfl rfl<|.cb ([D.bool a4,aj a5,aj a6]) rfl rfl aa rfl rfl<|.ah (AM e10) ⟨rfl,trivial⟩ trivial trivial<|.ah (AQ e14) ⟨rfl,rfl,trivial⟩ trivial trivial<|.cH ([D.bool v11,aj v12,aj v13]) rfl rfl rfl aa rfl rfl rfl<|.nil) rfl (by kernel_rfl) ?_;cases h;refine .aN (fun _ _ hb=>hb) rfl (.cons (.agg rfl rfl aa rfl) .nil) (.refl _) trivial trivial
def sM(a1:Bool)(a2:Nat)(a3:Nat)(a4:Bool)(a5:Nat)(a6:Nat):Option ((Bool×Nat)×Nat):=(p6 a2 a5).bind fun v7=>(cD (!(a1==a4)) v7).bind fun(v9,v10)=>(ff a1 a2 a3).bind fun v12=>(ff a4 a5 a6).bind fun v14=>(p6 v12 v14).bind fun v16=>(eG v9 v10 v16).bind fun((v18,v19),v20)=>some ((v18,v19),v20)
theorem Er{a1:Bool}{a2:Nat}{a3:Nat}{a4:Bool}{a5:Nat}{a6:Nat}{r22:Bool}{r23:Nat}{r24:Nat}(h:sM a1 a2 a3 a4 a5 a6=some ((r22,r23),r24)):aW PP 46 [] [D.agg ([D.bool a1,aj a2,aj a3]),D.agg ([D.bool a4,aj a5,aj a6])] [] (D.agg ([D.bool r22,aj r23,aj r24])):=by
 unfold sM at h;refine .of Go.Proofs.Tryz.func46 rfl (by kernel_rfl) rfl rfl rfl rfl rfl rfl (fun A w0 L b=>?_);show Ok PP _ [(0,D.agg ([D.bool a1,aj a2,aj a3])),(1,D.agg ([D.bool a4,aj a5,aj a6]))] [] _ _;refine .al (.j8 rfl rfl<|.j8 rfl rfl<|.fW ([D.bool false,aj 0,aj 0]) az ⟨.refl _,aV,aV,trivial⟩ rfl<|.nil) rfl ?_;obtain⟨v7,e8,h⟩:=bind_some h;obtain⟨⟨v9,v10⟩,e11,h⟩:=bind_some h;obtain⟨v12,e13,h⟩:=bind_some h;obtain⟨v14,e15,h⟩:=bind_some h;obtain⟨v16,e17,h⟩:=bind_some h;obtain⟨⟨⟨v18,v19⟩,v20⟩,e21,h⟩:=bind_some h;refine .dh cn (.fa rfl bL<|.fa rfl aQ<|.bA (D.bool a1) rfl rfl bW rfl<|.fa rfl bL<|.fa rfl aQ<|.bA (D.bool a4) rfl rfl bW rfl<|.bc jF rfl rfl rfl<|.fa rfl bL<|.fa rfl aK<|.bA (aj a2) rfl rfl aS rfl<|.fa rfl bL<|.fa rfl aK<|.bA (aj a5) rfl rfl aS rfl<|.ah (s6 e8) ⟨rfl,rfl,trivial⟩ trivial trivial<|.ah (eo e11) ⟨rfl,rfl,trivial⟩ trivial trivial<|.cb ([D.bool a1,aj a2,aj a3]) rfl rfl aa rfl rfl<|.ah (ib e13) ⟨rfl,trivial⟩ trivial trivial<|.cb ([D.bool a4,aj a5,aj a6]) rfl rfl aa rfl rfl<|.ah (ib e15) ⟨rfl,trivial⟩ trivial trivial<|.ah (s6 e17) ⟨rfl,rfl,trivial⟩ trivial trivial<|.ah (kR e21) ⟨rfl,rfl,trivial⟩ trivial trivial<|.cH ([D.bool v18,aj v19,aj v20]) rfl rfl rfl aa rfl rfl rfl<|.nil) rfl (by kernel_rfl) ?_;cases h;refine .aN (fun _ _ hb=>hb) rfl (.cons (.agg rfl rfl aa rfl) .nil) (.refl _) trivial trivial
def mi(a1:Bool)(a2:Nat)(a3:Nat)(a4:Bool)(a5:Nat)(a6:Nat):Option ((Bool×Nat)×Nat):=(ff a4 a5 a6).bind fun v7=>(p6 a2 v7).bind fun v9=>(cD (!(a1==a4)) v9).bind fun(v11,v12)=>(ff a1 a2 a3).bind fun v14=>(p6 v14 a5).bind fun v16=>(eG v11 v12 v16).bind fun((v18,v19),v20)=>some ((v18,v19),v20)
theorem xV{a1:Bool}{a2:Nat}{a3:Nat}{a4:Bool}{a5:Nat}{a6:Nat}{r22:Bool}{r23:Nat}{r24:Nat}(h:mi a1 a2 a3 a4 a5 a6=some ((r22,r23),r24)):aW PP 164 [] [D.agg ([D.bool a1,aj a2,aj a3]),D.agg ([D.bool a4,aj a5,aj a6])] [] (D.agg ([D.bool r22,aj r23,aj r24])):=by
 unfold mi at h;refine .of Go.Proofs.Tryz.func164 rfl (by kernel_rfl) rfl rfl rfl rfl rfl rfl (fun A w0 L b=>?_);show Ok PP _ [(0,D.agg ([D.bool a1,aj a2,aj a3])),(1,D.agg ([D.bool a4,aj a5,aj a6]))] [] _ _;refine .al (.j8 rfl rfl<|.j8 rfl rfl<|.fW ([D.bool false,aj 0,aj 0]) az ⟨.refl _,aV,aV,trivial⟩ rfl<|.nil) rfl ?_;obtain⟨v7,e8,h⟩:=bind_some h;obtain⟨v9,e10,h⟩:=bind_some h;obtain⟨⟨v11,v12⟩,e13,h⟩:=bind_some h;obtain⟨v14,e15,h⟩:=bind_some h;obtain⟨v16,e17,h⟩:=bind_some h;obtain⟨⟨⟨v18,v19⟩,v20⟩,e21,h⟩:=bind_some h;refine .dh cn (.fa rfl bL<|.fa rfl aQ<|.bA (D.bool a1) rfl rfl bW rfl<|.fa rfl bL<|.fa rfl aQ<|.bA (D.bool a4) rfl rfl bW rfl<|.bc jF rfl rfl rfl<|.fa rfl bL<|.fa rfl aK<|.bA (aj a2) rfl rfl aS rfl<|.cb ([D.bool a4,aj a5,aj a6]) rfl rfl aa rfl rfl<|.ah (ib e8) ⟨rfl,trivial⟩ trivial trivial<|.ah (s6 e10) ⟨rfl,rfl,trivial⟩ trivial trivial<|.ah (eo e13) ⟨rfl,rfl,trivial⟩ trivial trivial<|.cb ([D.bool a1,aj a2,aj a3]) rfl rfl aa rfl rfl<|.ah (ib e15) ⟨rfl,trivial⟩ trivial trivial<|.fa rfl bL<|.fa rfl aK<|.bA (aj a5) rfl rfl aS rfl<|.ah (s6 e17) ⟨rfl,rfl,trivial⟩ trivial trivial<|.ah (kR e21) ⟨rfl,rfl,trivial⟩ trivial trivial<|.cH ([D.bool v18,aj v19,aj v20]) rfl rfl rfl aa rfl rfl rfl<|.nil) rfl (by kernel_rfl) ?_;cases h;refine .aN (fun _ _ hb=>hb) rfl (.cons (.agg rfl rfl aa rfl) .nil) (.refl _) trivial trivial
def nM(a1:Bool)(a2:Nat)(a3:Nat):Option Int:=(iS a1 a2).bind fun v4=>some v4
theorem yc{a1:Bool}{a2:Nat}{a3:Nat}{r6:Int}(h:nM a1 a2 a3=some r6):aW PP 24 [] [D.agg ([D.bool a1,aj a2,aj a3])] [] (D.int .i64 r6):=by
 unfold nM at h;refine .of Go.Proofs.Tryz.func24 rfl (by kernel_rfl) rfl rfl rfl rfl rfl rfl (fun A w0 L b=>?_);show Ok PP _ [(0,D.agg ([D.bool a1,aj a2,aj a3]))] [] _ _;refine .al (.j8 rfl rfl<|.ao rfl<|.nil) rfl ?_;obtain⟨v4,e5,h⟩:=bind_some h;refine .al (.fa rfl bL<|.cb ([D.bool a1,aj a2]) rfl rfl bb rfl rfl<|.ah (wZ e5) ⟨rfl,trivial⟩ trivial trivial<|.ao rfl<|.nil) rfl ?_;cases h;refine .aN (fun _ _ hb=>hb) rfl (.t1 (.tmp rfl)) (.refl _) trivial trivial
def sD(a1:Bool)(a2:Nat)(a3:Nat):Option ((Bool×Nat)×Nat):=(cD false a2).bind fun(v4,v5)=>some ((v4,v5),a3)
theorem E8{a1:Bool}{a2:Nat}{a3:Nat}{r7:Bool}{r8:Nat}{r9:Nat}(h:sD a1 a2 a3=some ((r7,r8),r9)):aW PP 50 [] [D.agg ([D.bool a1,aj a2,aj a3])] [] (D.agg ([D.bool r7,aj r8,aj r9])):=by
 unfold sD at h;refine .of Go.Proofs.Tryz.func50 rfl (by kernel_rfl) rfl rfl rfl rfl rfl rfl (fun A w0 L b=>?_);show Ok PP _ [(0,D.agg ([D.bool a1,aj a2,aj a3]))] [] _ _;refine .al (.j8 rfl rfl<|.fW ([D.bool false,aj 0,aj 0]) az ⟨.refl _,aV,aV,trivial⟩ rfl<|.nil) rfl ?_;obtain⟨⟨v4,v5⟩,e6,h⟩:=bind_some h;refine .dh cn (.fa rfl bL<|.fa rfl aK<|.bA (aj a2) rfl rfl aS rfl<|.ah (eo e6) ⟨rfl,rfl,trivial⟩ trivial trivial<|.fa rfl lC<|.bA (aj a3) rfl rfl aS rfl<|.pC ([D.bool v4,aj v5,aj a3]) [(0,_,D.agg ([D.bool v4,aj v5]),[D.bool v4,aj v5]),(2,_,aj a3,[aj a3])] az cw ⟨rfl,rfl,.agg _,rfl,rfl,rfl,.one rfl,rfl,trivial⟩ ⟨rfl,rfl,trivial⟩ ⟨.refl _,.refl _,.refl _,trivial⟩<|.cH ([D.bool v4,aj v5,aj a3]) rfl rfl rfl aa rfl rfl rfl<|.nil) rfl (by kernel_rfl) ?_;cases h;refine .aN (fun _ _ hb=>hb) rfl (.cons (.agg rfl rfl aa rfl) .nil) (.refl _) trivial trivial
def sA(a1:Bool)(a2:Nat)(a3:Nat)(a4:Bool)(a5:Nat)(a6:Nat):Option Int:=(ff a4 a5 a6).bind fun v7=>(ec a1 a2 v7).bind fun(v9,v10)=>(ff a1 a2 a3).bind fun v12=>(ec a4 a5 v12).bind fun(v14,v15)=>(jM v9 v10 v14 v15).bind fun v17=>some v17
theorem Fe{a1:Bool}{a2:Nat}{a3:Nat}{a4:Bool}{a5:Nat}{a6:Nat}{r19:Int}(h:sA a1 a2 a3 a4 a5 a6=some r19):aW PP 35 [] [D.agg ([D.bool a1,aj a2,aj a3]),D.agg ([D.bool a4,aj a5,aj a6])] [] (D.int .i64 r19):=by
 unfold sA at h;refine .of Go.Proofs.Tryz.func35 rfl (by kernel_rfl) rfl rfl rfl rfl rfl rfl (fun A w0 L b=>?_);show Ok PP _ [(0,D.agg ([D.bool a1,aj a2,aj a3])),(1,D.agg ([D.bool a4,aj a5,aj a6]))] [] _ _;refine .al (.j8 rfl rfl<|.j8 rfl rfl<|.ao rfl<|.nil) rfl ?_;obtain⟨v7,e8,h⟩:=bind_some h;obtain⟨⟨v9,v10⟩,e11,h⟩:=bind_some h;obtain⟨v12,e13,h⟩:=bind_some h;obtain⟨⟨v14,v15⟩,e16,h⟩:=bind_some h;obtain⟨v17,e18,h⟩:=bind_some h;refine .dh cn (.fa rfl bL<|.cb ([D.bool a1,aj a2]) rfl rfl bb rfl rfl<|.cb ([D.bool a4,aj a5,aj a6]) rfl rfl aa rfl rfl<|.ah (ib e8) ⟨rfl,trivial⟩ trivial trivial<|.ah (jJ e11) ⟨rfl,rfl,trivial⟩ trivial trivial<|.fa rfl bL<|.cb ([D.bool a4,aj a5]) rfl rfl bb rfl rfl<|.cb ([D.bool a1,aj a2,aj a3]) rfl rfl aa rfl rfl<|.ah (ib e13) ⟨rfl,trivial⟩ trivial trivial<|.ah (jJ e16) ⟨rfl,rfl,trivial⟩ trivial trivial<|.ah (xI e18) ⟨rfl,rfl,trivial⟩ trivial trivial<|.ao rfl<|.nil) rfl (by kernel_rfl) ?_;cases h;refine .aN (fun _ _ hb=>hb) rfl (.t1 (.tmp rfl)) (.refl _) trivial trivial
def sK(a1:Bool)(a2:Nat)(a3:Nat):Option ((Bool×Nat)×Nat):=(ff a1 a2 a3).bind fun v4=>(uO false v4).bind fun((v6,v7),v8)=>some ((v6,v7),v8)
theorem Ft{a1:Bool}{a2:Nat}{a3:Nat}{r10:Bool}{r11:Nat}{r12:Nat}(h:sK a1 a2 a3=some ((r10,r11),r12)):aW PP 76 [] [D.agg ([D.bool a1,aj a2,aj a3])] [] (D.agg ([D.bool r10,aj r11,aj r12])):=by
 unfold sK at h;refine .of Go.Proofs.Tryz.func76 rfl (by kernel_rfl) rfl rfl rfl rfl rfl rfl (fun A w0 L b=>?_);show Ok PP _ [(0,D.agg ([D.bool a1,aj a2,aj a3]))] [] _ _;refine .al (.j8 rfl rfl<|.fW ([D.bool false,aj 0,aj 0]) az ⟨.refl _,aV,aV,trivial⟩ rfl<|.nil) rfl ?_;obtain⟨v4,e5,h⟩:=bind_some h;obtain⟨⟨⟨v6,v7⟩,v8⟩,e9,h⟩:=bind_some h;refine .al (.cb ([D.bool a1,aj a2,aj a3]) rfl rfl aa rfl rfl<|.ah (ib e5) ⟨rfl,trivial⟩ trivial trivial<|.pC ([D.bool false,aj v4]) [(1,_,aj v4,[aj v4])] dH gj ⟨rfl,rfl,.one rfl,rfl,trivial⟩ ⟨rfl,trivial⟩ ⟨.refl _,.refl _,trivial⟩<|.ah (Ds e9) ⟨rfl,trivial⟩ trivial trivial<|.cH ([D.bool v6,aj v7,aj v8]) rfl rfl rfl aa rfl rfl rfl<|.nil) rfl ?_;cases h;refine .aN (fun _ _ hb=>hb) rfl (.cons (.agg rfl rfl aa rfl) .nil) (.refl _) trivial trivial
def ow(a1:Bool)(a2:Nat)(a3:Nat):Option ((Bool×Nat)×Nat):=(ff a1 a2 a3).bind fun v4=>(gZ a1 a2 v4).bind fun(v6,v7)=>(uO v6 v7).bind fun((v9,v10),v11)=>some ((v9,v10),v11)
theorem BV{a1:Bool}{a2:Nat}{a3:Nat}{r13:Bool}{r14:Nat}{r15:Nat}(h:ow a1 a2 a3=some ((r13,r14),r15)):aW PP 78 [] [D.agg ([D.bool a1,aj a2,aj a3])] [] (D.agg ([D.bool r13,aj r14,aj r15])):=by
 unfold ow at h;refine .of Go.Proofs.Tryz.func78 rfl (by kernel_rfl) rfl rfl rfl rfl rfl rfl (fun A w0 L b=>?_);show Ok PP _ [(0,D.agg ([D.bool a1,aj a2,aj a3]))] [] _ _;refine .al (.j8 rfl rfl<|.fW ([D.bool false,aj 0,aj 0]) az ⟨.refl _,aV,aV,trivial⟩ rfl<|.nil) rfl ?_;obtain⟨v4,e5,h⟩:=bind_some h;obtain⟨⟨v6,v7⟩,e8,h⟩:=bind_some h;obtain⟨⟨⟨v9,v10⟩,v11⟩,e12,h⟩:=bind_some h;refine .dh cn (.fa rfl bL<|.cb ([D.bool a1,aj a2]) rfl rfl bb rfl rfl<|.cb ([D.bool a1,aj a2,aj a3]) rfl rfl aa rfl rfl<|.ah (ib e5) ⟨rfl,trivial⟩ trivial trivial<|.ah (uL e8) ⟨rfl,rfl,trivial⟩ trivial trivial<|.ah (Ds e12) ⟨rfl,trivial⟩ trivial trivial<|.cH ([D.bool v9,aj v10,aj v11]) rfl rfl rfl aa rfl rfl rfl<|.nil) rfl (by kernel_rfl) ?_;cases h;refine .aN (fun _ _ hb=>hb) rfl (.cons (.agg rfl rfl aa rfl) .nil) (.refl _) trivial trivial
def q9(a1:Int):Option ((Bool×Nat)×Nat):=(mV 1).bind fun v2=>(uX v2 a1).bind fun v4=>(uO false v4).bind fun((v6,v7),v8)=>some ((v6,v7),v8)
theorem GB{a1:Int}{r10:Bool}{r11:Nat}{r12:Nat}(h:q9 a1=some ((r10,r11),r12)):aW PP 171 [] [D.int .i64 a1] [] (D.agg ([D.bool r10,aj r11,aj r12])):=by
 unfold q9 at h;refine .of Go.Proofs.Tryz.func171 rfl (by kernel_rfl) rfl rfl rfl rfl rfl rfl (fun A w0 L b=>?_);show Ok PP _ [(0,D.int .i64 a1)] [] _ _;refine .al (.fW ([D.bool false,aj 0,aj 0]) az ⟨.refl _,aV,aV,trivial⟩ rfl<|.nil) rfl ?_;obtain⟨v2,e3,h⟩:=bind_some h;obtain⟨v4,e5,h⟩:=bind_some h;obtain⟨⟨⟨v6,v7⟩,v8⟩,e9,h⟩:=bind_some h;refine .al (.ah (uG e3) ⟨rfl,trivial⟩ trivial trivial<|.mv rfl<|.ah (Cc e5) ⟨rfl,rfl,trivial⟩ trivial trivial<|.pC ([D.bool false,aj v4]) [(1,_,aj v4,[aj v4])] dH gj ⟨rfl,rfl,.one rfl,rfl,trivial⟩ ⟨rfl,trivial⟩ ⟨.refl _,.refl _,trivial⟩<|.ah (Ds e9) ⟨rfl,trivial⟩ trivial trivial<|.cH ([D.bool v6,aj v7,aj v8]) rfl rfl rfl aa rfl rfl rfl<|.nil) rfl ?_;cases h;refine .aN (fun _ _ hb=>hb) rfl (.cons (.agg rfl rfl aa rfl) .nil) (.refl _) trivial trivial
def qA(a1:Bool)(a2:Nat)(a3:Nat)(a4:Int):Option (((Bool×Nat)×Nat)×Int):=(if(decide (a4<0))=true then some (((false,0),0),3)else(if(decide (a4>64))=true then some (((false,0),0),3)else(nM a1 a2 a3).bind fun v7=>(if(decide (v7<0))=true then some (((false,0),0),8)else(uX a2 (IntKind.i64.wrap (2*a4))).bind fun v10=>(ff a1 a2 a3).bind fun v12=>(kB v10 v12).bind fun(v14,v15)=>(yU v14).bind fun v17=>(uO false v17).bind fun((v19,v20),v21)=>(q9 a4).bind fun((v23,v24),v25)=>(mi v19 v20 v21 v23 v24 v25).bind fun((v27,v28),v29)=>some (((v27,v28),v29),0))))
theorem tc{a1:Bool}{a2:Nat}{a3:Nat}{a4:Int}{r31:Bool}{r32:Nat}{r33:Nat}{r34:Int}(h:qA a1 a2 a3 a4=some (((r31,r32),r33),r34)):aW PP 29 [] [D.agg ([D.bool a1,aj a2,aj a3]),D.int .i64 a4] [] (D.gV [D.agg ([D.bool r31,aj r32,aj r33]),D.int .i64 r34]):=by
 unfold qA at h;refine .of Go.Proofs.Tryz.func29 rfl (by kernel_rfl) rfl rfl rfl rfl rfl rfl (fun A w0 L b=>?_);show Ok PP _ [(0,D.agg ([D.bool a1,aj a2,aj a3])),(1,D.int .i64 a4)] [] _ _;refine .al (.j8 rfl rfl<|.fW ([D.bool false,aj 0,aj 0]) az ⟨.refl _,aV,aV,trivial⟩ rfl<|.ao rfl<|.nil) rfl ?_;refine .sq ?_;refine .block ?_;by_cases c5:(decide (a4<0))=true
 ·replace h:=ab c5 h;refine .al (.mv rfl<|.cm rfl rfl rfl<|.mv rfl<|.gk c5<|.gk c5<|.bm rfl c5 rfl<|.ao rfl<|.nil) rfl ?_;refine .cq rfl rfl ?_;refine .al (.pC ([D.bool false,aj 0,aj 0]) [] az cw trivial trivial ⟨.refl _,aV,aV,trivial⟩<|.cH ([D.bool false,aj 0,aj 0]) rfl rfl rfl aa rfl rfl rfl<|.ao rfl<|.nil) rfl ?_;cases h;refine .aN (fun _ _ hb=>hb) rfl (.cons (.agg rfl rfl aa rfl) (.t1 (.tmp rfl))) (.refl _) trivial trivial
 ·replace h:=ae c5 h;refine .al (.mv rfl<|.cm rfl rfl rfl<|.mv rfl<|.gz c5<|.mv rfl<|.gz c5<|.cm rfl rfl rfl<|.bh rfl c5 rfl<|.ao rfl<|.nil) rfl ?_;by_cases c6:(decide (a4>64))=true
  ·replace h:=ab c6 h;refine .cq rfl c6 ?_;refine .al (.pC ([D.bool false,aj 0,aj 0]) [] az cw trivial trivial ⟨.refl _,aV,aV,trivial⟩<|.cH ([D.bool false,aj 0,aj 0]) rfl rfl rfl aa rfl rfl rfl<|.ao rfl<|.nil) rfl ?_;cases h;refine .aN (fun _ _ hb=>hb) rfl (.cons (.agg rfl rfl aa rfl) (.t1 (.tmp rfl))) (.refl _) trivial trivial
  ·replace h:=ae c6 h;refine .cA rfl c6 ?_;obtain⟨v7,e8,h⟩:=bind_some h;refine .al (.cb ([D.bool a1,aj a2,aj a3]) rfl rfl aa rfl rfl<|.ah (yc e8) ⟨rfl,trivial⟩ trivial trivial<|.cm rfl rfl rfl<|.ao rfl<|.nil) rfl ?_;by_cases c9:(decide (v7<0))=true
   ·replace h:=ab c9 h;refine .cq rfl c9 ?_;refine .al (.pC ([D.bool false,aj 0,aj 0]) [] az cw trivial trivial ⟨.refl _,aV,aV,trivial⟩<|.cH ([D.bool false,aj 0,aj 0]) rfl rfl rfl aa rfl rfl rfl<|.ao rfl<|.nil) rfl ?_;cases h;refine .aN (fun _ _ hb=>hb) rfl (.cons (.agg rfl rfl aa rfl) (.t1 (.tmp rfl))) (.refl _) trivial trivial
   ·replace h:=ae c9 h;refine .cA rfl c9 ?_;refine .skip (Ok.on ?_);obtain⟨v10,e11,h⟩:=bind_some h;obtain⟨v12,e13,h⟩:=bind_some h;obtain⟨⟨v14,v15⟩,e16,h⟩:=bind_some h;refine .dh cn (.fa rfl bL<|.fa rfl aK<|.bA (aj a2) rfl rfl aS rfl<|.mv rfl<|.ar rfl rfl rfl<|.ah (Cc e11) ⟨rfl,rfl,trivial⟩ trivial trivial<|.cb ([D.bool a1,aj a2,aj a3]) rfl rfl aa rfl rfl<|.ah (ib e13) ⟨rfl,trivial⟩ trivial trivial<|.ah (rO e16) ⟨rfl,rfl,trivial⟩ trivial trivial<|.mv rfl<|.ext rfl rfl<|.ext rfl rfl<|.ao rfl<|.ao rfl<|.nil) rfl (by kernel_rfl) ?_;obtain⟨v17,e18,h⟩:=bind_some h;obtain⟨⟨⟨v19,v20⟩,v21⟩,e22,h⟩:=bind_some h;obtain⟨⟨⟨v23,v24⟩,v25⟩,e26,h⟩:=bind_some h;obtain⟨⟨⟨v27,v28⟩,v29⟩,e30,h⟩:=bind_some h;refine .al (.mv rfl<|.ah (Hq e18) ⟨rfl,trivial⟩ trivial trivial<|.pC ([D.bool false,aj v17]) [(1,_,aj v17,[aj v17])] dH gj ⟨rfl,rfl,.one rfl,rfl,trivial⟩ ⟨rfl,trivial⟩ ⟨.refl _,.refl _,trivial⟩<|.ah (Ds e22) ⟨rfl,trivial⟩ trivial trivial<|.mv rfl<|.ah (GB e26) ⟨rfl,trivial⟩ trivial trivial<|.ah (xV e30) ⟨rfl,rfl,trivial⟩ trivial trivial<|.cH ([D.bool v27,aj v28,aj v29]) rfl rfl rfl aa rfl rfl rfl<|.ao rfl<|.nil) rfl ?_;cases h;refine .aN (fun _ _ hb=>hb) rfl (.cons (.agg rfl rfl aa rfl) (.t1 (.tmp rfl))) (.refl _) trivial trivial
end
end Go.Am
namespace Go.Am
open Go.RowKit
theorem cR{x y m n:Nat}(h:bz x<=m)(k:bz y<=n):bz (x*y)<=m+n:=by
 rw[gg]at*;rw[Nat.pow_add];exact Nat.mul_lt_mul'' h k
theorem nq{x y:Int}{n:Nat}(h:bz x.natAbs<=n)(k:bz y.natAbs<=n):bz (x+y).natAbs<=n+1:=
 Nat.le_trans (da (Int.natAbs_add_le x y)) (tJ h k)
def sg(neg:Bool)(n:Nat):Int:=if neg then-(n:Int)else n
theorem Fc(z:Int):sg (decide (z<0)) z.natAbs=z:=by
 unfold sg;by_cases h:z<0
 ·rw[decide_eq_true h,if_pos rfl];omega
 ·rw[decide_eq_false h,if_neg (by decide)];omega
theorem nK(neg:Bool)(n:Nat):(sg neg n).natAbs=n:=by unfold sg;split<;>omega
theorem zE(z w:Int):sg (!(decide (z<0)==decide (w<0))) (z.natAbs*w.natAbs)=z*w:=by
 unfold sg;rcases Int.lt_or_le z 0 with h|h<;>rcases Int.lt_or_le w 0 with k|k
 ·rw[decide_eq_true h,decide_eq_true k,if_neg (by decide)];rw[Int.natCast_mul,Int.ofNat_natAbs_of_nonpos (Int.le_of_lt h),Int.ofNat_natAbs_of_nonpos (Int.le_of_lt k),Int.neg_mul_neg]
 ·rw[decide_eq_true h,decide_eq_false (by omega),if_pos (by decide)];rw[Int.natCast_mul,Int.ofNat_natAbs_of_nonpos (Int.le_of_lt h),Int.natAbs_of_nonneg k,Int.neg_mul,Int.neg_neg]
 ·rw[decide_eq_false (by omega),decide_eq_true k,if_pos (by decide)];rw[Int.natCast_mul,Int.natAbs_of_nonneg h,Int.ofNat_natAbs_of_nonpos (Int.le_of_lt k),Int.mul_neg,Int.neg_neg]
 ·rw[decide_eq_false (by omega),decide_eq_false (by omega),if_neg (by decide)];rw[Int.natCast_mul,Int.natAbs_of_nonneg h,Int.natAbs_of_nonneg k]
theorem Ee(z:Int)(d:Nat):sg (decide (z<0)) (z.natAbs*d)=z*d:=by
 have:=zE z d;rw[show decide ((d:Int)<0)=false from decide_eq_false (by omega)]at this;rw[←this];cases decide (z<0)<;>rfl
theorem DH(z:Int):sg (!decide (z<0)) z.natAbs=-z:=by
 unfold sg;by_cases h:z<0
 ·rw[decide_eq_true h,if_neg (by decide)];omega
 ·rw[decide_eq_false h,if_pos (by decide)];omega
theorem n7(n:Nat):decide (((aA n).length:Int)>0)=decide (n≠0):=by
 by_cases h:n=0
 ·subst h;rw[cS];rfl
 ·have:=cM h;rw[decide_eq_true (by omega),decide_eq_true h]
theorem pL(n:Nat):(((aA n).length:Int)==0)=decide (n=0):=by
 by_cases h:n=0
 ·subst h;rw[cS];rfl
 ·have:=cM h;rw[decide_eq_false h,beq_eq_false_iff_ne];omega
theorem dC(neg:Bool)(n:Nat):cD neg n=some (decide (sg neg n<0),(sg neg n).natAbs):=by
 unfold cD;rw[nK,n7];cases neg
 ·rw[if_neg (by decide)];unfold sg;rw[if_neg (by decide),decide_eq_false (by omega)]
 ·rw[if_pos rfl];unfold sg;rw[if_pos rfl];by_cases h:n=0
  ·subst h;rfl
  ·rw[decide_eq_true h,decide_eq_true (by omega)]
theorem uI(z:Int):iS (decide (z<0)) z.natAbs=some (if z<0 then-1 else if z=0 then 0 else 1):=by
 unfold iS;rw[pL];by_cases h:z<0
 ·rw[if_pos (decide_eq_true h),if_pos h]
 ·rw[if_neg (by simpa using h),if_neg h];by_cases h0:z=0
  ·subst h0;rfl
  ·rw[if_neg (by simpa using h0),if_neg h0]
theorem wq(z w:Int)(hz:sm z.natAbs)(hw:sm w.natAbs):jU (decide (z<0)) z.natAbs (decide (w<0)) w.natAbs=some (decide (z+w<0),(z+w).natAbs):=by
 unfold jU;have e1:∀(neg:Bool) (n:Nat),sg neg n=z+w->cD neg n=some (decide (z+w<0),(z+w).natAbs):=fun neg n h=>by rw[dC,h]
 by_cases hs:(decide (z<0)==decide (w<0))=true
 ·rw[if_pos hs,qk hz hw,Option.bind_some,e1]
  ·rfl
  ·unfold sg;rw[beq_iff_eq]at hs;by_cases h:z<0
   ·rw[decide_eq_true h]at*;have hs:=of_decide_eq_true hs.symm;rw[if_pos rfl];omega
   ·rw[decide_eq_false h]at*;have hs:=of_decide_eq_false hs.symm;rw[if_neg (by decide)];omega
 ·rw[if_neg hs,pU hz hw,Option.bind_some];have hs2:(z<0/\0<=w)\/(0<=z/\w<0):=by
   rw[beq_iff_eq]at hs;by_cases h:z<0<;>by_cases k:w<0
   ·rw[decide_eq_true h,decide_eq_true k]at hs;exact absurd rfl hs
   ·left;omega
   ·right;omega
   ·rw[decide_eq_false h,decide_eq_false k]at hs;exact absurd rfl hs
  by_cases hc:w.natAbs<=z.natAbs
  ·rw[if_pos (decide_eq_true (tj hc)),sU hc hz,Option.bind_some,e1]
   ·rfl
   ·unfold sg;split<;>rename_i h<;>simp only[decide_eq_true_eq]at h<;>omega
  ·have:fR z.natAbs w.natAbs=-1:=by unfold fR;rw[if_pos (by omega)]
   rw[this,if_neg (by decide),sU (by omega) hw,Option.bind_some,e1]
   ·rfl
   ·unfold sg;split<;>rename_i h<;>simp only[decide_eq_true_eq]at h<;>omega
theorem iN(z:Int)(d:Nat)(hz:sm z.natAbs)(hd:sm d):ec (decide (z<0)) z.natAbs d=some (decide (z*d<0),(z*d).natAbs):=by
 unfold ec;rw[kW hz hd,Option.bind_some,dC,Ee];rfl
def Fb(z w:Int):Int:=if z<w then-1 else if w<z then 1 else 0
theorem wg(z w:Int)(hz:sm z.natAbs)(hw:sm w.natAbs):jM (decide (z<0)) z.natAbs (decide (w<0)) w.natAbs=some (Fb z w):=by
 unfold jM Fb;by_cases h:z<0<;>by_cases k:w<0
 ·rw[decide_eq_true h,decide_eq_true k,if_neg (by decide),if_pos rfl,pU hw hz];simp only[Option.bind_some,fR];congr 1;split<;>split<;>(try split)<;>(try split)<;>omega
 ·rw[decide_eq_true h,decide_eq_false k,if_pos (by decide),if_pos rfl,if_pos (by omega)]
 ·rw[decide_eq_false h,decide_eq_true k,if_pos (by decide),if_neg (by decide),if_neg (by omega),if_pos (by omega)]
 ·rw[decide_eq_false h,decide_eq_false k,if_neg (by decide),if_neg (by decide),pU hz hw];simp only[Option.bind_some,fR];congr 1;split<;>split<;>(try split)<;>(try split)<;>omega
theorem uw(z:Int)(d:Nat)(h0:d≠0)(hz:sm z.natAbs)(hd:sm d):gZ (decide (z<0)) z.natAbs d=some (decide (z/d<0),(z/d).natAbs):=by
 unfold gZ;rw[iR h0 hz hd,Option.bind_some];simp only;have hm:=Nat.div_add_mod z.natAbs d;have hlt:=Nat.mod_lt z.natAbs (Nat.pos_of_ne_zero h0);have hq:sm (z.natAbs/d):=nn (Nat.div_le_self _ _) hz;have e1:mV (1:Int)=some 1:=kc (n:=1) (by omega);rw[e1,n7];have hsm1:sm 1:=kG (by omega);by_cases h:z<0
 ·rw[decide_eq_true h,if_pos rfl];by_cases hr:z.natAbs%d=0
  ·rw[if_neg (by simpa using hr),Option.bind_some,dC];have:sg true (z.natAbs/d)=z/d:=by
    unfold sg;rw[if_pos rfl]
    symm;apply Int.ediv_eq_of_eq_mul_left (by omega)
    rw[Int.neg_mul,←Int.natCast_mul,Nat.mul_comm];omega
   rw[this];rfl
  ·rw[if_pos (by simpa using hr),Option.bind_some,qk hq hsm1,Option.bind_some,Option.bind_some,dC];have:sg true (z.natAbs/d+1)=z/d:=by
    unfold sg;rw[if_pos rfl]
    symm
    have e:z=(((d-z.natAbs%d:Nat)):Int)+(d:Int)*(-((z.natAbs/d+1:Nat):Int)):=by
     have:((d*(z.natAbs/d):Nat):Int)=(d:Int)*((z.natAbs/d:Nat):Int):=Int.natCast_mul _ _;rw[Int.mul_neg,Int.natCast_add,Int.mul_add];omega
    rw[e,Int.add_mul_ediv_left _ _ (by omega),Int.ediv_eq_zero_of_lt (by omega) (by omega)];rw[←e];omega
   rw[this];rfl
 ·rw[decide_eq_false h,if_neg (by decide),Option.bind_some,dC];have:sg false (z.natAbs/d)=z/d:=by
   unfold sg;rw[if_neg (by decide),Int.natCast_ediv];congr 1;omega
  rw[this];rfl
theorem mG(n:Int)(h:eM n):gr n=some n.natAbs:=by
 unfold gr;obtain⟨h0,h1⟩:=h;by_cases hn:n<0
 ·have e1:IntKind.u64.wrap (0-IntKind.u64.wrap n)=((n.natAbs:Nat):Int):=by
   rw[IntKind.wrap_u64,IntKind.wrap_u64];omega
  rw[if_pos (decide_eq_true hn),e1,kc (by omega)];rfl
 ·have e1:IntKind.u64.wrap n=((n.natAbs:Nat):Int):=by rw[IntKind.wrap_u64];omega
  rw[if_neg (by simpa using hn),e1,kc (by omega)];rfl
end Go.Am
namespace Go.Am
open Go.RowKit
abbrev rp(x:Rat):(Bool×Nat)×Nat:=((decide (x.num<0),x.num.natAbs),x.den-1)
theorem DG{g:Nat}(h:g≠0):ix (aA g) 0=some (g%4294967296):=by
 rw[ky h];rfl
theorem tq(z:Int)(d:Nat)(hd:d≠0):(mkRat z d).num=z/((Nat.gcd z.natAbs d:Nat):Int)/\(mkRat z d).den=d/Nat.gcd z.natAbs d:=by
 rw[Rat.num_mkRat,Rat.den_mkRat,if_neg hd,if_neg hd,Nat.gcd_comm];exact⟨rfl,rfl⟩
theorem D2(z:Int)(g:Nat)(hg:g∣z.natAbs):sg (decide (z<0)) (z.natAbs/g)=z/(g:Int):=by
 obtain⟨k,hk⟩:=hg;rcases Nat.eq_zero_or_pos g with h0|h0
 ·subst h0;rw[Nat.zero_mul]at hk;have:z=0:=by omega
  subst this;rfl
 rw[hk,Nat.mul_div_cancel_left _ h0];unfold sg;by_cases h:z<0
 ·rw[decide_eq_true h,if_pos rfl]
  symm;apply Int.ediv_eq_of_eq_mul_right (by omega)
  rw[Int.mul_neg,←Int.natCast_mul];omega
 ·rw[decide_eq_false h,if_neg (by decide)]
  symm;apply Int.ediv_eq_of_eq_mul_right (by omega)
  rw[←Int.natCast_mul];omega
theorem jN(z:Int)(d:Nat)(hd:d≠0)(hz:sm z.natAbs)(hs:sm d):eG (decide (z<0)) z.natAbs d=some (rp (mkRat z d)):=by
 obtain⟨e1,e2⟩:=tq z d hd;unfold eG rp;rw[Dq hz hs,Option.bind_some,e1,e2];have hg0:Nat.gcd z.natAbs d≠0:=fun h=>hd (Nat.eq_zero_of_gcd_eq_zero_right h);have hgd:Nat.gcd z.natAbs d∣d:=Nat.gcd_dvd_right _ _;have hgs:sm (Nat.gcd z.natAbs d):=nn (Nat.le_of_dvd (Nat.pos_of_ne_zero hd) hgd) hs;have hsg:=D2 z _ (Nat.gcd_dvd_left z.natAbs d);have hq1:d/Nat.gcd z.natAbs d≠0:=Nat.pos_iff_ne_zero.1 (Nat.div_pos (Nat.le_of_dvd (Nat.pos_of_ne_zero hd) hgd) (Nat.pos_of_ne_zero hg0));have hq2:sm (d/Nat.gcd z.natAbs d):=nn (Nat.div_le_self _ _) hs;generalize Nat.gcd z.natAbs d=g at*;have cY:(if(((aA g).length:Int) !=1)=true then(kB z.natAbs g).bind fun(v9,v10)=>(kB d g).bind fun(v12,v13)=>some ((v12,v9))else(ix (aA g) 0).bind fun v15=>(if((v15:Int) !=1)=true then(kB z.natAbs g).bind fun(v18,v19)=>(kB d g).bind fun(v21,v22)=>some ((v21,v18))else some ((d,z.natAbs))))=some (d/g,z.natAbs/g):=by
  by_cases h1:(((aA g).length:Int) !=1)=true
  ·rw[if_pos h1,iR hg0 hz hgs,Option.bind_some];dsimp only;rw[iR hg0 hs hgs,Option.bind_some]
  ·rw[if_neg h1,DG hg0,Option.bind_some];by_cases h2:(((g%4294967296:Nat):Int) !=1)=true
   ·rw[if_pos h2,iR hg0 hz hgs,Option.bind_some];dsimp only;rw[iR hg0 hs hgs,Option.bind_some]
   ·rw[if_neg h2];have h3:(aA g).length=1:=by
     have:((aA g).length:Int)=1:=by simpa using h1
     omega
    have:=lI (x:=g);rw[h3]at this;have h4:g%4294967296=1:=by simp at h2;omega
    have:g=1:=by omega
    subst this;rw[Nat.div_one,Nat.div_one]
 rw[cY,Option.bind_some];simp only;rw[dC,hsg,Option.bind_some];simp only;have e3:mV (1:Int)=some 1:=kc (n:=1) (by omega);rw[e3,Option.bind_some,sU (by omega) hq2];rfl
def qw(x:Rat):Prop:=sz x<=2000000000000
theorem lU{x:Rat}(h:dv x):qw x:=Nat.le_trans h (by omega)
theorem qL{x:Rat}(h:qw x):bz x.num.natAbs<=2000000000000:=Nat.le_trans (Nat.le_max_left _ _) h
theorem rn{x:Rat}(h:qw x):bz x.den<=2000000000000:=Nat.le_trans (Nat.le_max_right _ _) h
theorem jl{x n:Nat}(h:bz x<=n)(k:n<=4398046511104):sm x:=Nat.le_trans h k
theorem jv{x:Rat}(h:qw x):sm x.num.natAbs:=jl (qL h) (by omega)
theorem gO{x:Rat}(h:qw x):sm x.den:=jl (rn h) (by omega)
theorem vv{a b:Rat}(h:qw a)(k:qw b):bz (a.num*b.den).natAbs<=4000000000000:=by
 rw[Int.natAbs_mul];exact Nat.le_trans (cR (qL h) (rn k)) (by omega)
theorem Df{a b:Rat}(h:qw a)(k:qw b):bz (a.den*b.den)<=4000000000000:=Nat.le_trans (cR (rn h) (rn k)) (by omega)
theorem Ga{a b:Rat}(h:qw a)(k:qw b):bz (a.num*b.num).natAbs<=4000000000000:=by
 rw[Int.natAbs_mul];exact Nat.le_trans (cR (qL h) (qL k)) (by omega)
theorem fQ(a:Rat)(neg:Bool)(n:Nat)(h:qw a):ff neg n (a.den-1)=some a.den:=by
 unfold ff;have e3:mV (1:Int)=some 1:=kc (n:=1) (by omega);have:=a.den_pos;rw[e3,Option.bind_some,qk (nn (Nat.sub_le _ _) (gO h)) (kG (by omega)),Nat.sub_add_cancel this];rfl
theorem yl(a b:Rat)(h:qw a)(k:qw b):p_ (decide (a.num<0)) a.num.natAbs (a.den-1) (decide (b.num<0)) b.num.natAbs (b.den-1)=some (rp (a+b)):=by
 unfold p_;rw[fQ a _ _ h,Option.bind_some,fQ b _ _ k,Option.bind_some,iN _ _ (jv h) (gO k),Option.bind_some];simp only;rw[iN _ _ (jv k) (gO h),Option.bind_some];simp only;rw[wq _ _ (jl (vv h k) (by omega)) (jl (vv k h) (by omega)),Option.bind_some];simp only;rw[kW (gO h) (gO k),Option.bind_some,jN _ _ (Nat.mul_ne_zero a.den_nz b.den_nz) (jl (nq (vv h k) (vv k h)) (by omega)) (jl (Df h k) (by omega)),←Rat.add_def']
 rfl
theorem yb(a:Rat):pI (decide (a.num<0)) a.num.natAbs (a.den-1)=some (rp (-a)):=by
 unfold pI rp;rw[dC,DH,Rat.neg_num,Rat.neg_den];rfl
theorem GN(a:Rat):qw (-a)=qw a:=by unfold qw sz;rw[Rat.neg_num,Rat.neg_den,Int.natAbs_neg]
theorem DS(a b:Rat)(h:qw a)(k:qw b):sH (decide (a.num<0)) a.num.natAbs (a.den-1) (decide (b.num<0)) b.num.natAbs (b.den-1)=some (rp (a-b)):=by
 unfold sH;rw[yb,Option.bind_some];simp only;rw[yl a (-b) h (by rw[GN];exact k),←Rat.sub_eq_add_neg];rfl
theorem Cf(a b:Rat)(h:qw a)(k:qw b):sM (decide (a.num<0)) a.num.natAbs (a.den-1) (decide (b.num<0)) b.num.natAbs (b.den-1)=some (rp (a*b)):=by
 unfold sM;rw[kW (jv h) (jv k),Option.bind_some,dC,zE,Option.bind_some];simp only;rw[fQ a _ _ h,Option.bind_some,fQ b _ _ k,Option.bind_some,kW (gO h) (gO k),Option.bind_some,jN _ _ (Nat.mul_ne_zero a.den_nz b.den_nz) (jl (Ga h k) (by omega)) (jl (Df h k) (by omega)),←Rat.mul_def']
 rfl
theorem zt(a b:Rat)(hb:b≠0):a/b=mkRat (sg (!(decide (a.num<0)==decide (b.num<0))) (a.num.natAbs*b.den)) (a.den*b.num.natAbs):=by
 have hn:b.num≠0:=fun h=>hb (Rat.num_eq_zero.1 h);have e:a/b=Rat.divInt (a.num*b.den) (a.den*b.num):=by
  have ea:=Rat.num_divInt_den a;rw[Rat.div_def,Rat.inv_def]
  conv=>lhs;rw[←ea]
  rw[Rat.divInt_mul_divInt]
 rw[e];have hden:((a.den*b.num.natAbs:Nat):Int)=(a.den:Int)*(b.num.natAbs:Int):=Int.natCast_mul _ _;rw[←Rat.divInt_ofNat,hden];have hnum:((a.num.natAbs*b.den:Nat):Int)=(a.num.natAbs:Int)*(b.den:Int):=Int.natCast_mul _ _;rcases Int.lt_or_le b.num 0 with h|h
 ·have h1:(b.num.natAbs:Int)=-b.num:=Int.ofNat_natAbs_of_nonpos (Int.le_of_lt h);rw[h1,Int.mul_neg,Rat.divInt_neg']
  congr 1
  unfold sg;rw[decide_eq_true h];rcases Int.lt_or_le a.num 0 with k|k
  ·rw[decide_eq_true k,if_neg (by decide),hnum,Int.ofNat_natAbs_of_nonpos (Int.le_of_lt k),Int.neg_mul,Int.neg_neg]
  ·rw[decide_eq_false (by omega),if_pos (by decide),hnum,Int.natAbs_of_nonneg k,Int.neg_neg]
 ·have h1:(b.num.natAbs:Int)=b.num:=Int.natAbs_of_nonneg h;rw[h1]
  congr 1
  unfold sg;rw[decide_eq_false (p:=b.num<0) (by omega)];rcases Int.lt_or_le a.num 0 with k|k
  ·rw[decide_eq_true k,if_pos (by decide),hnum,Int.ofNat_natAbs_of_nonpos (Int.le_of_lt k),Int.neg_mul,Int.neg_neg]
  ·rw[decide_eq_false (by omega),if_neg (by decide),hnum,Int.natAbs_of_nonneg k]
theorem vd(a b:Rat)(hb:b≠0)(h:qw a)(k:qw b):mi (decide (a.num<0)) a.num.natAbs (a.den-1) (decide (b.num<0)) b.num.natAbs (b.den-1)=some (rp (a/b)):=by
 have hn:b.num.natAbs≠0:=fun h=>hb (Rat.num_eq_zero.1 (by omega));unfold mi;rw[fQ b _ _ k,Option.bind_some,kW (jv h) (gO k),Option.bind_some,dC,Option.bind_some];simp only;rw[fQ a _ _ h,Option.bind_some,kW (gO h) (jv k),Option.bind_some,jN _ _ (Nat.mul_ne_zero a.den_nz hn) (by rw[nK];exact jl (cR (qL h) (rn k)) (by omega)) (jl (cR (rn h) (qL k)) (by omega)),←zt a b hb]
 rfl
theorem Fk(a:Rat):(if a.num<0 then(-1:Int)else if a.num=0 then 0 else 1)=Be a:=by
 unfold Be;have h1:a.num<0↔a<0:=by
  rw[Rat.lt_iff];simp
 have h2:a.num=0↔a=0:=Rat.num_eq_zero;simp only[h1,h2]
theorem uZ(a:Rat)(d:Nat):nM (decide (a.num<0)) a.num.natAbs d=some (Be a):=by
 unfold nM;rw[uI,Fk];rfl
theorem DO(a:Rat):sD (decide (a.num<0)) a.num.natAbs (a.den-1)=some (rp (if a<0 then-a else a)):=by
 have h1:a.num<0↔a<0:=by rw[Rat.lt_iff];simp
 unfold sD rp;rw[dC,Option.bind_some];have e1:decide (sg false a.num.natAbs<0)=false:=by unfold sg;rw[if_neg (by decide)];exact decide_eq_false (by omega)
 rw[e1,nK];by_cases h:a<0
 ·have:=h1.2 h;rw[if_pos h,Rat.neg_num,Rat.neg_den,Int.natAbs_neg,decide_eq_false (p:=-a.num<0) (by omega)]
 ·have:=fun k=>h (h1.1 k);rw[if_neg h,decide_eq_false (p:=a.num<0) this]
theorem Fz(a b:Rat):Fb (a.num*b.den) (b.num*a.den)=iu a b:=by
 unfold Fb iu;simp only[Rat.lt_iff]
theorem Dl(a b:Rat)(h:qw a)(k:qw b):sA (decide (a.num<0)) a.num.natAbs (a.den-1) (decide (b.num<0)) b.num.natAbs (b.den-1)=some (iu a b):=by
 unfold sA;rw[fQ b _ _ k,Option.bind_some,iN _ _ (jv h) (gO k),Option.bind_some];simp only;rw[fQ a _ _ h,Option.bind_some,iN _ _ (jv k) (gO h),Option.bind_some];simp only;rw[wg _ _ (jl (vv h k) (by omega)) (jl (vv k h) (by omega)),Fz];rfl
theorem Hl(z:Int):rp (z:Rat)=((decide (z<0),z.natAbs),0):=by
 unfold rp;rw[Rat.num_intCast,Rat.den_intCast]
theorem Dm(z:Int):uO (decide (z<0)) z.natAbs=some (rp (z:Rat)):=by rw[Hl];rfl
theorem zA(n:Nat):uO false n=some (rp (n:Rat)):=by
 have:=Dm n;rw[decide_eq_false (by omega)]at this;exact this
theorem Ct(a:Rat)(neg:Bool)(n:Nat)(h:qw a):sK neg n (a.den-1)=some (rp (a.den:Rat)):=by
 unfold sK;rw[fQ a _ _ h,Option.bind_some,zA];rfl
theorem zf(a:Rat)(h:qw a):ow (decide (a.num<0)) a.num.natAbs (a.den-1)=some (rp (a.floor:Rat)):=by
 unfold ow;rw[fQ a _ _ h,Option.bind_some,uw _ _ a.den_nz (jv h) (gO h),Option.bind_some];simp only;rw[Dm,Rat.floor_def];rfl
end Go.Am
namespace Go.Am
open Go.RowKit
theorem Cs:mV (1:Int)=some 1:=kc (n:=1) (by omega)
theorem GJ(n:Int)(h:eM n):Ak n=some (rp (n:Rat)):=by
 unfold Ak;rw[mG n h,Option.bind_some,dC,Fc,Option.bind_some];dsimp only;rw[Dm];rfl
theorem wi{n:Int}(h:eM n):sm n.natAbs:=kG (by unfold eM at h;omega)
theorem Eb(a b:Int)(hb:b≠0):(a:Rat)/(b:Rat)=mkRat (sg (!(decide (a<0)==decide (b<0))) a.natAbs) b.natAbs:=by
 have h1:(b:Rat)≠0:=fun h=>hb (by rw[←Rat.intCast_zero,Rat.intCast_inj]at h;exact h);have:=zt a b h1;rw[Rat.num_intCast,Rat.num_intCast,Rat.den_intCast,Rat.den_intCast,Nat.mul_one,Nat.one_mul]at this;exact this
theorem Ig(n d:Int)(h:eM n)(k:eM d):E7 n d=some (if d=0 then(rp 0,9)else(rp ((n:Rat)/(d:Rat)),0)):=by
 unfold E7;by_cases h0:d=0
 ·subst h0;rfl
 ·rw[if_neg (by rw[beq_iff_eq];exact h0),if_neg h0,mG n h,Option.bind_some,dC,Option.bind_some];dsimp only;rw[mG d k,Option.bind_some,jN _ _ (by omega) (by rw[nK];exact wi h) (wi k),←Eb n d h0]
  rfl
theorem oy(z:Int)(d:Nat):(mkRat z d).num.natAbs<=z.natAbs:=by
 rw[Rat.num_mkRat]
 split
 ·exact Nat.zero_le _
 ·rename_i h;rw[Int.natAbs_ediv_of_dvd]
  ·exact Nat.div_le_self _ _
  ·rw[Int.ofNat_dvd_left];exact Nat.gcd_dvd_right _ _
theorem jA(z:Int)(d:Nat)(h:d≠0):(mkRat z d).den<=d:=by
 rw[Rat.den_mkRat,if_neg h];exact Nat.div_le_self _ _
theorem iF{x:Rat}{n:Nat}:sz x<=n↔bz x.num.natAbs<=n/\bz x.den<=n:=Nat.max_le
theorem nE:bz 1=1:=rfl
theorem nD(a b:Rat):sz (a+b)<=sz a+sz b+1:=by
 rw[Rat.add_def'];have ha:=iF.1 (Nat.le_refl (sz a));have hb:=iF.1 (Nat.le_refl (sz b));refine iF.2 ⟨Nat.le_trans (da (oy _ _)) (nq ?_ ?_),Nat.le_trans (da (jA _ _ (Nat.mul_ne_zero a.den_nz b.den_nz))) ?_⟩
 ·rw[Int.natAbs_mul];exact cR ha.1 hb.2
 ·rw[Int.natAbs_mul,Nat.add_comm];exact cR hb.1 ha.2
 ·exact Nat.le_trans (cR ha.2 hb.2) (by omega)
theorem pK(a:Rat):sz (-a)=sz a:=by unfold sz;rw[Rat.neg_num,Rat.neg_den,Int.natAbs_neg]
theorem rz(a b:Rat):sz (a-b)<=sz a+sz b+1:=by
 rw[Rat.sub_eq_add_neg,←pK b];exact nD a (-b)
theorem gQ(a b:Rat):sz (a*b)<=sz a+sz b:=by
 rw[Rat.mul_def'];have ha:=iF.1 (Nat.le_refl (sz a));have hb:=iF.1 (Nat.le_refl (sz b));refine iF.2 ⟨Nat.le_trans (da (oy _ _)) ?_,Nat.le_trans (da (jA _ _ (Nat.mul_ne_zero a.den_nz b.den_nz))) ?_⟩
 ·rw[Int.natAbs_mul];exact cR ha.1 hb.1
 ·exact cR ha.2 hb.2
theorem GL(a b:Rat)(h:b≠0):sz (a/b)<=sz a+sz b:=by
 rw[zt a b h];have hn:b.num.natAbs≠0:=fun h'=>h (Rat.num_eq_zero.1 (by omega));have ha:=iF.1 (Nat.le_refl (sz a));have hb:=iF.1 (Nat.le_refl (sz b));refine iF.2 ⟨Nat.le_trans (da (oy _ _)) ?_,Nat.le_trans (da (jA _ _ (Nat.mul_ne_zero a.den_nz hn))) ?_⟩
 ·rw[nK];exact cR ha.1 hb.2
 ·exact cR ha.2 hb.1
theorem qN(z:Int):sz (z:Rat)<=bz z.natAbs+1:=by
 rw[iF,Rat.num_intCast,Rat.den_intCast,nE];omega
theorem yj(a:Rat):sz (a.floor:Rat)<=sz a+1:=by
 have ha:=iF.1 (Nat.le_refl (sz a));refine Nat.le_trans (qN _) (Nat.succ_le_succ (Nat.le_trans (da ?_) ha.1));rw[Rat.floor_def];exact Int.natAbs_ediv_le_natAbs _ _
theorem He(a:Rat):sz (if a<0 then-a else a)=sz a:=by split<;>simp[pK]
theorem zw(a:Rat):sz (a.den:Rat)<=sz a+1:=by
 have ha:=iF.1 (Nat.le_refl (sz a));have:=qN (a.den:Int);rw[Int.natAbs_natCast]at this;exact Nat.le_trans this (by omega)
end Go.Am
namespace Go.Am
open Go.RowKit
theorem xZ(a:Rat):decide (((aA (a.den-1)).length:Int)>0)=decide (a.den≠1):=by
 have:=a.den_pos;rw[n7];by_cases h:a.den=1
 ·rw[decide_eq_false (by omega),decide_eq_false (by omega)]
 ·rw[decide_eq_true (by omega),decide_eq_true h]
theorem x_{x n:Nat}(h:bz x<=n):(oS x).length<=n+1:=by
 unfold oS
 split
 ·simp
 ·unfold bytesOf;rw[List.length_map,List.length_reverse];exact Nat.le_trans (zy n x (oY h)) (by omega)
theorem yM{a:Nat}(h:sm a):AL a=some (oS a):=cG h rfl
theorem Fl(a:Rat)(h:dv a):p7 (decide (a.num<0)) a.num.natAbs (a.den-1)=some (Iq a):=by
 have h1:(oS a.num.natAbs).length<=400000000001:=x_ (iF.1 h).1;have h2:(oS a.den).length<=400000000001:=x_ (iF.1 h).2;unfold p7 Iq;rw[yM (jv (lU h)),Option.bind_some,xZ];have e1:(if decide (a.num<0)=true then bO (([45]:List UInt8).length+(oS a.num.natAbs).length<=9223372036854775807) (some ((([45]:List UInt8)++oS a.num.natAbs)))else some (oS a.num.natAbs))=some ((if a.num<0 then [45]else [])++oS a.num.natAbs):=by
  by_cases h:a.num<0
  ·rw[if_pos (decide_eq_true h),if_pos h];exact cG (by simp only[List.length_cons,List.length_nil];omega) rfl
  ·rw[if_neg (by simpa using h),if_neg h];rfl
 rw[e1,Option.bind_some];have h3:((if a.num<0 then [45]else [])++oS a.num.natAbs:List UInt8).length<=400000000002:=by
  rw[List.length_append];split<;>simp only[List.length_cons,List.length_nil]<;>omega
 generalize ((if a.num<0 then [45]else [])++oS a.num.natAbs:List UInt8)=t at*;by_cases hd:a.den=1
 ·rw[if_neg (by simpa using hd),if_pos hd,List.append_nil];rfl
 ·rw[if_pos (decide_eq_true hd),if_neg hd,fQ a _ _ (lU h),Option.bind_some,yM (gO (lU h)),Option.bind_some];rw[aG (by simp only[List.length_cons,List.length_nil];omega),aG (by simp only[List.length_append,List.length_cons,List.length_nil];omega)]
  rfl
theorem zX(k:Nat):((2^k:Nat):Rat)=2^k:=by rw[Rat.natCast_pow];rfl
theorem E_(k:Int)(h:0<=k/\k<=100000):q9 k=some (rp ((2:Rat)^k.toNat)):=by
 obtain⟨n,rfl⟩:∃n:Nat,k=n:=⟨k.toNat,by omega⟩;unfold q9;rw[Cs,Option.bind_some,ti (kG (by omega)) (by omega),Option.bind_some,Nat.one_mul,zA,Int.toNat_natCast,zX]
 rfl
theorem zD{x m:Nat}(h:bz x<=2*m):bz (eh x)<=m:=by
 rw[gg]at*;apply Classical.byContradiction;intro hc;have h1:=Nat.mul_le_mul (Nat.le_of_not_lt hc) (Nat.le_of_not_lt hc);have h2:=qo x;rw[←Nat.pow_add,show m+m=2*m from by omega]at h1;omega
def F9(a:Rat)(k:Nat):Rat:=((eh (a.num.natAbs*2^(2*k)/a.den):Nat):Rat)/2^k
def Cz(a:Rat)(k:Int):Option (Rat×Int):=bO (dv a/\eM k) (some (if k<0\/64<k then(0,3)else if a<0 then(0,8)else(F9 a k.toNat,0)))
theorem GH(k:Nat):sz ((2:Rat)^k)<=k+1:=by
 rw[←zX,iF,Rat.num_natCast,Rat.den_natCast,Int.natAbs_natCast,nE];exact⟨sX (Nat.lt_succ_self k),by omega⟩
theorem Hj(k:Nat)(h:k<=100000):qw ((2:Rat)^k):=by
 have:=GH k;unfold qw;generalize sz ((2:Rat)^k)=t at*;omega
theorem G3(k:Nat):(2:Rat)^k≠0:=by
 have:(0:Rat)<2^k:=Rat.pow_pos (by decide);intro h;rw[h]at this;exact Rat.lt_irrefl this
theorem ED{x n:Nat}(hx:bz x<=400000000000)(hn:n<=64):bz (x*2^(2*n))<=400000000129:=by
 have h1:2*n<129:=by omega
 exact Nat.le_trans (cR hx (sX h1)) (by decide)
theorem BP(N d n:Nat)(hn:n<=64)(hd:d≠0)(hN:sm N)(hsd:sm d)(hb:bz (N*2^(2*n))<=400000000129)(hq:bz (N*2^(2*n)/d)<=400000000130):
  (uX N (IntKind.i64.wrap (2*(n:Int)))).bind (fun v10=>(kB v10 d).bind fun(v14,_)=>yU v14)=some (eh (N*2^(2*n)/d)):=by
 have ew:IntKind.i64.wrap (2*(n:Int))=((2*n:Nat):Int):=by rw[wrap_small (by omega) (by omega)];omega
 have hk:2*n<35184372088832:=by omega
 rw[ew,ti hN hk,Option.bind_some];generalize N*2^(2*n)=X at*;rw[iR hd (jl hb (by omega)) hsd,Option.bind_some];dsimp only;exact cG (Nat.le_trans hq (by omega)) rfl
theorem Ew(X:Nat)(h:bz X<=400000000130):qw ((eh X:Nat):Rat):=by
 have h2:bz (eh X)<=200000000065:=zD h;refine iF.2 ⟨?_,by rw[Rat.den_natCast,nE];omega⟩;rw[Rat.num_natCast,Int.natAbs_natCast];exact Nat.le_trans h2 (by omega)
theorem CZ(X n:Nat)(hn:n<=64)(hq:bz X<=400000000130):((uO false (eh X)).bind fun((v19,v20),v21)=>(q9 (n:Int)).bind fun((v23,v24),v25)=>(mi v19 v20 v21 v23 v24 v25).bind fun((v27,v28),v29)=>some (((v27,v28),v29),(0:Int)))=some (rp (((eh X:Nat):Rat)/2^n),0):=by
 have hf:=E_ (n:Int) ⟨by omega,by omega⟩;have hw:=Hj n (by omega);have hne:=G3 n;rw[Int.toNat_natCast]at hf;rw[hf,zA];simp only[Option.bind_some,rp];rw[vd _ _ hne (Ew _ hq) hw]
 rfl
theorem El(a:Rat)(k:Int)(h:dv a):qA (decide (a.num<0)) a.num.natAbs (a.den-1) k=some (if k<0\/64<k then(rp 0,3)else if a<0 then(rp 0,8)else(rp (F9 a k.toNat),0)):=by
 unfold qA;by_cases h0:k<0
 ·rw[if_pos (decide_eq_true h0),if_pos (.inl h0)];rfl
 rw[if_neg (by simpa using h0)];by_cases h1:64<k
 ·rw[if_pos (decide_eq_true h1),if_pos (.inr h1)];rfl
 obtain⟨n,rfl⟩:∃n:Nat,k=n:=⟨k.toNat,by omega⟩;have hn64:n<=64:=by omega
 rw[if_neg (by simpa using h1),if_neg (by omega),uZ,Option.bind_some];by_cases hn:a<0
 ·rw[if_pos (by unfold Be;rw[if_pos hn];decide),if_pos hn];rfl
 rw[if_neg (by unfold Be;rw[if_neg hn];split<;>decide),if_neg hn];have hb:=ED (iF.1 h).1 hn64;have hq:=Nat.le_trans (Nat.le_trans (da (Nat.div_le_self (a.num.natAbs*2^(2*n)) a.den)) hb) (show 400000000129<=400000000130 by decide);have hc:=BP a.num.natAbs a.den n hn64 a.den_nz (jv (lU h)) (gO (lU h)) hb hq;obtain⟨v10,e10,hc⟩:=bind_some hc;obtain⟨⟨v14,v15⟩,e14,hc⟩:=bind_some hc;rw[e10,Option.bind_some,fQ a _ _ (lU h),Option.bind_some,e14,Option.bind_some];dsimp only at hc|-;rw[hc,Option.bind_some];exact CZ _ n hn64 hq
theorem i5{a1:Int}{r2:Rat}(h:fh a1=some r2):aW PP 40 [] [D.int .i64 a1] [] (qD r2):=by
 obtain⟨h0,h⟩:=ax h;injection h with h;subst h;exact Ib (GJ a1 h0)
theorem IK{a1:Int}{a2:Int}{r3:Rat}{r4:Int}(h:Ei a1 a2=some (r3,r4)):aW PP 36 [] [D.int .i64 a1,D.int .i64 a2] [] (D.gV [qD r3,D.int .i64 r4]):=by
 obtain⟨h0,h⟩:=ax h;have e:=Ig a1 a2 h0.1 h0.2;injection h with h;by_cases hd:a2=0
 ·rw[if_pos hd]at h e;injection h with h1 h2;subst h1;subst h2;exact Ia e
 ·rw[if_neg hd]at h e;injection h with h1 h2;subst h1;subst h2;exact Ia e
theorem oU{a1:Rat}{a2:Rat}{r3:Rat}(h:j0 a1 a2=some r3):aW PP 42 [] [qD a1,qD a2] [] (qD r3):=by
 obtain⟨h0,h⟩:=ax h;injection h with h;subst h;exact AQ (yl a1 a2 (lU h0.1) (lU h0.2))
theorem tK{a1:Rat}{a2:Rat}{r3:Rat}(h:kH a1 a2=some r3):aW PP 44 [] [qD a1,qD a2] [] (qD r3):=by
 obtain⟨h0,h⟩:=ax h;injection h with h;subst h;exact Fx (DS a1 a2 (lU h0.1) (lU h0.2))
theorem lA{a1:Rat}{a2:Rat}{r3:Rat}(h:eJ a1 a2=some r3):aW PP 46 [] [qD a1,qD a2] [] (qD r3):=by
 obtain⟨h0,h⟩:=ax h;injection h with h;subst h;exact Er (Cf a1 a2 (lU h0.1) (lU h0.2))
theorem nX{a1:Rat}{a2:Rat}{r3:Rat}(h:gR a1 a2=some r3):aW PP 164 [] [qD a1,qD a2] [] (qD r3):=by
 obtain⟨h0,h⟩:=ax h;injection h with h;subst h;exact xV (vd a1 a2 h0.1 (lU h0.2.1) (lU h0.2.2))
theorem F8{a1:Rat}{r2:Rat}(h:uf a1=some r2):aW PP 48 [] [qD a1] [] (qD r2):=by
 injection h with h;subst h;exact AM (yb a1)
theorem FX{a1:Rat}{r2:Rat}(h:AD a1=some r2):aW PP 50 [] [qD a1] [] (qD r2):=by
 injection h with h;subst h;exact E8 (DO a1)
theorem nA{a1:Rat}{a2:Rat}{r3:Int}(h:kK a1 a2=some r3):aW PP 35 [] [qD a1,qD a2] [] (D.int .i64 r3):=by
 obtain⟨h0,h⟩:=ax h;injection h with h;subst h;exact Fe (Dl a1 a2 (lU h0.1) (lU h0.2))
theorem pz{a1:Rat}{r2:Int}(h:fm a1=some r2):aW PP 24 [] [qD a1] [] (D.int .i64 r2):=by
 injection h with h;subst h;exact yc (uZ a1 _)
theorem DU{a1:Rat}{r2:Rat}(h:uD a1=some r2):aW PP 76 [] [qD a1] [] (qD r2):=by
 obtain⟨h0,h⟩:=ax h;injection h with h;subst h;exact Ft (Ct a1 _ _ (lU h0))
theorem Aw{a1:Rat}{r2:Rat}(h:qm a1=some r2):aW PP 78 [] [qD a1] [] (qD r2):=by
 obtain⟨h0,h⟩:=ax h;injection h with h;subst h;exact BV (zf a1 (lU h0))
theorem zM{a1:Rat}{r2:List UInt8}(h:ts a1=some r2):aW PP 33 [] [qD a1] [] (cf r2):=by
 obtain⟨h0,h⟩:=ax h;exact CW ((Fl a1 h0).trans h)
theorem Gx{a1:Rat}{a2:Int}{r3:Rat}{r4:Int}(h:Cz a1 a2=some (r3,r4)):aW PP 29 [] [qD a1,D.int .i64 a2] [] (D.gV [qD r3,D.int .i64 r4]):=by
 obtain⟨h0,h⟩:=ax h;have e:=El a1 a2 h0.1;injection h with h;by_cases hd:a2<0\/64<a2
 ·rw[if_pos hd]at h e;injection h with h1 h2;subst h1;subst h2;exact tc e
 ·rw[if_neg hd]at h e;by_cases hn:a1<0
  ·rw[if_pos hn]at h e;injection h with h1 h2;subst h1;subst h2;exact tc e
  ·rw[if_neg hn]at h e;injection h with h1 h2;subst h1;subst h2;exact tc e
end Go.Am
