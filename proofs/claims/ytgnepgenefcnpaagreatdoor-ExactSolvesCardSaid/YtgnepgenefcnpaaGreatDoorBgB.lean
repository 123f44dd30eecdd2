/- Part 2 of 7 of what the laws of layer 1 share: contracts of functions of the program, each for every argument of its description; no condition beyond it. -/
import Derived.Test.YtgnepgenefcnpaaGreatDoorBgA
import Derived.Laws.BytesString
import Derived.Laws.Bits64b
set_option linter.unusedVariables false
set_option linter.unusedSimpArgs false
namespace Go.Am
open Go.RowKit
theorem aS.Di{P:Program}{f:FuncId}{Hi Ho Hi' Ho':List (Nat×Hp)}{ds ds':List D}{d d':D}(h:aS P f Hi ds Ho d)(ρ σ:Nat->Nat)(hσ:(names Ho).all (fun r=>Nat.beq (σ (ρ r)) r)=true)
  (hHi:vZ ρ Hi' Hi)(hni:names Hi'=(names Hi).map ρ)(hds:rA ρ ds' ds)(hHo:vZ σ Ho Ho')(hno:names Ho'=(names Ho).map ρ)(hd:wx σ d d')
  (w1:cw Hi' (bK ds')=true)(w2:cw Hi' (jB Hi')=true)(w3:cw Ho' (jB Ho')=true)(w4:cw Ho' d'.nm=true)(w5:cw Ho' (names Hi')=true):aS P f Hi' ds' Ho' d' where
 ok:=h.ok
 D_:=w1
 Fc:=w2
 E4:=w3
 Cs:=w4
 rI:=w5
 calls:=by
  intro A w ε φ vs hlo hdj hp hv
  have inv:∀r,ai Ho r≠none->σ (ρ r)=r:=fun r hr=>Nat.eq_of_beq_eq_true (List.all_eq_true.1 hσ r (b5.1 hr))
  have hio:∀r,ai Hi r≠none->ai Ho r≠none:=fun r hr=>cX h.rI r (b5.1 hr)
  have toI:∀r,ai Hi r≠none->ai Hi' (ρ r)≠none:=fun r hr=>b5.2 (by rw[hni];exact List.mem_map.2 ⟨r,b5.1 hr,rfl⟩)
  have ofI:∀r',ai Hi' r'≠none->∃r,ai Hi r≠none/\ρ r=r':=fun r' hr'=>by
   have:=b5.1 hr'
   rw[hni]at this
   obtain⟨r,hr,e⟩:=List.mem_map.1 this
   exact⟨r,b5.2 hr,e⟩
  have ofO:∀r',ai Ho' r'≠none->∃r,ai Ho r≠none/\ρ r=r':=fun r' hr'=>by
   have:=b5.1 hr'
   rw[hno]at this
   obtain⟨r,hr,e⟩:=List.mem_map.1 this
   exact⟨r,b5.2 hr,e⟩
  have toO:∀r,ai Ho r≠none->ai Ho' (ρ r)≠none:=fun r hr=>b5.2 (by rw[hno];exact List.mem_map.2 ⟨r,b5.1 hr,rfl⟩)
  have inj:∀r r',ai Ho r≠none->ai Ho r'≠none->r≠r'->ρ r≠ρ r':=fun r r' hr hr' hne e=>hne (by rw[←inv r hr,←inv r' hr',e])
  have hL:lY Hi (fun r=>φ (ρ r))=lY Hi' φ:=by
   funext k
   apply propext
   constructor
   ·rintro⟨r,hr,hf⟩;exact⟨ρ r,toI r hr,hf⟩
   ·rintro⟨r',hr',hf⟩
    obtain⟨r,hr,rfl⟩:=ofI r' hr'
    exact⟨r,hr,hf⟩
  refine(h.calls A w (fun r=>ε (ρ r)) (fun r=>φ (ρ r)) vs (fun r hr=>hlo (ρ r) (toI r hr)) (fun r r' hr hr' hne=>hdj (ρ r) (ρ r') (toI r hr) (toI r' hr') (inj r r' (hio r hr) (hio r' hr') hne)) (fun r x hr=>?_) (hds.all hv)).mono ?_
  ·obtain⟨y,hy,hle⟩:=lg hHi r x hr
   exact hle.1 _ _ _ _ _ (hp (ρ r) y hy)
  rintro e w' ⟨v,ε2,φ2,rfl,hε,hb1,hb2,hb3,hb4,hb5⟩
  rw[hL]at hb1 hb2 hb3 hb5
  have hreg:∀k,al ⟨A,w.heap.size,w,0,lY Hi' φ⟩ (ai Ho) φ2 k->k<w'.heap.size->al ⟨A,w.heap.size,w,0,lY Hi' φ⟩ (ai Ho') (fun r=>φ2 (σ r)) k/\w'.heap[k]?=w'.heap[k]?:=by
   intro k hk _
   refine⟨⟨hk.1,fun r' hr'=>?_⟩,rfl⟩
   obtain⟨r,hr,rfl⟩:=ofO r' hr'
   show¬φ2 (σ (ρ r)) k
   rw[inv r hr];exact hk.2 r hr
  have hB:zb ⟨A,w.heap.size,w,0,lY Hi' φ⟩ Ho' d' (fun r=>ε2 (σ r)) w' (fun r=>φ2 (σ r)) v:=by
   refine⟨d'.mono (hd.1 _ _ _ _ hb1) (fun _ _=>rfl) hreg,fun r' x' hr'=>?_,fun r' hr' k hk=>?_,fun r1 r2 h1 h2 hne k hk=>?_,hb5⟩
   ·obtain⟨x,hx,hle⟩:=lg hHo r' x' hr'
    exact x'.mono (hle.1 _ _ _ _ _ (hb2 (σ r') x hx)) (fun _ _=>rfl) hreg (fun _ _=>rfl)
   ·obtain⟨r,hr,rfl⟩:=ofO r' hr'
    simp only[inv r hr]at hk
    exact hb3 r hr k hk
   ·obtain⟨ra,hra,rfl⟩:=ofO r1 h1
    obtain⟨rb,hrb,rfl⟩:=ofO r2 h2
    simp only[inv ra hra,inv rb hrb]at hk|-
    exact hb4 ra rb hra hrb (fun e=>hne (by rw[e])) k hk
  refine⟨v,fun r=>ε2 (σ r),fun r=>φ2 (σ r),rfl,fun r' hr'=>?_,hB⟩
  obtain⟨r,hr,rfl⟩:=ofI r' hr'
  show ε2 (σ (ρ r))=_
  rw[inv r (hio r hr),hε r hr]
section
variable {P:Program} {os:List Oper} {c:Ctx} {T T':List (Nat×D)} {H H':List (Nat×Hp)} {sps:List Spec}
variable {ops:Array Oper} {dst:Option Nat} {ty:TypeId} {pos:String} {aft:Array Edge} {Q:Exit->Act->World->Prop} {x y:Code}
def GL(P:Program)(s d:TypeId):Bool:=
 match P.underlying s,P.underlying d with
 |some (.slice e),some .string=>match P.underlying e with|some (.int .u8)=>true|_=>false
 |_,_=>false
def bytesOf(l:List Int):List UInt8:=l.map fun n=>UInt8.ofNat n.toNat
theorem pf:∀(ns:List Int) (s:ByteArray),ns.foldl (fun r n=>r.push (UInt8.ofNat n.toNat)) s=⟨(s.data.toList++bytesOf ns).toArray⟩
 |[],s=>by simp[bytesOf]
 |n::ns,s=>by
  rw[List.foldl_cons,pf ns]
  simp[bytesOf,ByteArray.push]
theorem vG(k:IntKind):∀l:List Int,flat (ak.int k) l=l.map (D.int k)
 |[]=>rfl
 |n::l=>by
  have:=vG k l
  simp only[flat,List.flatMap_cons]at this|-
  rw[this];rfl
theorem s8{k:IntKind}{ε:Env}{w:World}{S:cr}:∀{l:List Int} {vs:List Value},bW ε w S (l.map (D.int k)) vs->vs=l.map (Value.int k)
 |[],[],_=>rfl
 |n::l,v::vs,h=>by rw[List.map_cons,←s8 h.2,show v=_ from h.1]
 |[],_::_,h=>h.elim
 |_::_,[],h=>h.elim
theorem an.GV{s d:TypeId}{x:Operand}{l:List Int}(hx:ev T x=some (ag (ak.int .u8) l))(ht:GL P s d=true)(hr:an P ops c os (br T dst (bU (bytesOf l))) H sps T' H'):
  an P ops c (⟨dst,.convert s d x,ty,pos,aft,none⟩::os) T H (ps [(x,ag (ak.int .u8) l)] (bU (bytesOf l))::sps) T' H':=
 .pure [(x,ag (ak.int .u8) l)] rfl (by simpa using hx) (jE rfl) (fun ε w S a ha=>by
  obtain⟨A,cap,h1,_,hln,hA⟩:=ha (x,ag (ak.int .u8) l) (by simp)
  dsimp only at h1
  unfold GL at ht
  split at ht<;>try cases ht
  rename_i e hs hd
  split at ht<;>try cases ht
  rename_i he
  have hc:∀a':Option Addr,(convert s d (.slice a' l.length cap)).run P w=(Conv.bytesToString (.slice a' l.length cap)).run P w:=fun a'=>run_convert_bytes_string w s d e a' l.length cap hs he hd
  refine⟨.string ⟨(bytesOf l).toArray⟩,?_,rfl⟩
  rcases hA with h0|⟨b,o,rfl,_,hl⟩
  ·have:l=[]:=List.eq_nil_of_length_eq_zero h0
   subst this
   have hz:(Conv.bytesToString (.slice A 0 cap)).run P w=.ok (.string ⟨#[]⟩) w:=by
    cases A with
    |none=>rfl
    |some a0=>
     have hq:=run_loadCells_list (P:=P) w a0 [] (fun j v hv=>by simp at hv)
     have:=run_bytesToString (P:=P) w a0 0 cap [] hq
     rw[pf]at this
     exact this
   have hc0:(convert s d (.slice A 0 cap)).run P w=_:=(hc A).trans hz
   simp only[execOp,h1,Sem.run_bind,List.length_nil,hc0,Result.andThen_ok];rfl
  ·obtain⟨vs,h3,h4,h5⟩:=m3 hl
   rw[vG]at h5
   have hvs:=s8 h5
   subst hvs
   have hld:=run_loadCells_list (P:=P) w ⟨b,o,none⟩ (l.map (Value.int .u8)) (fun j v hv=>by rw[eo];exact h3 j v hv)
   rw[List.length_map]at hld
   have:=run_bytesToString (P:=P) w ⟨b,o,none⟩ l.length cap l hld
   rw[pf]at this
   simp only[execOp,h1,hc,Sem.run_bind,this,Result.andThen_ok]
   rfl) hr
end
end Go.Am
namespace Go.Am
open Go.RowKit
theorem wrap_u32{z:Int}{n:Nat}(h:z=n):IntKind.u32.wrap z=((n%4294967296:Nat):Int):=by rw[IntKind.wrap_u32];omega
theorem wrap_u64{z:Int}{n:Nat}(h:z=n)(hn:n<18446744073709551616):IntKind.u64.wrap z=(n:Int):=by rw[IntKind.wrap_u64];omega
theorem gg{z:Int}{n:Nat}(h:z=n)(hn:n<9223372036854775808):IntKind.i64.wrap z=(n:Int):=by rw[IntKind.wrap_i64];omega
theorem uS{k:IntKind}{n:Nat}(hk:32<=k.bits):y7 .shr k (n:Int) 32=some ((n/4294967296:Nat):Int):=by
 have:min (32:Int).toNat k.bits=32:=by simp;omega
 unfold y7
 rw[if_neg (by omega)]
 simp only[this]
 congr 1
 rw[Int.fdiv_eq_ediv_of_nonneg _ (by decide)]
 omega
theorem i3(n:Nat):IntKind.u32.wrap (n:Int)=((n%4294967296:Nat):Int):=wrap_u32 rfl
theorem bP{n:Nat}(hn:n<18446744073709551616):IntKind.u64.wrap (n:Int)=(n:Int):=wrap_u64 rfl hn
theorem fJ{n:Nat}(hn:n<4294967296):IntKind.u32.wrap (n:Int)=(n:Int):=by rw[i3];omega
theorem sZ{n m:Nat}(hn:n+m<9223372036854775808):IntKind.i64.wrap ((n:Int)+(m:Int))=((n+m:Nat):Int):=gg (by omega) hn
theorem dG{m:Nat}{ty:TypeId}{l l':List D}{hl:bK l=[]}{hl':bK l'=[]}(h:l=l'):Hp.row m ty l hl=Hp.row m ty l' hl':=by subst h;rfl
theorem Fi.of_eq{d d':Hp}(h:d=d'):Fi d d':=h▸.refl d
theorem dh{T:List (Nat×D)}:∀{l:List (Nat×D)},l.map (fun x=>aP T x.1)=l.map (fun x=>some x.2)->j8 T l
 |[],_=>trivial
 |(t,d)::l,h=>by simp only[List.map_cons,List.cons.injEq]at h;exact⟨⟨d,h.1,.refl d⟩,dh h.2⟩
theorem iX{H:List (Nat×Hp)}:∀{l:List (Nat×Hp)},l.map (fun x=>ai H x.1)=l.map (fun x=>some x.2)->m9 H l
 |[],_=>trivial
 |(t,d)::l,h=>by simp only[List.map_cons,List.cons.injEq]at h;exact⟨⟨d,h.1,.refl d⟩,iX h.2⟩
theorem int_eq{k:IntKind}{a b:Int}(h:a=b):Le (.int k a) (.int k b):=.of_eq (by rw[h])
theorem qp(n:Nat)(hn:n<18446744073709551616):kC PP 145 [.int .u64 n] (aj n):=by
 refine .of Go.Proofs.Tryz.func145 rfl (by kernel_rfl) rfl rfl rfl (fun A w0=>?_)
 refine .al (.aq rfl .nil) rfl ?_
 have hl:cP [n%4294967296,n/4294967296]:=by intro d hd;simp at hd;omega
 have hv:val [n%4294967296,n/4294967296]=n:=by simp only[val];omega
 refine .al (.mv rfl<|.cv rfl kU (i3 n)<|.mv rfl<|.sh rfl rfl (uS (by decide))<|.cv rfl kU (fJ (by omega))<|
  .bl (hl:=rfl) [(0,_,.int .u32 (n%4294967296:Nat),[.int .u32 (n%4294967296:Nat)]),(1,_,.int .u32 (n/4294967296:Nat),[.int .u32 (n/4294967296:Nat)])] BJ rfl rfl ⟨rfl,rfl,.one rfl,rfl,rfl,rfl,.one rfl,rfl,trivial⟩ (by simp[qs,ev,aP,br]) rfl rfl<|
  .call (lF [n%4294967296,n/4294967296] hl (by simp)) ⟨rfl,trivial⟩<|.aq rfl .nil) rfl ?_
 refine .pq rfl (.tmp rfl) (.of_eq ?_) rfl
 rw[hv]
theorem dA(l:List Nat)(i:Nat):val (l.take (i+1))=val (l.take i)+4294967296^i*l.getD i 0:=by
 by_cases h:i<l.length
 ·rw[dS (List.getElem?_eq_getElem h)];simp[h]
 ·rw[List.take_of_length_le (by omega),List.take_of_length_le (by omega)];simp[List.getD,List.getElem?_eq_none (show l.length<=i by omega)]
theorem fy{l:List Nat}{i:Nat}(h:i<l.length)(d:Nat):val ((l.set i d).take (i+1))=val (l.take i)+4294967296^i*d:=by
 rw[dA]
 congr 1
 ·rw[List.take_set_of_le (Nat.le_refl i)]
 ·simp[h]
theorem iu{l:List Nat}(h:cP l){d:Nat}(hd:d<4294967296)(i:Nat):cP (l.set i d):=fun x hx=>(List.mem_or_eq_of_mem_set hx).elim (h x) (fun e=>e▸hd)
theorem bV{l:List Nat}(h:cP l)(i:Nat):l.getD i 0<4294967296:=by
 by_cases hi:i<l.length
 ·simp[hi];exact h _ (List.getElem_mem hi)
 ·simp[List.getElem?_eq_none (show l.length<=i by omega)]
theorem gR(n:Nat):cP (List.replicate n 0):=fun d hd=>by rw[List.eq_of_mem_replicate hd];omega
theorem lE(n:Nat):List.replicate n (D.int .u32 0)=bJ (List.replicate n 0):=by simp[bJ]
theorem eM(l:List Nat)(i d:Nat):(bJ l).set ((i:Int).toNat*1) (.int .u32 (d:Nat))=bJ (l.set i d):=by rw[Int.toNat_natCast,Nat.mul_one,Bf]
theorem Bj{p c d e:Nat}{v va vb:Nat}(h:v+p*c=va+vb):v+p*((c+d+e)%4294967296)+p*4294967296*((c+d+e)/4294967296)=va+p*d+(vb+p*e):=by
 have:p*((c+d+e)%4294967296)+p*4294967296*((c+d+e)/4294967296)=p*c+p*d+p*e:=by
  rw[Nat.mul_assoc,←Nat.mul_add,Nat.mod_add_div,Nat.mul_add,Nat.mul_add]
 omega
theorem D9(a b:List Nat)(ha:cP a)(hb:cP b)(hla:a.length<=1099511627776)(hlb:b.length<=1099511627776){s:Nat}(hv0:val a+val b=s):kC PP 212 [dr a,dr b] (aj s):=by
 refine .of Go.Proofs.Tryz.func212 rfl (by kernel_rfl) rfl rfl rfl (fun A w0=>?_)
 refine .al (.aq rfl<|.nil) rfl ?_
 refine .rS (ι:={p:List Nat×List Nat//cP p.1/\cP p.2/\p.1.length<=1099511627776/\p.2.length<=p.1.length/\val p.1+val p.2=s}) (fun p=>[(0,dr p.1.1),(1,dr p.1.2)]) (fun _=>[]) ?_ ?_
 ·by_cases h:a.length<b.length
  ·refine .al (.mv rfl<|.ln rfl kE<|.mv rfl<|.ln rfl kE<|.cm rfl rfl (b:=true) (by simp[dq,h])<|.nil) rfl ?_
   refine .cT rfl (.region (.mv rfl<|.mv rfl<|.aq rfl<|.aq rfl<|.nil) rfl fun _ _ hs=>?_)
   exact hs.to ⟨(b,a),hb,ha,hlb,Nat.le_of_lt h,(Nat.add_comm _ _).trans hv0⟩ (dh rfl) trivial rfl rfl
  ·refine .al (.mv rfl<|.ln rfl kE<|.mv rfl<|.ln rfl kE<|.cm rfl rfl (b:=false) (by simp[dq];omega)<|.nil) rfl ?_
   exact .cF rfl (.skip fun _ _ hs=>hs.to ⟨(a,b),ha,hb,hla,Nat.le_of_not_lt h,hv0⟩ (dh rfl) trivial rfl rfl)
 rintro⟨⟨a',b'⟩,ha',hb',hl,hle,hval⟩
 simp only at ha' hb' hl hle hval
 clear hv0 ha hb hla hlb
 show Ok PP _ [(0,dr a'),(1,dr b')] [] _ _
 refine .al (.mv rfl<|.ln rfl kE<|.ar rfl rfl (congrArg some (sZ (n:=a'.length) (m:=1) (by omega)))<|.E1 rfl rfl BJ rfl (by omega) (by omega) rfl<|.aq rfl<|.nil) rfl ?_
 refine .al (.aq rfl<|.nil) rfl ?_
 refine .rS (ι:={p:List Nat×Nat//p.1.length=a'.length+1/\cP p.1/\p.2<=1/\val (p.1.take a'.length)+4294967296^a'.length*p.2=s})
  (fun p=>[(0,dr a'),(1,dr b'),(18,.own 18),(5,.own 18),(6,.int .u64 p.1.2)]) (fun p=>[(18,.row 1 230 (bJ p.1.1) (aL _))]) ?_ ?_
 ·refine .al (.mv rfl<|.ln rfl kE<|.mv rfl<|.nil) rfl ?_
  refine .block (.loop (ι:={p:List Nat×Nat×Nat//p.1.length=a'.length+1/\cP p.1/\p.2.1<=1/\p.2.2<=a'.length/\val (p.1.take p.2.2)+4294967296^p.2.2*p.2.1=val (a'.take p.2.2)+val (b'.take p.2.2)})
   (fun p=>[(0,dr a'),(1,dr b'),(18,.own 18),(5,.own 18),(6,.int .u64 p.1.2.1),(20,.int .i64 a'.length),(21,.int .i64 p.1.2.2)]) (fun p=>[(18,.row 1 230 (bJ p.1.1) (aL _))])
   (fun p=>a'.length-p.1.2.2) ⟨(List.replicate (a'.length+1) 0,0,0),by simp,gR _,by simp,Nat.zero_le _,by simp[val]⟩
   (dh rfl) ⟨⟨_,rfl,.of_eq (dG (lE _))⟩,trivial⟩ rfl rfl ?_)
  rintro⟨⟨zs,c,i⟩,hzl,hzs,hc,hi,hv⟩
  simp only at hzl hzs hc hi hv
  show Ok PP _ [(0,dr a'),(1,dr b'),(18,.own 18),(5,.own 18),(6,.int .u64 c),(20,.int .i64 a'.length),(21,.int .i64 i)] [(18,.row 1 230 (bJ zs) (aL _))] _ _
  by_cases hlt:i<a'.length
  ·refine .al (.cm rfl rfl (b:=true) (by simp[dq,hlt])<|.nil) rfl (.sq ?_)
   refine .cT rfl (.skip (Ok.on ?_))
   refine .rS (ι:={q:List Nat×Nat//q.1.length=a'.length+1/\cP q.1/\q.2<=1/\val (q.1.take (i+1))+4294967296^(i+1)*q.2=val (a'.take (i+1))+val (b'.take (i+1))})
    (fun p=>[(0,dr a'),(1,dr b'),(18,.own 18),(5,.own 18),(6,.int .u64 p.1.2),(20,.int .i64 a'.length),(21,.int .i64 i)]) (fun p=>[(18,.row 1 230 (bJ p.1.1) (aL _))]) ?_ ?_
   ·have hx:a'[i]?=some (a'.getD i 0):=by simp[hlt]
    have hdl:=bV ha' i
    have hel:=bV hb' i
    have hst:=dA a' i
    have hst':=dA b' i
    generalize a'.getD i 0=d at hx hdl hst
    refine .block (.al (.mv rfl<|.aq rfl<|.nil) rfl ?_)
    refine .al (.mv rfl<|.mv rfl<|.mv rfl<|.oX rfl rfl nt (by omega) (by omega) (bp hx)<|.gC rfl pK<|.cv rfl mb (bP (by omega))<|
     .ar rfl rfl (congrArg some (wrap_u64 (n:=c+d) (by omega) (by omega)))<|.aq rfl<|.nil) rfl ?_
    refine .cut [(0,dr a'),(1,dr b'),(18,.own 18),(5,.own 18),(6,.int .u64 (c+d+b'.getD i 0:Nat)),(7,.int .i64 i),(20,.int .i64 a'.length),(21,.int .i64 i)] [(18,.row 1 230 (bJ zs) (aL _))] ?_ ?_
    ·by_cases hb:i<b'.length
     ·have hy:b'[i]?=some (b'.getD i 0):=by simp[hb]
      generalize b'.getD i 0=e at hy hel hst'
      refine .al (.mv rfl<|.mv rfl<|.ln rfl kE<|.cm rfl rfl (b:=true) (by simp[dq,hb])<|.nil) rfl ?_
      refine .cT rfl (.region (.mv rfl<|.mv rfl<|.mv rfl<|.oX rfl rfl nt (by omega) (by omega) (bp hy)<|.gC rfl pK<|.cv rfl mb (bP (by omega))<|
       .ar rfl rfl (congrArg some (wrap_u64 (n:=c+d+e) (by omega) (by omega)))<|.aq rfl<|.nil) rfl fun _ _ hs=>?_)
      exact hs.sub (dh rfl) (iX rfl) rfl rfl
     ·have he:b'.getD i 0=0:=by simp[List.getElem?_eq_none (show b'.length<=i by omega)]
      refine .al (.mv rfl<|.mv rfl<|.ln rfl kE<|.cm rfl rfl (b:=false) (by simp[dq];omega)<|.nil) rfl ?_
      refine .cF rfl (.skip fun _ _ hs=>?_)
      exact hs.sub ⟨⟨_,rfl,.refl _⟩,⟨_,rfl,.refl _⟩,⟨_,rfl,.refl _⟩,⟨_,rfl,.refl _⟩,⟨_,rfl,int_eq (by omega)⟩,⟨_,rfl,.refl _⟩,⟨_,rfl,.refl _⟩,⟨_,rfl,.refl _⟩,trivial⟩ (iX rfl) rfl rfl
    generalize b'.getD i 0=e at hel hst'
    refine .al (.mv rfl<|.mv rfl<|.mv rfl<|.cv rfl kU (i3 _)<|.o0 (n:=a'.length+1) (m':=1) rfl rfl rfl nt (by rw[bG,hzl];omega) rfl rfl (by omega) (by omega)<|.xQ rfl rfl rfl pK rfl rfl (by simp[bG,hzl];try omega)<|.nil) rfl ?_
    refine .region (.mv rfl<|.sh rfl rfl (uS (by decide))<|.aq rfl<|.nil) rfl fun _ _ hs=>?_
    refine hs.to ⟨(zs.set i ((c+d+e)%4294967296),(c+d+e)/4294967296),by simpa using hzl,iu hzs (Nat.mod_lt _ (by omega)) i,?_,?_⟩
     (dh rfl) ⟨⟨_,rfl,.of_eq (dG (eM ..))⟩,trivial⟩ rfl rfl
    ·simp only;omega
    ·simp only
     rw[fy (by omega),hst,hst',Nat.pow_succ]
     exact Bj hv
   ·rintro⟨⟨zs',c'⟩,h1,h2,h3,h4⟩
    simp only at h1 h2 h3 h4
    show Ok PP _ [(0,dr a'),(1,dr b'),(18,.own 18),(5,.own 18),(6,.int .u64 c'),(20,.int .i64 a'.length),(21,.int .i64 i)] [(18,.row 1 230 (bJ zs') (aL _))] _ _
    refine .region (.ar rfl rfl (congrArg some (sZ (n:=i) (m:=1) (by omega)))<|.mv rfl<|.nil) rfl fun _ _ hs=>?_
    exact hs.round (m:=a'.length-i) ⟨(zs',c',i+1),h1,h2,h3,hlt,h4⟩ (by simp only;omega) (dh rfl) (iX rfl) rfl rfl
  ·have:i=a'.length:=by omega
   subst this
   refine .al (.cm rfl rfl (b:=false) (by simp[dq])<|.nil) rfl (.sq ?_)
   refine .cF rfl (.exit fun _ _ hs=>?_)
   refine hs.to ⟨(zs,c),hzl,hzs,hc,?_⟩ (dh rfl) (iX rfl) rfl rfl
   rw[←hval];simpa [List.take_of_length_le hle]using hv
 rintro⟨⟨zs,c⟩,hzl,hzs,hc,hv⟩
 simp only at hzl hzs hc hv
 show Ok PP _ [(0,dr a'),(1,dr b'),(18,.own 18),(5,.own 18),(6,.int .u64 c)] [(18,.row 1 230 (bJ zs) (aL _))] _ _
 refine .al (.mv rfl<|.mv rfl<|.ln rfl kE<|.mv rfl<|.cv rfl kU (fJ (by omega))<|.o0 (n:=a'.length+1) (m':=1) rfl rfl rfl nt (by rw[bG,hzl];omega) rfl rfl (by omega) (by omega)<|.xQ rfl rfl rfl pK rfl rfl (by simp[bG,hzl];try omega)<|.nil) rfl ?_
 refine .rT (n:=a'.length+1) (m':=1) 5 rfl rfl (by simp[bG,hzl]) rfl rfl ?_
 have hset:(bJ zs).set ((a'.length:Int).toNat*1) (.int .u32 c)=bJ (zs.set a'.length c):=eM ..
 have hlv:val (zs.set a'.length c)=s:=by
  have:=fy (l:=zs) (i:=a'.length) (by omega) c
  rw[List.take_of_length_le (by simp;omega)]at this
  rw[this,hv]
 rw[←hlv]
 refine .sub [(5,dr (zs.set a'.length c))] [] ⟨⟨_,rfl,.of_eq (mg (by simp[hzl]) hset)⟩,trivial⟩ trivial rfl rfl ?_
 refine .al (.mv rfl<|.call (lF _ (iu hzs (by omega) _) (by simp;omega)) ⟨rfl,trivial⟩<|.aq rfl<|.nil) rfl ?_
 exact .pq rfl (.tmp rfl) (.refl _) rfl
end Go.Am
namespace Go.Am
open Go.RowKit
section
variable {P:Program} {os:List Oper} {c:Ctx} {T T':List (Nat×D)} {H H':List (Nat×Hp)} {sps:List Spec}
variable {ops:Array Oper} {dst:Option Nat} {ty:TypeId} {pos:String} {aft:Array Edge}
theorem an.GR{xt:TypeId}{x:Operand}{k:IntKind}{n r:Int}(hx:ev T x=some (.int k n))(h:bits .xor k (if k.signed then-1 else k.max) n=r)(hr:an P ops c os (br T dst (.int k r)) H sps T' H'):
  an P ops c (⟨dst,.unOp .xor xt x,ty,pos,aft,none⟩::os) T H (ps [(x,.int k n)] (.int k r)::sps) T' H':=
 .pure [(x,.int k n)] rfl (by simpa using hx) (jE rfl) (fun ε w S a ha=>by
  have h1:a.eval x=.int k n:=ha (x,.int k n) (by simp)
  subst h
  exact⟨_,by simp only[execOp,h1,Op.unary,Sem.run_bind,Sem.run_pure];rfl,rfl⟩) hr
end
theorem jn(a b:Nat)(ha:a<4294967296)(hb:b<4294967296):bits .and .u32 (a:Int) (b:Int)=((a&&&b:Nat):Int)/\bits .or .u32 (a:Int) (b:Int)=((a|||b:Nat):Int)/\bits .xor .u32 (a:Int) (b:Int)=((a^^^b:Nat):Int):=by
 have h1:(BitVec.ofInt 32 (a:Int)).toNat=a:=by
  rw[BitVec.ofInt_natCast,BitVec.toNat_ofNat];exact Nat.mod_eq_of_lt (by omega)
 have h2:(BitVec.ofInt 32 (b:Int)).toNat=b:=by
  rw[BitVec.ofInt_natCast,BitVec.toNat_ofNat];exact Nat.mod_eq_of_lt (by omega)
 have x1:a&&&b<2^32:=Nat.and_lt_two_pow _ (by omega)
 have x2:a|||b<2^32:=Nat.or_lt_two_pow (by omega) (by omega)
 have x3:a^^^b<2^32:=Nat.xor_lt_two_pow (by omega) (by omega)
 refine⟨?_,?_,?_⟩
 ·show IntKind.u32.wrap ((BitVec.ofInt 32 (a:Int)&&&BitVec.ofInt 32 (b:Int)).toNat:Int)=_
  rw[BitVec.toNat_and,h1,h2,fJ (by omega)]
 ·show IntKind.u32.wrap ((BitVec.ofInt 32 (a:Int)|||BitVec.ofInt 32 (b:Int)).toNat:Int)=_
  rw[BitVec.toNat_or,h1,h2,fJ (by omega)]
 ·show IntKind.u32.wrap ((BitVec.ofInt 32 (a:Int)^^^BitVec.ofInt 32 (b:Int)).toNat:Int)=_
  rw[BitVec.toNat_xor,h1,h2,fJ (by omega)]
theorem Fu{n:Nat}(h:n<4294967296):n/2147483648=if n.testBit 31 then 1 else 0:=by
 rw[Nat.testBit_eq_decide_div_mod_eq]
 simp only[decide_eq_true_eq]
 split<;>omega
theorem Ez{n:Nat}(h:n<4294967296):n.testBit 31=decide (2147483648<=n):=by
 rw[Nat.testBit_eq_decide_div_mod_eq]
 by_cases h1:2147483648<=n
 ·simp only[h1,decide_true,decide_eq_true_eq];omega
 ·simp only[h1,decide_false,decide_eq_false_iff_not];omega
theorem FU:(4294967295:Nat).testBit 31=true:=by decide
theorem w9{x y b:Nat}(hx:x<4294967296)(hy:y<4294967296)(hb:b<=1):
  (((4294967295^^^x)&&&y)|||((4294967295^^^(x^^^y))&&&((x+(8589934592-y-b))%4294967296)))/2147483648=if x<y+b then 1 else 0:=by
 have hd:(x+(8589934592-y-b))%4294967296<4294967296:=Nat.mod_lt _ (by omega)
 generalize hdd:(x+(8589934592-y-b))%4294967296=d at hd
 have h1:(4294967295^^^x)&&&y<2^32:=Nat.and_lt_two_pow _ (by omega)
 have h2:(4294967295^^^(x^^^y))&&&d<2^32:=Nat.and_lt_two_pow _ (by omega)
 rw[Fu (Nat.or_lt_two_pow h1 h2)]
 simp only[Nat.testBit_or,Nat.testBit_and,Nat.testBit_xor,FU,Ez hx,Ez hy,Ez hd]
 by_cases c1:2147483648<=x<;>by_cases c2:2147483648<=y<;>by_cases c3:2147483648<=d<;>simp[c1,c2,c3]<;>omega
theorem tK(x y b:Nat)(hx:x<4294967296)(hy:y<4294967296)(hb:b<=1):kC PP 247 [.int .u32 x,.int .u32 y,.int .u32 b]
  (.iC [.int .u32 ((x+(8589934592-y-b))%4294967296:Nat),.int .u32 (if x<y+b then 1 else 0:Nat)]):=by
 refine .of Go.Proofs.Tryz.func247 rfl (by kernel_rfl) rfl rfl rfl (fun A w0=>?_)
 have hd:(x+(8589934592-y-b))%4294967296<4294967296:=Nat.mod_lt _ (by omega)
 have hbor:=w9 hx hy hb
 generalize hdd:(x+(8589934592-y-b))%4294967296=d at hd hbor
 have h1:(4294967295^^^x)<2^32:=Nat.xor_lt_two_pow (by omega) (by omega)
 have h2:x^^^y<2^32:=Nat.xor_lt_two_pow (by omega) (by omega)
 have h3:4294967295^^^(x^^^y)<2^32:=Nat.xor_lt_two_pow (by omega) h2
 have h4:(4294967295^^^x)&&&y<2^32:=Nat.and_lt_two_pow _ (by omega)
 have h5:(4294967295^^^(x^^^y))&&&d<2^32:=Nat.and_lt_two_pow _ (by omega)
 have h6:IntKind.u32.wrap (IntKind.u32.wrap ((x:Int)-y)-b)=(d:Int):=by
  rw[IntKind.wrap_u32,IntKind.wrap_u32];omega
 refine .al (.aq rfl<|.aq rfl<|.nil) rfl ?_
 refine .al (.mv rfl<|.mv rfl<|.ar rfl rfl rfl<|.mv rfl<|.ar rfl rfl (congrArg some h6)<|.aq rfl<|.nil) rfl ?_
 refine .al (.mv rfl<|.GR rfl (jn 4294967295 x (by omega) hx).2.2<|.mv rfl<|.ar rfl rfl (congrArg some (jn _ _ h1 hy).1)<|.mv rfl<|.mv rfl<|.ar rfl rfl (congrArg some (jn x y hx hy).2.2)<|
  .GR rfl (jn 4294967295 _ (by omega) h2).2.2<|.mv rfl<|.ar rfl rfl (congrArg some (jn _ _ h3 hd).1)<|.ar rfl rfl (congrArg some (jn _ _ h4 h5).2.1)<|.sh rfl rfl rfl<|.aq rfl<|.nil) rfl ?_
 refine .C9 rfl (.tmp rfl) (.tmp rfl) (.of_eq ?_) rfl
 rw[←hbor]
 show D.iC [_,.int .u32 (Int.fdiv _ _)]=_
 rw[Int.fdiv_eq_ediv_of_nonneg _ (by decide)]
 rfl
theorem Cp(x y c:Nat)(hx:x<4294967296)(hy:y<4294967296)(hc:c<=1):kC PP 251 [.int .u32 x,.int .u32 y,.int .u32 c]
  (.iC [.int .u32 ((x+y+c)%4294967296:Nat),.int .u32 ((x+y+c)/4294967296:Nat)]):=by
 refine .of Go.Proofs.Tryz.func251 rfl (by kernel_rfl) rfl rfl rfl (fun A w0=>?_)
 refine .al (.aq rfl<|.aq rfl<|.nil) rfl ?_
 refine .al (.mv rfl<|.cv rfl mb (bP (by omega))<|.mv rfl<|.cv rfl mb (bP (by omega))<|.ar rfl rfl (congrArg some (wrap_u64 (n:=x+y) (by omega) (by omega)))<|
  .mv rfl<|.cv rfl mb (bP (by omega))<|.ar rfl rfl (congrArg some (wrap_u64 (n:=x+y+c) (by omega) (by omega)))<|.aq rfl<|.nil) rfl ?_
 refine .al (.mv rfl<|.cv rfl kU (i3 _)<|.aq rfl<|.nil) rfl ?_
 refine .al (.mv rfl<|.sh rfl rfl (uS (by decide))<|.cv rfl kU (fJ (by omega))<|.aq rfl<|.nil) rfl ?_
 exact .C9 rfl (.tmp rfl) (.tmp rfl) (.refl _) rfl
def bA(x:Nat):Nat:=if x=0 then 0 else Nat.log2 x+1
def px:ByteArray:=⟨((List.range 256).map fun n=>UInt8.ofNat (bA n)).toArray⟩
theorem l8{x:Nat}(h:x≠0):bA x=Nat.log2 x+1:=by simp[bA,h]
theorem lD(x:Nat):x<2^bA x:=by
 by_cases h:x=0
 ·subst h;decide
 ·rw[l8 h];exact Nat.lt_log2_self
theorem tQ{x:Nat}(h:x≠0):2^(bA x-1)<=x:=by
 rw[l8 h];exact Nat.log2_self_le h
theorem Dm{x n:Nat}(h1:2^n<=x)(h2:x<2^(n+1)):bA x=n+1:=by
 have h0:x≠0:=by have:=Nat.two_pow_pos n;omega
 rw[l8 h0,(Nat.log2_eq_iff h0).2 ⟨h1,h2⟩]
theorem n7{x:Nat}(k:Nat)(h:2^k<=x):bA (x/2^k)+k=bA x:=by
 have hp:=Nat.two_pow_pos k
 have hx:x≠0:=by omega
 have hq:x/2^k≠0:=by have:=Nat.div_pos h hp;omega
 have h1:=tQ hq
 have h2:=lD (x/2^k)
 rw[l8 hq]at h1 h2|-
 symm
 rw[show Nat.log2 (x/2^k)+1+k=(Nat.log2 (x/2^k)+k)+1 by omega]
 apply Dm
 ·rw[Nat.pow_add];exact(Nat.le_div_iff_mul_le hp).1 h1
 ·rw[show Nat.log2 (x/2^k)+k+1=(Nat.log2 (x/2^k)+1)+k by omega,Nat.pow_add];exact(Nat.div_lt_iff_lt_mul hp).1 h2
theorem wP{n:Nat}(h:n<256):px[n]?=some (UInt8.ofNat (bA n)):=by
 have hs:px.size=256:=by simp[px,ByteArray.size]
 rw[getElem?_pos px n (by rw[hs];exact h)]
 simp[px,ByteArray.getElem_eq_getElem_data]
end Go.Am
namespace Go.Am
open Go.RowKit
theorem fz(l:List Nat)(i:Nat):val (l.drop i)=l.getD i 0+4294967296*val (l.drop (i+1)):=by
 by_cases h:i<l.length
 ·rw[List.drop_eq_getElem_cons h,val];simp[h]
 ·rw[List.drop_of_length_le (by omega),List.drop_of_length_le (by omega)];simp[val,List.getElem?_eq_none (show l.length<=i by omega)]
theorem eJ(l:List Nat)(i:Nat)(h:i<=l.length):val l=val (l.take i)+4294967296^i*val (l.drop i):=by
 conv=>lhs;rw[←List.take_append_drop i l]
 rw[j5,List.length_take,Nat.min_eq_left h]
theorem eN{l:List Nat}(h:cP l)(i:Nat):val (l.take i)<4294967296^i:=by
 have h1:=nu (k_ h i)
 have h2:(l.take i).length<=i:=by simp;omega
 exact Nat.lt_of_lt_of_le h1 (Nat.pow_le_pow_right (by omega) h2)
theorem kt{x:Nat}:x<4294967296^(aD x).length:=by
 have:=nu (cG x);rwa [dE]at this
theorem cD{x:Nat}(h:x≠0):0<(aD x).length:=by rw[j7 h];simp
theorem qv{x:Nat}(h:x≠0):4294967296^((aD x).length-1)<=x:=by
 induction x using Nat.strongRecOn with
 |_ x ih=>
  rw[j7 h]
  simp only[List.length_cons,Nat.add_sub_cancel]
  by_cases h0:x/4294967296=0
  ·rw[h0,cN];simp;omega
  ·have:=ih _ (Nat.div_lt_self (by omega) (by omega)) h0
   have hl:=cD h0
   obtain⟨n,hn⟩:∃n,(aD (x/4294967296)).length=n+1:=⟨_,(Nat.succ_pred (by omega)).symm⟩
   rw[hn]at this|-
   simp only[Nat.add_sub_cancel]at this
   rw[Nat.pow_succ]
   omega
theorem jh{x y:Nat}(h:x<=y):(aD x).length<=(aD y).length:=by
 by_cases h0:x=0
 ·subst h0;rw[cN];simp
 ·have h1:=qv h0
  have h2:=kt (x:=y)
  have h3:4294967296^((aD x).length-1)<4294967296^(aD y).length:=by omega
  have h4:=(Nat.pow_lt_pow_iff_right (by omega)).1 h3
  have:=cD h0
  omega
theorem sK{x y:Nat}(h:(aD x).length<(aD y).length):x<y:=by
 apply Nat.lt_of_not_le
 intro h'
 have:=jh h'
 omega
theorem eL{x n:Nat}(h:x<4294967296^n):(aD x).length<=n:=by
 by_cases h0:x=0
 ·subst h0;rw[cN];simp
 ·have h1:=qv h0
  have h3:4294967296^((aD x).length-1)<4294967296^n:=by omega
  have h4:=(Nat.pow_lt_pow_iff_right (by omega)).1 h3
  have:=cD h0
  omega
def fg(x y:Nat):Int:=if x<y then-1 else if y<x then 1 else 0
theorem sb{a b:List Nat}{i:Nat}(ha:cP a)(hi:i<=a.length)(hj:i<=b.length)(hlt:val (a.drop i)<val (b.drop i)):val a<val b:=by
 rw[eJ a i hi,eJ b i hj]
 have h1:=eN ha i
 have h2:4294967296^i*(val (a.drop i)+1)<=4294967296^i*val (b.drop i):=Nat.mul_le_mul (Nat.le_refl _) hlt
 rw[Nat.mul_add,Nat.mul_one]at h2
 omega
theorem F0{a b:Int}(h:a=b):dq .eql a b=some true:=by simp[dq,h]
theorem Fm{a b:Int}(h:a≠b):dq .eql a b=some false:=by simp[dq,h]
theorem xw{a b:Int}(h:a<b):dq .lss a b=some true:=by simp[dq,h]
theorem w_{a b:Int}(h:b<=a):dq .lss a b=some false:=by simp[dq];omega
theorem Ev{a b:Int}(h:b<a):dq .gtr a b=some true:=by simp[dq,h]
theorem EY{a b:Int}(h:a<=b):dq .gtr a b=some false:=by simp[dq];omega
theorem D6{a b:Int}(h:b<=a):dq .geq a b=some true:=by simp[dq,h]
theorem Cf{a b:Int}(h:a<b):dq .geq a b=some false:=by simp[dq];omega
theorem AG{n d:Nat}(hd:d≠0)(hn:n<18446744073709551616):nM .quo .u64 (n:Int) (d:Int)=some ((n/d:Nat):Int):=by
 unfold nM
 simp only[Int.natCast_eq_zero,hd,if_false]
 rw[show(n:Int).tdiv (d:Int)=((n/d:Nat):Int)from rfl,bP (Nat.lt_of_le_of_lt (Nat.div_le_self _ _) hn)]
theorem tO{k:IntKind}{n d:Nat}(hd:d≠0):nM .rem k (n:Int) (d:Int)=some ((n%d:Nat):Int):=by
 unfold nM
 simp only[Int.natCast_eq_zero,hd,if_false]
 rfl
theorem ud{n d:Nat}(hd:d≠0)(hn:n<9223372036854775808):nM .quo .i64 (n:Int) (d:Int)=some ((n/d:Nat):Int):=by
 unfold nM
 simp only[Int.natCast_eq_zero,hd,if_false]
 rw[show(n:Int).tdiv (d:Int)=((n/d:Nat):Int)from rfl,gg rfl (Nat.lt_of_le_of_lt (Nat.div_le_self _ _) hn)]
theorem xL{n:Nat}(hn:n<4294967296):y7 .shl .u64 (n:Int) 32=some ((n*4294967296:Nat):Int):=by
 unfold y7
 rw[if_neg (by omega)]
 simp only[show min (32:Int).toNat IntKind.u64.bits=32 by decide]
 rw[show(n:Int)*2^32=((n*4294967296:Nat):Int)by rw[Int.natCast_mul];rfl,bP (by omega)]
theorem ua{n d:Nat}(hn:n<4294967296)(hd:d<4294967296):nM .or .u64 ((n*4294967296:Nat):Int) (d:Int)=some ((n*4294967296+d:Nat):Int):=by
 show some (bits .or .u64 _ _)=_
 rw[bits_or_u64_nat _ _ (by omega) (by omega)]
 have:=Nat.two_pow_add_eq_or_of_lt (i:=32) (b:=d) (by omega) n
 rw[show n*4294967296=2^32*n by omega,←this]
theorem qM{n d:Nat}(h:n*d<18446744073709551616):nM .mul .u64 (n:Int) (d:Int)=some ((n*d:Nat):Int):=by
 show some (IntKind.u64.wrap _)=_
 rw[←Int.natCast_mul,bP h]
theorem qN{n d:Nat}(h:n+d<18446744073709551616):nM .add .u64 (n:Int) (d:Int)=some ((n+d:Nat):Int):=congrArg some (wrap_u64 (by omega) h)
theorem dD{n d:Nat}(h:n+d<9223372036854775808):nM .add .i64 (n:Int) (d:Int)=some ((n+d:Nat):Int):=congrArg some (gg (by omega) h)
theorem oL{n d:Nat}(h:d<=n)(h':n<9223372036854775808):nM .sub .i64 (n:Int) (d:Int)=some ((n-d:Nat):Int):=congrArg some (gg (by omega) (by omega))
theorem jQ{n:Nat}(h':n<9223372036854775808):nM .sub .i64 (n:Int) 1=some ((n:Int)-1):=congrArg some (wrap_i64 (by omega) (by omega))
theorem fo{n:Nat}(h':n+1<9223372036854775808):nM .add .i64 (n:Int) 1=some ((n+1:Nat):Int):=dD (d:=1) h'
theorem Le.nil{m:Nat}:Le .nil (.iS 0 m [] rfl):=⟨fun _ _ _ _ h=>⟨none,0,h,Nat.le_refl _,by simp,.inl rfl⟩,fun _ h=>h⟩
theorem aU:Le .nil (aj 0):=by
 have:aj 0=.iS 0 1 [] rfl:=dg_eq' (by rw[cN])
 rw[this];exact .nil
where dg_eq' {xs:List Nat} (h:xs=[]):dr xs=.iS 0 1 [] rfl:=by subst h;rfl
end Go.Am
namespace Go.Am
open Go.RowKit
theorem qL{n k:Nat}(hk:k<=32):y7 .shr .u32 (n:Int) (k:Int)=some ((n/2^k:Nat):Int):=by
 unfold y7
 rw[if_neg (by omega)]
 have:min (k:Int).toNat IntKind.u32.bits=k:=by rw[Int.toNat_natCast,show IntKind.u32.bits=32 by decide];omega
 simp only[this]
 rw[Int.fdiv_eq_ediv_of_nonneg _ (by exact_mod_cast Nat.zero_le _)]
 congr 1
theorem dI{x n:Nat}(h:x<2^n):bA x<=n:=by
 by_cases h0:x=0
 ·subst h0;exact Nat.zero_le _
 ·have h1:=tQ h0
  have:=(Nat.pow_lt_pow_iff_right (a:=2) (by omega)).1 (Nat.lt_of_le_of_lt h1 h)
  rw[l8 h0]at this|-;omega
theorem ye(x:Nat)(hx:x<4294967296):kC PP 231 [.int .u32 x] (.int .i64 (bA x:Nat)):=by
 refine .of Go.Proofs.Tryz.func231 rfl (by kernel_rfl) rfl rfl rfl (fun A w0=>?_)
 refine .al (.aq rfl<|.nil) rfl ?_
 refine .rS (ι:={p:Nat×Nat//p.1<65536/\p.2<=16/\bA p.1+p.2=bA x}) (fun p=>[(0,.int .u32 (p.1.1:Nat)),(2,.int .i64 (p.1.2:Nat))]) (fun _=>[]) ?_ ?_
 ·by_cases h:65536<=x
  ·refine .al (.mv rfl<|.cm rfl rfl (b:=true) (by simp[dq];try omega)<|.nil) rfl ?_
   refine .cT rfl (.al (.mv rfl<|.sh rfl rfl (qL (k:=16) (by omega))<|.aq rfl<|.nil) rfl ?_)
   refine .region (.aq rfl<|.nil) rfl fun _ _ hs=>?_
   exact hs.to ⟨(x/65536,16),by omega,Nat.le_refl _,n7 16 h⟩ (dh rfl) trivial rfl rfl
  ·refine .al (.mv rfl<|.cm rfl rfl (b:=false) (by simp[dq];try omega)<|.nil) rfl ?_
   exact .cF rfl (.skip fun _ _ hs=>hs.to ⟨(x,0),Nat.lt_of_not_le h,by omega,rfl⟩ (dh rfl) trivial rfl rfl)
 rintro⟨⟨y,n⟩,hy,hn,he⟩
 simp only at hy hn he
 show Ok PP _ [(0,.int .u32 (y:Nat)),(2,.int .i64 (n:Nat))] [] _ _
 rw[←he]
 clear he hx x
 refine .rS (ι:={p:Nat×Nat//p.1<256/\p.2<=24/\bA p.1+p.2=bA y+n}) (fun p=>[(0,.int .u32 (p.1.1:Nat)),(2,.int .i64 (p.1.2:Nat))]) (fun _=>[]) ?_ ?_
 ·by_cases h:256<=y
  ·refine .al (.mv rfl<|.cm rfl rfl (b:=true) (by simp[dq];try omega)<|.nil) rfl ?_
   refine .cT rfl (.al (.mv rfl<|.sh rfl rfl (qL (k:=8) (by omega))<|.aq rfl<|.nil) rfl ?_)
   refine .region (.mv rfl<|.ar rfl rfl (dD (n:=n) (d:=8) (by omega))<|.aq rfl<|.nil) rfl fun _ _ hs=>?_
   refine hs.to ⟨(y/256,n+8),by simp only;omega,by simp only;omega,?_⟩ (dh rfl) trivial rfl rfl
   have:bA (y/256)+8=bA y:=n7 (x:=y) 8 h
   simp only at this|-;omega
  ·refine .al (.mv rfl<|.cm rfl rfl (b:=false) (by simp[dq];try omega)<|.nil) rfl ?_
   exact .cF rfl (.skip fun _ _ hs=>hs.to ⟨(y,n),Nat.lt_of_not_le h,by simp only;omega,rfl⟩ (dh rfl) trivial rfl rfl)
 rintro⟨⟨z,k⟩,hz,hk,he⟩
 simp only at hz hk he
 show Ok PP _ [(0,.int .u32 (z:Nat)),(2,.int .i64 (k:Nat))] [] _ _
 rw[←he]
 have hb:bA z<=8:=dI (by omega)
 have hw:IntKind.i64.wrap ((UInt8.ofNat (bA z)).toNat:Int)=((bA z:Nat):Int):=by
  rw[show(UInt8.ofNat (bA z)).toNat=bA z by rw[UInt8.toNat_ofNat'];omega]
  exact gg rfl (by omega)
 refine .al (.mv rfl<|.mv rfl<|.cv rfl qb (r:=(z:Int)) (by rw[IntKind.wrap_u8];omega)<|.Ga (s:=px) (by kernel_rfl) rfl ct (by omega) (wP (by omega))<|.cv rfl uj hw<|
  .ar rfl rfl (dD (by omega))<|.aq rfl<|.nil) rfl ?_
 refine .pq rfl (.tmp rfl) (int_eq ?_) rfl
 omega
theorem pw(x:Nat)(hx:x<4294967296):kC PP 226 [.int .u32 x] (.int .i64 ((32-bA x:Nat):Int)):=by
 refine .of Go.Proofs.Tryz.func226 rfl (by kernel_rfl) rfl rfl rfl (fun A w0=>?_)
 refine .al (.aq rfl<|.nil) rfl ?_
 refine .al (.mv rfl<|.call (ye x hx) ⟨rfl,trivial⟩<|.ar rfl rfl (oL (n:=32) (dI (n:=32) (by omega)) (by omega))<|.aq rfl<|.nil) rfl ?_
 exact .pq rfl (.tmp rfl) (.refl _) rfl
theorem tW{x y:Nat}(h:x<y):fg x y=-1:=by simp[fg,h]
theorem xY{x y:Nat}(h:y<x):fg x y=1:=by simp[fg,h];omega
theorem Dh(x:Nat):fg x x=0:=by simp[fg]
theorem Ar(x y:Nat)(hx:(aD x).length<=1099511627776)(hy:(aD y).length<=1099511627776):kC PP 224 [aj x,aj y] (.int .i64 (fg x y)):=by
 show kC PP _ [dr (aD x),dr (aD y)] _
 refine .of Go.Proofs.Tryz.func224 rfl (by kernel_rfl) rfl rfl rfl (fun A w0=>?_)
 refine .al (.aq rfl<|.nil) rfl ?_
 refine .sq ?_
 by_cases hl:(aD x).length=(aD y).length
 ·refine .al (.mv rfl<|.ln rfl av<|.mv rfl<|.ln rfl av<|.cm rfl rfl (b:=false) (by simp[dq,hl])<|.nil) rfl ?_
  refine .cF rfl (.skip (Ok.on (.sq ?_)))
  refine .al (.mv rfl<|.ln rfl av<|.ar rfl rfl (jQ (by omega))<|.aq rfl<|.nil) rfl ?_
  refine .block (.loop (ι:={j:Nat//j<=(aD x).length/\val ((aD x).drop j)=val ((aD y).drop j)}) (fun j=>[(0,dr (aD x)),(1,dr (aD y)),(5,.int .i64 ((j.1:Nat)-1))]) (fun _=>[]) (fun j=>j.1)
   ⟨(aD x).length,Nat.le_refl _,by rw[List.drop_length,hl,List.drop_length]⟩ (dh rfl) trivial rfl rfl ?_)
  rintro⟨j,hj,hv⟩
  show Ok PP _ [(0,dr (aD x)),(1,dr (aD y)),(5,.int .i64 ((j:Nat)-1))] [] _ _
  refine .sq ?_
  cases j with
  |zero=>
   refine .al (.mv rfl<|.cm rfl rfl (b:=false) (by simp[dq])<|.nil) rfl ?_
   refine .cF rfl (.exit (Ok.on ?_))
   refine .al (.aq rfl<|.nil) rfl ?_
   simp only[List.drop_zero,dE]at hv
   subst hv
   exact .pq rfl (.tmp rfl) (int_eq (Dh x).symm) rfl
  |succ i=>
   have hxi:(aD x)[i]?=some ((aD x).getD i 0):=by simp[show i<(aD x).length by omega]
   have hyi:(aD y)[i]?=some ((aD y).getD i 0):=by simp[show i<(aD y).length by omega]
   have hdx:=fz (aD x) i
   have hdy:=fz (aD y) i
   generalize (aD x).getD i 0=d at hxi hdx
   generalize (aD y).getD i 0=e at hyi hdy
   refine .al (.mv rfl<|.cm rfl rfl (b:=true) (by simp[dq];try omega)<|.nil) rfl ?_
   refine .cT rfl (.skip (Ok.on (.sq (.block ?_))))
   have hi:((i+1:Nat):Int)-1=i:=by omega
   rw[hi]
   by_cases hde:d=e
   ·refine .dc cg (.mv rfl<|.mv rfl<|.oX rfl rfl ay (by omega) (by omega) (bp hxi)<|.gC rfl aN<|.mv rfl<|.mv rfl<|.oX rfl rfl ay (by omega) (by omega) (bp hyi)<|.gC rfl aN<|
     .cm rfl rfl (b:=false) (by simp[dq,hde])<|.nil) rfl (by kernel_rfl) ?_
    refine .cF rfl (.skip (Ok.on ?_))
    refine .region (.mv rfl<|.ar rfl rfl (jQ (by omega))<|.aq rfl<|.nil) rfl fun _ _ hs=>?_
    exact hs.round (m:=i+1) ⟨i,by omega,by rw[hdx,hdy,hv,hde]⟩ (by simp) (dh rfl) trivial rfl rfl
   ·refine .dc cg (.mv rfl<|.mv rfl<|.oX rfl rfl ay (by omega) (by omega) (bp hxi)<|.gC rfl aN<|.mv rfl<|.mv rfl<|.oX rfl rfl ay (by omega) (by omega) (bp hyi)<|.gC rfl aN<|
     .cm rfl rfl (b:=true) (by simp[dq];try omega)<|.nil) rfl (by kernel_rfl) ?_
    refine .cT rfl (.sq ?_)
    by_cases hlt:d<e
    ·refine .dc cg (.mv rfl<|.mv rfl<|.oX rfl rfl ay (by omega) (by omega) (bp hxi)<|.gC rfl aN<|.mv rfl<|.mv rfl<|.oX rfl rfl ay (by omega) (by omega) (bp hyi)<|.gC rfl aN<|
      .cm rfl rfl (b:=true) (by simp[dq];try omega)<|.nil) rfl (by kernel_rfl) ?_
     refine .cT rfl (.al (.aq rfl<|.nil) rfl ?_)
     have:x<y:=by
      have:=sb (a:=aD x) (b:=aD y) (i:=i) (cG x) (by omega) (by omega) (by omega)
      simpa [dE]using this
     exact .pH (fun _ _ h=>h) rfl (.tmp rfl) (int_eq (tW this).symm) rfl
    ·refine .dc cg (.mv rfl<|.mv rfl<|.oX rfl rfl ay (by omega) (by omega) (bp hxi)<|.gC rfl aN<|.mv rfl<|.mv rfl<|.oX rfl rfl ay (by omega) (by omega) (bp hyi)<|.gC rfl aN<|
      .cm rfl rfl (b:=false) (by simp[dq];try omega)<|.nil) rfl (by kernel_rfl) ?_
     refine .cF rfl (.skip (Ok.on ?_))
     refine .al (.aq rfl<|.nil) rfl ?_
     have:y<x:=by
      have:=sb (a:=aD y) (b:=aD x) (i:=i) (cG y) (by omega) (by omega) (by omega)
      simpa [dE]using this
     exact .pH (fun _ _ h=>h) rfl (.tmp rfl) (int_eq (xY this).symm) rfl
 ·refine .al (.mv rfl<|.ln rfl av<|.mv rfl<|.ln rfl av<|.cm rfl rfl (b:=true) (by simp[dq];try omega)<|.nil) rfl ?_
  refine .cT rfl (.sq ?_)
  by_cases hlt:(aD x).length<(aD y).length
  ·refine .al (.mv rfl<|.ln rfl av<|.mv rfl<|.ln rfl av<|.cm rfl rfl (b:=true) (by simp[dq];try omega)<|.nil) rfl ?_
   refine .cT rfl (.al (.aq rfl<|.nil) rfl ?_)
   have hxy:x<y:=sK hlt
   exact .pH (fun _ _ h=>h) rfl (.tmp rfl) (int_eq (tW hxy).symm) rfl
  ·refine .al (.mv rfl<|.ln rfl av<|.mv rfl<|.ln rfl av<|.cm rfl rfl (b:=false) (by simp[dq];try omega)<|.nil) rfl ?_
   refine .cF rfl (.skip (Ok.on ?_))
   refine .al (.aq rfl<|.nil) rfl ?_
   have hxy:y<x:=sK (by omega)
   exact .pH (fun _ _ h=>h) rfl (.tmp rfl) (int_eq (xY hxy).symm) rfl
end Go.Am
namespace Go.Am
open Go.RowKit
theorem zX{p d e o w w' v va vb:Nat}(h:v+vb=va+p*w)(ho:o+e+w=d+4294967296*w'):v+p*o+(vb+p*e)=va+p*d+p*4294967296*w':=by
 have:p*(o+e+w)=p*(d+4294967296*w'):=by rw[ho]
 rw[Nat.mul_add,Nat.mul_add,Nat.mul_add,←Nat.mul_assoc]at this
 omega
theorem Fp(x y:Nat)(hyx:y<=x)(hx:(aD x).length<=1099511627776):kC PP 215 [aj x,aj y] (aj (x-y)):=by
 show kC PP _ [dr (aD x),dr (aD y)] _
 have hly:=jh hyx
 have hvx:=dE x
 have hvy:=dE y
 have hlx:=cG x
 have hlwy:=cG y
 generalize aD x=a at*
 generalize aD y=b at*
 refine .of Go.Proofs.Tryz.func215 rfl (by kernel_rfl) rfl rfl rfl (fun A w0=>?_)
 refine .al (.aq rfl<|.nil) rfl ?_
 refine .al (.mv rfl<|.ln rfl av<|.E1 rfl rfl dz rfl (by omega) (by omega) rfl<|.aq rfl<|.nil) rfl ?_
 refine .al (.aq rfl<|.nil) rfl (.sq ?_)
 refine .al (.mv rfl<|.ln rfl av<|.mv rfl<|.nil) rfl ?_
 refine .block (.loop (ι:={p:List Nat×Nat×Nat//p.1.length=a.length/\cP p.1/\p.2.1<=1/\p.2.2<=a.length/\val (p.1.take p.2.2)+val (b.take p.2.2)=val (a.take p.2.2)+4294967296^p.2.2*p.2.1})
  (fun p=>[(0,dr a),(1,dr b),(11,.own 11),(5,.own 11),(6,.int .u32 p.1.2.1),(13,.int .i64 a.length),(14,.int .i64 p.1.2.2)]) (fun p=>[(11,.row 1 230 (bJ p.1.1) (aL _))])
  (fun p=>a.length-p.1.2.2) ⟨(List.replicate a.length 0,0,0),by simp,gR _,by simp,Nat.zero_le _,by simp[val]⟩
  (dh rfl) ⟨⟨_,rfl,.of_eq (dG (lE _))⟩,trivial⟩ rfl rfl ?_)
 rintro⟨⟨zs,c,i⟩,hzl,hzs,hc,hi,hv⟩
 simp only at hzl hzs hc hi hv
 show Ok PP _ [(0,dr a),(1,dr b),(11,.own 11),(5,.own 11),(6,.int .u32 c),(13,.int .i64 a.length),(14,.int .i64 i)] [(11,.row 1 230 (bJ zs) (aL _))] _ _
 by_cases hlt:i<a.length
 ·refine .al (.cm rfl rfl (b:=true) (by simp[dq,hlt])<|.nil) rfl (.sq ?_)
  refine .cT rfl (.skip (Ok.on (.sq (.block ?_))))
  have hxi:a[i]?=some (a.getD i 0):=by simp[hlt]
  have hdl:=bV hlx i
  have hel:=bV hlwy i
  have hst:=dA a i
  have hst':=dA b i
  generalize a.getD i 0=d at hxi hdl hst
  refine .al (.mv rfl<|.aq rfl<|.nil) rfl ?_
  refine .al (.aq rfl<|.nil) rfl ?_
  refine .cut [(0,dr a),(1,dr b),(11,.own 11),(5,.own 11),(6,.int .u32 c),(7,.int .i64 i),(8,.int .u32 (b.getD i 0:Nat)),(13,.int .i64 a.length),(14,.int .i64 i)] [(11,.row 1 230 (bJ zs) (aL _))] ?_ ?_
  ·by_cases hb:i<b.length
   ·have hy:b[i]?=some (b.getD i 0):=by simp[hb]
    generalize b.getD i 0=e at hy
    refine .al (.mv rfl<|.mv rfl<|.ln rfl av<|.cm rfl rfl (b:=true) (by simp[dq,hb])<|.nil) rfl ?_
    refine .cT rfl (.region (.mv rfl<|.mv rfl<|.oX rfl rfl ay (by omega) (by omega) (bp hy)<|.gC rfl aN<|.aq rfl<|.nil) rfl fun _ _ hs=>?_)
    exact hs.sub (dh rfl) (iX rfl) rfl rfl
   ·have he:b.getD i 0=0:=by simp[List.getElem?_eq_none (show b.length<=i by omega)]
    rw[he]
    refine .al (.mv rfl<|.mv rfl<|.ln rfl av<|.cm rfl rfl (b:=false) (by simp[dq];omega)<|.nil) rfl ?_
    exact .cF rfl (.skip fun _ _ hs=>hs.sub (dh rfl) (iX rfl) rfl rfl)
  generalize b.getD i 0=e at hel hst'
  refine .region (.mv rfl<|.mv rfl<|.mv rfl<|.mv rfl<|.oX rfl rfl ay (by omega) (by omega) (bp hxi)<|.gC rfl aN<|.mv rfl<|.mv rfl<|.call (tK d e c hdl hel hc) ⟨rfl,rfl,rfl,trivial⟩<|.mv rfl<|.ext rfl rfl<|.ext rfl rfl<|
   .o0 (n:=a.length) (m':=1) rfl rfl rfl ay (by rw[bG,hzl];omega) rfl rfl (by omega) (by omega)<|.xQ rfl rfl rfl aN rfl rfl (by simp[bG,hzl];try omega)<|.aq rfl<|.nil) rfl fun _ _ hs=>?_
  refine Ok.on ?_ _ _ hs
  refine .region (.ar rfl rfl (fo (by omega))<|.mv rfl<|.nil) rfl fun _ _ hs=>?_
  refine hs.round (m:=a.length-i) ⟨(zs.set i ((d+(8589934592-e-c))%4294967296),if d<e+c then 1 else 0,i+1),by simpa using hzl,iu hzs (Nat.mod_lt _ (by omega)) i,?_,hlt,?_⟩ (by simp only;omega)
   (dh rfl) ⟨⟨_,rfl,.of_eq (dG (eM ..))⟩,trivial⟩ rfl rfl
  ·simp only;split<;>omega
  ·simp only
   rw[fy (by omega),hst,hst',Nat.pow_succ]
   refine zX hv ?_
   split<;>omega
 ·have:i=a.length:=by omega
  subst this
  refine .al (.cm rfl rfl (b:=false) (by simp[dq])<|.nil) rfl (.sq ?_)
  refine .cF rfl (.exit (Ok.on ?_))
  rw[List.take_length,List.take_of_length_le (by omega),List.take_of_length_le hly]at hv
  have hz:=nu hzs
  have hc0:c=0:=by
   rcases(show c=0\/c=1 by omega)with h|h
   ·exact h
   ·subst h;rw[hzl]at hz;omega
  subst hc0
  have hlv:val zs=x-y:=by omega
  refine .rT (n:=a.length) (m':=1) 5 rfl rfl (by simp[bG,hzl]) rfl rfl ?_
  refine .sub [(5,dr zs)] [] ⟨⟨_,rfl,.of_eq (mg hzl.symm rfl)⟩,trivial⟩ trivial rfl rfl ?_
  refine .al (.mv rfl<|.call (lF _ hzs (by omega)) ⟨rfl,trivial⟩<|.aq rfl<|.nil) rfl ?_
  exact .pq rfl (.tmp rfl) (.of_eq (by rw[hlv])) rfl
theorem yr(x d:Nat)(hd0:d≠0)(hd:d<4294967296)(hx:(aD x).length<=1099511627776):kC PP 225 [aj x,.int .u32 d] (.iC [aj (x/d),aj (x%d)]):=by
 show kC PP _ [dr (aD x),.int .u32 d] _
 have hvx:=dE x
 have hlx:=cG x
 generalize aD x=a at*
 refine .of Go.Proofs.Tryz.func225 rfl (by kernel_rfl) rfl rfl rfl (fun A w0=>?_)
 refine .al (.aq rfl<|.aq rfl<|.nil) rfl ?_
 refine .al (.mv rfl<|.ln rfl av<|.E1 rfl rfl dz rfl (by omega) (by omega) rfl<|.aq rfl<|.nil) rfl ?_
 refine .al (.aq rfl<|.nil) rfl (.sq ?_)
 refine .al (.mv rfl<|.ln rfl av<|.ar rfl rfl (jQ (by omega))<|.aq rfl<|.nil) rfl ?_
 refine .block (.loop (ι:={p:List Nat×Nat×Nat//p.1.length=a.length/\cP p.1/\p.2.1<d/\p.2.2<=a.length/\val (a.drop p.2.2)=val (p.1.drop p.2.2)*d+p.2.1})
  (fun p=>[(0,dr a),(1,.int .u32 d),(11,.own 11),(6,.own 11),(7,.int .u64 p.1.2.1),(8,.int .i64 ((p.1.2.2:Nat)-1))]) (fun p=>[(11,.row 1 230 (bJ p.1.1) (aL _))])
  (fun p=>p.1.2.2) ⟨(List.replicate a.length 0,0,a.length),by simp,gR _,by simp only;omega,Nat.le_refl _,by simp[val]⟩
  (dh rfl) ⟨⟨_,rfl,.of_eq (dG (lE _))⟩,trivial⟩ rfl rfl ?_)
 rintro⟨⟨zs,c,j⟩,hzl,hzs,hc,hj,hv⟩
 simp only at hzl hzs hc hj hv
 show Ok PP _ [(0,dr a),(1,.int .u32 d),(11,.own 11),(6,.own 11),(7,.int .u64 c),(8,.int .i64 ((j:Nat)-1))] [(11,.row 1 230 (bJ zs) (aL _))] _ _
 refine .sq ?_
 cases j with
 |zero=>
  refine .al (.mv rfl<|.cm rfl rfl (b:=false) (by simp[dq])<|.nil) rfl ?_
  refine .cF rfl (.exit (Ok.on ?_))
  simp only[List.drop_zero]at hv
  have hq:val zs=x/d:=by
   rw[←hvx,hv,Nat.mul_comm,Nat.mul_add_div (by omega),Nat.div_eq_of_lt hc];omega
  have hr:c=x%d:=by
   rw[←hvx,hv,Nat.mul_comm,Nat.mul_add_mod,Nat.mod_eq_of_lt hc]
  refine .rT (n:=a.length) (m':=1) 6 rfl rfl (by simp[bG,hzl]) rfl rfl ?_
  refine .sub [(6,dr zs),(7,.int .u64 c)] [] ⟨⟨_,rfl,.of_eq (mg hzl.symm rfl)⟩,⟨_,rfl,.refl _⟩,trivial⟩ trivial rfl rfl ?_
  refine .al (.mv rfl<|.call (lF _ hzs (by omega)) ⟨rfl,trivial⟩<|.mv rfl<|.call (qp c (by omega)) ⟨rfl,trivial⟩<|.aq rfl<|.aq rfl<|.nil) rfl ?_
  exact .C9 rfl (.tmp rfl) (.tmp rfl) (.of_eq (by rw[hq,hr])) rfl
 |succ i=>
  have hxi:a[i]?=some (a.getD i 0):=by simp[show i<a.length by omega]
  have hel:=bV hlx i
  have hdr:=fz a i
  have hdz:=fz (zs.set i ((c*4294967296+a.getD i 0)/d)) i
  generalize a.getD i 0=e at hxi hel hdr hdz
  refine .al (.mv rfl<|.cm rfl rfl (b:=true) (by simp[dq];try omega)<|.nil) rfl ?_
  refine .cT rfl (.skip (Ok.on (.sq (.block ?_))))
  rw[show((i+1:Nat):Int)-1=i by omega]
  have hs0:c*4294967296+e<d*4294967296:=by omega
  have hq1:(c*4294967296+e)/d<4294967296:=by rw[Nat.div_lt_iff_lt_mul (by omega)];omega
  refine .al (.mv rfl<|.sh rfl rfl (xL (n:=c) (by omega))<|.mv rfl<|.mv rfl<|.oX rfl rfl ay (by omega) (by omega) (bp hxi)<|.gC rfl aN<|.cv rfl bq (bP (by omega))<|.ar rfl rfl (ua (by omega) hel)<|.aq rfl<|.nil) rfl ?_
  refine .al (.mv rfl<|.mv rfl<|.mv rfl<|.mv rfl<|.cv rfl bq (bP (by omega))<|.ar rfl rfl (AG hd0 (by omega))<|.cv rfl dW (fJ hq1)<|
   .o0 (n:=a.length) (m':=1) rfl rfl rfl ay (by rw[bG,hzl];omega) rfl rfl (by omega) (by omega)<|.xQ rfl rfl rfl aN rfl rfl (by simp[bG,hzl];try omega)<|.nil) rfl ?_
  refine .region (.mv rfl<|.mv rfl<|.cv rfl bq (bP (by omega))<|.ar rfl rfl (tO hd0)<|.aq rfl<|.nil) rfl fun _ _ hs=>?_
  refine Ok.on ?_ _ _ hs
  refine .region (.mv rfl<|.ar rfl rfl (jQ (by omega))<|.aq rfl<|.nil) rfl fun _ _ hs=>?_
  refine hs.round (m:=i+1) ⟨(zs.set i ((c*4294967296+e)/d),(c*4294967296+e)%d,i),by simpa using hzl,iu hzs hq1 i,Nat.mod_lt _ (by omega),by simp only;omega,?_⟩ (by simp)
   (dh rfl) ⟨⟨_,rfl,.of_eq (dG (eM ..))⟩,trivial⟩ rfl rfl
  simp only
  have hg:(zs.set i ((c*4294967296+e)/d)).getD i 0=(c*4294967296+e)/d:=by simp[show i<zs.length by omega]
  have hds:(zs.set i ((c*4294967296+e)/d)).drop (i+1)=zs.drop (i+1):=List.drop_set_of_lt (Nat.lt_succ_self i)
  rw[hg,hds]at hdz
  rw[hdr,hdz,hv]
  have hdm:=Nat.div_add_mod (c*4294967296+e) d
  generalize (c*4294967296+e)/d=q at*
  generalize (c*4294967296+e)%d=r at*
  generalize val (zs.drop (i+1))=Z at*
  rw[Nat.add_mul,Nat.mul_assoc,Nat.mul_add,Nat.mul_comm q d]
  omega
end Go.Am
namespace Go.Am
open Go.RowKit
theorem B3{p q c x y o vz vb:Nat}{v:Nat}(h:v+p*q*c=vz+p*x*vb):
  v+p*q*((c+(x*y+o))%4294967296)+p*q*4294967296*((c+(x*y+o))/4294967296)=vz+p*q*o+p*x*(vb+q*y):=by
 have:p*q*((c+(x*y+o))%4294967296)+p*q*4294967296*((c+(x*y+o))/4294967296)=p*q*c+(p*q*(x*y)+p*q*o):=by
  rw[Nat.mul_assoc (p*q),←Nat.mul_add,Nat.mod_add_div,Nat.mul_add,Nat.mul_add]
 have e:p*q*(x*y)=p*x*(q*y):=by
  rw[Nat.mul_assoc,Nat.mul_assoc,Nat.mul_left_comm q x y]
 rw[Nat.mul_add]
 omega
theorem yZ{x y c o:Nat}(hx:x<4294967296)(hy:y<4294967296)(hc:c<4294967296)(ho:o<4294967296):x*y+o<18446744073709551616/\c+(x*y+o)<18446744073709551616:=by
 have:x*y<=4294967295*4294967295:=Nat.mul_le_mul (by omega) (by omega)
 omega
theorem DT(x y:Nat)(hx:(aD x).length<=1099511627776)(hy:(aD y).length<=1099511627776):kC PP 150 [aj x,aj y] (aj (x*y)):=by
 show kC PP _ [dr (aD x),dr (aD y)] _
 have hvx:=dE x
 have hvy:=dE y
 have hlx:=cG x
 have hly:=cG y
 generalize aD x=a at*
 generalize aD y=b at*
 refine .of Go.Proofs.Tryz.func150 rfl (by kernel_rfl) rfl rfl rfl (fun A w0=>?_)
 refine .al (.aq rfl<|.nil) rfl ?_
 refine .al (.mv rfl<|.ln rfl av<|.mv rfl<|.ln rfl av<|.ar rfl rfl (dD (by omega))<|.E1 rfl rfl dz rfl (by omega) (by omega) rfl<|.aq rfl<|.nil) rfl (.sq ?_)
 refine .al (.mv rfl<|.ln rfl av<|.mv rfl<|.nil) rfl ?_
 refine .block (.loop (ι:={p:List Nat×Nat//p.1.length=a.length+b.length/\cP p.1/\p.2<=a.length/\val (p.1.take (p.2+b.length))=val (a.take p.2)*val b})
  (fun p=>[(0,dr a),(1,dr b),(16,.own 16),(5,.own 16),(17,dr a),(18,.int .i64 a.length),(19,.int .i64 p.1.2)]) (fun p=>[(16,.row 1 230 (bJ p.1.1) (aL _))])
  (fun p=>a.length-p.1.2) ⟨(List.replicate (a.length+b.length) 0,0),by simp,gR _,Nat.zero_le _,by
   simp only[Nat.zero_add,List.take_zero,val,Nat.zero_mul,List.take_replicate];exact mX _⟩
  (dh rfl) ⟨⟨_,rfl,.of_eq (dG (lE _))⟩,trivial⟩ rfl rfl ?_)
 rintro⟨⟨zs,i⟩,hzl,hzs,hi,hv⟩
 simp only at hzl hzs hi hv
 show Ok PP _ [(0,dr a),(1,dr b),(16,.own 16),(5,.own 16),(17,dr a),(18,.int .i64 a.length),(19,.int .i64 i)] [(16,.row 1 230 (bJ zs) (aL _))] _ _
 by_cases hlt:i<a.length
 ·refine .al (.cm rfl rfl (b:=true) (by simp[dq,hlt])<|.nil) rfl (.sq ?_)
  refine .cT rfl (.skip (Ok.on (.sq (.block ?_))))
  have hxi:a[i]?=some (a.getD i 0):=by simp[hlt]
  have hdl:=bV hlx i
  have hst:=dA a i
  generalize a.getD i 0=d at hxi hdl hst
  refine .al (.mv rfl<|.oX rfl rfl ay (by omega) (by omega) (bp hxi)<|.gC rfl aN<|.aq rfl<|.aq rfl<|.nil) rfl ?_
  refine .al (.aq rfl<|.nil) rfl (.sq ?_)
  refine .al (.mv rfl<|.ln rfl av<|.mv rfl<|.nil) rfl ?_
  refine .block (.loop (ι:={p:List Nat×Nat×Nat//p.1.length=a.length+b.length/\cP p.1/\p.2.1<4294967296/\p.2.2<=b.length/\(∀j,i+p.2.2<=j->p.1.getD j 0=zs.getD j 0)/\
    val (p.1.take (i+p.2.2))+4294967296^i*4294967296^p.2.2*p.2.1=val (zs.take (i+p.2.2))+4294967296^i*d*val (b.take p.2.2)})
   (fun p=>[(0,dr a),(1,dr b),(16,.own 16),(5,.own 16),(17,dr a),(18,.int .i64 a.length),(19,.int .i64 i),(6,.int .i64 i),(7,.int .u32 d),(8,.int .u64 p.1.2.1),(24,dr b),(25,.int .i64 b.length),(26,.int .i64 p.1.2.2)]) (fun p=>[(16,.row 1 230 (bJ p.1.1) (aL _))])
   (fun p=>b.length-p.1.2.2) ⟨(zs,0,0),hzl,hzs,by simp,Nat.zero_le _,fun _ _=>rfl,by simp[val]⟩
   (dh rfl) (iX rfl) rfl rfl ?_)
  rintro⟨⟨us,c,k⟩,hul,hus,hc,hk,hsame,hu⟩
  simp only at hul hus hc hk hsame hu
  show Ok PP _ [(0,dr a),(1,dr b),(16,.own 16),(5,.own 16),(17,dr a),(18,.int .i64 a.length),(19,.int .i64 i),(6,.int .i64 i),(7,.int .u32 d),(8,.int .u64 c),(24,dr b),(25,.int .i64 b.length),(26,.int .i64 k)] [(16,.row 1 230 (bJ us) (aL _))] _ _
  by_cases hkl:k<b.length
  ·refine .al (.cm rfl rfl (b:=true) (by simp[dq,hkl])<|.nil) rfl (.sq ?_)
   refine .cT rfl (.skip (Ok.on (.sq (.block ?_))))
   have hyk:b[k]?=some (b.getD k 0):=by simp[hkl]
   have hel:=bV hly k
   have hst':=dA b k
   have hst2:=dA zs (i+k)
   have hok:us[i+k]?=some (zs.getD (i+k) 0):=by
    rw[←hsame (i+k) (Nat.le_refl _)];simp[show i+k<us.length by omega]
   have hol:=bV hzs (i+k)
   generalize b.getD k 0=e at hyk hel hst'
   generalize zs.getD (i+k) 0=o at hok hol hst2
   obtain⟨hm1,hm2⟩:=yZ hdl hel hc hol
   refine .al (.mv rfl<|.oX rfl rfl ay (by omega) (by omega) (bp hyk)<|.gC rfl aN<|.aq rfl<|.aq rfl<|.nil) rfl ?_
   refine .al (.mv rfl<|.mv rfl<|.cv rfl bq (bP (by omega))<|.mv rfl<|.cv rfl bq (bP (by omega))<|.ar rfl rfl (qM (by omega))<|.mv rfl<|.mv rfl<|.mv rfl<|.ar rfl rfl (dD (by omega))<|
    .o0 (n:=a.length+b.length) (m':=1) rfl rfl rfl ay (by rw[bG,hul];omega) rfl rfl (by omega) (by omega)<|.wI rfl rfl aN (d:=.int .u32 o) (by rw[Int.toNat_natCast,Nat.mul_one];exact bp hok)<|.cv rfl bq (bP (by omega))<|
    .ar rfl rfl (qN hm1)<|.ar rfl rfl (qN hm2)<|.aq rfl<|.nil) rfl ?_
   refine .al (.mv rfl<|.mv rfl<|.mv rfl<|.ar rfl rfl (dD (by omega))<|.mv rfl<|.cv rfl dW (i3 _)<|.o0 (n:=a.length+b.length) (m':=1) rfl rfl rfl ay (by rw[bG,hul];omega) rfl rfl (by omega) (by omega)<|
    .xQ rfl rfl rfl aN rfl rfl (by simp[bG,hul];try omega)<|.nil) rfl ?_
   refine .region (.mv rfl<|.sh rfl rfl (uS (by decide))<|.aq rfl<|.nil) rfl fun _ _ hs=>?_
   refine Ok.on ?_ _ _ hs
   refine .region (.ar rfl rfl (fo (by omega))<|.mv rfl<|.nil) rfl fun _ _ hs=>?_
   refine hs.round (m:=b.length-k) ⟨(us.set (i+k) ((c+(d*e+o))%4294967296),(c+(d*e+o))/4294967296,k+1),by simpa using hul,iu hus (Nat.mod_lt _ (by omega)) _,by simp only;omega,hkl,?_,?_⟩ (by simp only;omega)
    (dh rfl) ⟨⟨_,rfl,.of_eq (dG (eM ..))⟩,trivial⟩ rfl rfl
   ·intro j hj
    simp only at hj|-
    rw[←hsame j (by omega),List.getD_eq_getElem?_getD,List.getD_eq_getElem?_getD,List.getElem?_set_ne (by omega)]
   ·simp only
    rw[←Nat.add_assoc,fy (by omega),hst2,hst',Nat.pow_succ,Nat.pow_add,←Nat.mul_assoc (4294967296^i)]
    exact B3 hu
  ·have hkb:k=b.length:=by omega
   subst hkb
   refine .al (.cm rfl rfl (b:=false) (by simp[dq])<|.nil) rfl (.sq ?_)
   refine .cF rfl (.exit (Ok.on ?_))
   refine .region (.mv rfl<|.mv rfl<|.mv rfl<|.ln rfl av<|.ar rfl rfl (dD (by omega))<|.mv rfl<|.cv rfl dW (fJ hc)<|.o0 (n:=a.length+b.length) (m':=1) rfl rfl rfl ay (by rw[bG,hul];omega) rfl rfl (by omega) (by omega)<|
    .xQ rfl rfl rfl aN rfl rfl (by simp[bG,hul];try omega)<|.nil) rfl fun _ _ hs=>?_
   refine Ok.on ?_ _ _ hs
   refine .region (.ar rfl rfl (fo (by omega))<|.mv rfl<|.nil) rfl fun _ _ hs=>?_
   refine hs.round (m:=a.length-i) ⟨(us.set (i+b.length) c,i+1),by simpa using hul,iu hus hc _,hlt,?_⟩ (by simp only;omega)
    (dh rfl) ⟨⟨_,rfl,.of_eq (dG (eM ..))⟩,trivial⟩ rfl rfl
   simp only
   rw[show i+1+b.length=i+b.length+1 by omega,fy (by omega),Nat.pow_add,hu,hv,hst,List.take_length,Nat.add_mul]
 ·have:i=a.length:=by omega
  subst this
  refine .al (.cm rfl rfl (b:=false) (by simp[dq])<|.nil) rfl (.sq ?_)
  refine .cF rfl (.exit (Ok.on ?_))
  rw[List.take_length,List.take_of_length_le (by omega),hvx,hvy]at hv
  refine .rT (n:=a.length+b.length) (m':=1) 5 rfl rfl (by simp[bG,hzl]) rfl rfl ?_
  refine .sub [(5,dr zs)] [] ⟨⟨_,rfl,.of_eq (mg hzl.symm rfl)⟩,trivial⟩ trivial rfl rfl ?_
  refine .al (.mv rfl<|.call (lF _ hzs (by omega)) ⟨rfl,trivial⟩<|.aq rfl<|.nil) rfl ?_
  exact .pq rfl (.tmp rfl) (.of_eq (by rw[hv])) rfl
end Go.Am
namespace Go.Am
open Go.RowKit
theorem Db{n k:Nat}(hk:k<=64)(h:n*2^k<18446744073709551616):y7 .shl .u64 (n:Int) (k:Int)=some ((n*2^k:Nat):Int):=by
 unfold y7
 rw[if_neg (by omega)]
 have:min (k:Int).toNat IntKind.u64.bits=k:=by rw[Int.toNat_natCast,show IntKind.u64.bits=64 by decide];omega
 simp only[this]
 rw[show(n:Int)*2^k=((n*2^k:Nat):Int)by rw[Int.natCast_mul,Int.natCast_pow];rfl,bP h]
theorem zV{n d k:Nat}(hn:n<2^k)(h:n+d*2^k<18446744073709551616):nM .or .u64 (n:Int) ((d*2^k:Nat):Int)=some ((n+d*2^k:Nat):Int):=by
 show some (bits .or .u64 _ _)=_
 rw[bits_or_u64_nat _ _ (by omega) (by omega)]
 have:=Nat.two_pow_add_eq_or_of_lt hn d
 rw[Nat.or_comm,Nat.mul_comm d,←this,Nat.add_comm]
theorem Cw(x:Nat)(hx:(aD x).length<=2):kC PP 185 [aj x] (.int .u64 x):=by
 show kC PP _ [dr (aD x)] _
 have hvx:=dE x
 have hlx:=cG x
 generalize aD x=a at*
 refine .of Go.Proofs.Tryz.func185 rfl (by kernel_rfl) rfl rfl rfl (fun A w0=>?_)
 refine .al (.aq rfl<|.nil) rfl ?_
 refine .al (.aq rfl<|.nil) rfl (.sq ?_)
 refine .al (.mv rfl<|.ln rfl av<|.mv rfl<|.nil) rfl ?_
 refine .block (.loop (ι:={i:Nat//i<=a.length}) (fun i=>[(3,.int .u64 (val (a.take i.1):Nat)),(6,dr a),(7,.int .i64 a.length),(8,.int .i64 i.1)]) (fun _=>[]) (fun i=>a.length-i.1)
  ⟨0,Nat.zero_le _⟩ (dh rfl) trivial rfl rfl ?_)
 rintro⟨i,hi⟩
 show Ok PP _ [(3,.int .u64 (val (a.take i):Nat)),(6,dr a),(7,.int .i64 a.length),(8,.int .i64 i)] [] _ _
 by_cases hlt:i<a.length
 ·refine .al (.cm rfl rfl (b:=true) (by simp[dq,hlt])<|.nil) rfl (.sq ?_)
  refine .cT rfl (.skip (Ok.on (.sq (.block ?_))))
  have hxi:a[i]?=some (a.getD i 0):=by simp[hlt]
  have hel:=bV hlx i
  have hst:=dA a i
  have htl:=eN hlx i
  generalize a.getD i 0=e at hxi hel hst
  have hi1:i=0\/i=1:=by omega
  have hp:(4294967296:Nat)^i=2^(32*i):=by rw[Nat.pow_mul]
  rw[hp]at htl hst
  have hb2:val (a.take i)+e*2^(32*i)<18446744073709551616:=by
   rcases hi1 with h|h<;>subst h<;>simp at htl|-<;>omega
  refine .al (.mv rfl<|.oX rfl rfl ay (by omega) (by omega) (bp hxi)<|.gC rfl aN<|.aq rfl<|.aq rfl<|.nil) rfl ?_
  refine .region (.mv rfl<|.mv rfl<|.cv rfl bq (bP (by omega))<|.mv rfl<|.ar rfl rfl (r:=((32*i:Nat):Int)) (congrArg some (gg (by omega) (by omega)))<|.sh rfl rfl (Db (n:=e) (k:=32*i) (by omega) (by omega))<|
   .ar rfl rfl (zV htl hb2)<|.aq rfl<|.nil) rfl fun _ _ hs=>?_
  refine Ok.on ?_ _ _ hs
  refine .region (.ar rfl rfl (fo (by omega))<|.mv rfl<|.nil) rfl fun _ _ hs=>?_
  exact hs.round (m:=a.length-i) ⟨i+1,hlt⟩ (by simp only;omega) ⟨⟨_,rfl,int_eq (by rw[hst,Nat.mul_comm])⟩,⟨_,rfl,.refl _⟩,⟨_,rfl,.refl _⟩,⟨_,rfl,.refl _⟩,trivial⟩ trivial rfl rfl
 ·have:i=a.length:=by omega
  subst this
  refine .al (.cm rfl rfl (b:=false) (by simp[dq])<|.nil) rfl (.sq ?_)
  refine .cF rfl (.exit (Ok.on ?_))
  refine .al (.mv rfl<|.aq rfl<|.nil) rfl ?_
  exact .pq rfl (.tmp rfl) (int_eq (by rw[List.take_length,hvx])) rfl
theorem sM{x n d:Nat}(h:(aD x).length=n+1)(hd:(aD x)[n]?=some d):32*n+bA d=bA x:=by
 have hv:=dS hd
 rw[←h,List.take_length,dE]at hv
 have hx0:x≠0:=by intro e;subst e;rw[cN]at h;simp at h
 have hle:=qv hx0
 rw[h,Nat.add_sub_cancel]at hle
 have hp:(4294967296:Nat)^n=2^(32*n):=by rw[Nat.pow_mul]
 have hlt:=eN (cG x) n
 have hq:x/4294967296^n=d:=by
  rw[hv,Nat.add_mul_div_left _ _ (Nat.pow_pos (by omega)),Nat.div_eq_of_lt hlt,Nat.zero_add]
 rw[hp]at hle hq
 have:=n7 _ hle
 rw[hq]at this
 omega
theorem EI(x:Nat)(hx:(aD x).length<=1099511627776):kC PP 186 [aj x] (.int .i64 (bA x:Nat)):=by
 show kC PP _ [dr (aD x)] _
 refine .of Go.Proofs.Tryz.func186 rfl (by kernel_rfl) rfl rfl rfl (fun A w0=>?_)
 refine .al (.aq rfl<|.nil) rfl (.sq ?_)
 by_cases h0:x=0
 ·subst h0
  refine .al (.mv rfl<|.ln rfl av<|.cm rfl rfl (b:=true) (by simp[dq,cN])<|.nil) rfl ?_
  refine .cT rfl (.al (.aq rfl<|.nil) rfl ?_)
  exact .pH (fun _ _ h=>h) rfl (.tmp rfl) (int_eq (by rfl)) rfl
 ·have hl:=cD h0
  obtain⟨n,hn⟩:∃n,(aD x).length=n+1:=⟨_,(Nat.succ_pred (by omega)).symm⟩
  have hxi:(aD x)[n]?=some ((aD x).getD n 0):=by simp[hn]
  have hel:=bV (cG x) n
  have hbl:∀d,(aD x)[n]?=some d->32*n+bA d=bA x:=fun d hd=>sM hn hd
  generalize (aD x).getD n 0=e at hxi hel
  have he:=hbl e hxi
  refine .al (.mv rfl<|.ln rfl av<|.cm rfl rfl (Fm (by omega))<|.nil) rfl ?_
  refine .cF rfl (.skip (Ok.on ?_))
  have hb:=dI (x:=e) (n:=32) (by omega)
  have hd1:IntKind.i64.wrap (((aD x).length:Int)-1)=(n:Int):=gg (by omega) (by omega)
  have hd2:IntKind.i64.wrap (32*(n:Int))=((32*n:Nat):Int):=gg (by omega) (by omega)
  refine .al (.mv rfl<|.ln rfl av<|.ar rfl rfl (congrArg some hd1)<|.ar rfl rfl (congrArg some hd2)<|.mv rfl<|.mv rfl<|.ln rfl av<|.ar rfl rfl (congrArg some hd1)<|
   .oX rfl rfl ay (by omega) (by omega) (bp hxi)<|.gC rfl aN<|.call (ye e hel) ⟨rfl,trivial⟩<|.ar rfl rfl (dD (by omega))<|.aq rfl<|.nil) rfl ?_
  exact .pq rfl (.tmp rfl) (int_eq (by rw[he])) rfl
theorem vN(a:List Nat)(ha:a.length<=1099511627776):zi PP 252 [dr a] 1 230 (bJ a):=by
 refine .of (hl:=aL a) Go.Proofs.Tryz.func252 rfl (by kernel_rfl) rfl rfl (fun A w0=>?_)
 refine .al (.aq rfl<|.nil) rfl (.sq ?_)
 refine .al (.mv rfl<|.Gm av rfl rfl<|.nil) rfl ?_
 refine .cQ rfl (fun h=>?_) (.skip (Ok.on ?_))
 ·have ha0:a=[]:=List.eq_nil_of_length_eq_zero h
  subst ha0
  refine .al (.aq rfl<|.nil) rfl ?_
  refine .uu 2 2 1 230 rfl rfl ?_
  exact .yQ (fun _ _ h=>h) rfl rfl rfl
 ·refine .al (.F2 dz rfl<|.mv rfl<|.F6 (n1:=0) rfl rfl rfl dz rfl (by omega) (by omega) rfl<|.aq rfl<|.nil) rfl ?_
  exact .yQ (fun _ _ h=>h) rfl rfl rfl
end Go.Am
namespace Go.Am
open Go.RowKit
theorem jY{k:Nat}(hk:k<=32):4294967296=2^k*2^(32-k):=by rw[←Nat.pow_add,show k+(32-k)=32 by omega]
theorem yC{n k:Nat}(hk:k<=32):y7 .shl .u32 (n:Int) (k:Int)=some ((n*2^k%4294967296:Nat):Int):=by
 unfold y7
 rw[if_neg (by omega)]
 have:min (k:Int).toNat IntKind.u32.bits=k:=by rw[Int.toNat_natCast,show IntKind.u32.bits=32 by decide];omega
 simp only[this]
 rw[show(n:Int)*2^k=((n*2^k:Nat):Int)by rw[Int.natCast_mul,Int.natCast_pow];rfl,i3]
theorem x6{e k:Nat}(hk:k<=32):e*2^(32-k)%4294967296=(e%2^k)*2^(32-k):=by
 conv=>lhs;rhs;rw[jY hk]
 rw[Nat.mul_mod_mul_right]
theorem Et{n d k:Nat}(hn:n<2^k)(h:n+d*2^k<4294967296):nM .or .u32 (n:Int) ((d*2^k:Nat):Int)=some ((n+d*2^k:Nat):Int):=by
 show some (bits .or .u32 _ _)=_
 rw[(jn _ _ (by omega) (by omega)).2.1]
 have:=Nat.two_pow_add_eq_or_of_lt hn d
 rw[Nat.or_comm,Nat.mul_comm d,←this,Nat.add_comm]
theorem CG{n d k:Nat}(hn:n<2^k)(h:n+d*2^k<4294967296):nM .or .u32 ((d*2^k:Nat):Int) (n:Int)=some ((n+d*2^k:Nat):Int):=by
 show some (bits .or .u32 _ _)=_
 rw[(jn _ _ (by omega) (by omega)).2.1]
 have:=Nat.two_pow_add_eq_or_of_lt hn d
 rw[Nat.mul_comm d,←this,Nat.add_comm]
theorem sJ{d e k:Nat}(hk:k<=32)(hd:d<4294967296):d/2^k<2^(32-k)/\d/2^k+(e%2^k)*2^(32-k)<4294967296:=by
 have hp:=Nat.two_pow_pos k
 have hs:=jY hk
 have h1:d/2^k<2^(32-k):=by
  rw[Nat.div_lt_iff_lt_mul hp,Nat.mul_comm,←hs];exact hd
 have h2:=Nat.mod_lt e hp
 refine⟨h1,?_⟩
 have:(e%2^k+1)*2^(32-k)<=2^k*2^(32-k):=Nat.mul_le_mul_right _ h2
 rw[←hs,Nat.add_mul,Nat.one_mul]at this
 omega
theorem A_{d R k:Nat}(hk:k<=32):(d+4294967296*R)/2^k=d/2^k+(R%2^k)*2^(32-k)+4294967296*(R/2^k):=by
 have hp:=Nat.two_pow_pos k
 have hs:=jY hk
 have h1:(d+4294967296*R)/2^k=d/2^k+2^(32-k)*R:=by
  conv=>lhs;rw[hs]
  rw[Nat.mul_assoc,Nat.add_mul_div_left _ _ hp]
 have h2:=Nat.div_add_mod R (2^k)
 rw[h1]
 conv=>lhs;rw[←h2]
 rw[Nat.mul_add,←Nat.mul_assoc,Nat.mul_comm (2^(32-k)) (2^k),←hs,Nat.mul_comm (2^(32-k))]
 omega
theorem Cu{e R k:Nat}(hk:k<=32):(e+4294967296*R)%2^k=e%2^k:=by
 rw[jY hk,Nat.mul_assoc,Nat.add_mul_mod_self_left]
theorem Ba{x i:Nat}(h:i<=(aD x).length):val ((aD x).drop i)=x/4294967296^i:=by
 have hs:=eJ (aD x) i h
 rw[dE]at hs
 have hlt:=eN (cG x) i
 conv=>rhs;rw[hs]
 rw[Nat.add_mul_div_left _ _ (Nat.pow_pos (by omega)),Nat.div_eq_of_lt hlt,Nat.zero_add]
theorem Dd(l:List Nat)(i:Nat)(h:bK (((bJ l).drop ((i:Int).toNat*1)).take ((l.length-(i:Int).toNat)*1))=[]):D.iS (l.length-(i:Int).toNat) 1 (((bJ l).drop ((i:Int).toNat*1)).take ((l.length-(i:Int).toNat)*1)) h=dr (l.drop i):=by
 refine mg ?_ ?_
 ·rw[Int.toNat_natCast,List.length_drop]
 ·rw[Int.toNat_natCast,Nat.mul_one,Nat.mul_one,zm]
  exact List.take_of_length_le (by rw[bG,List.length_drop];exact Nat.le_refl _)
theorem DU(x k:Nat)(hx:(aD x).length<=1099511627776)(hk:k<9223372036854775808):kC PP 229 [aj x,.int .i64 k] (aj (x/2^k)):=by
 show kC PP _ [dr (aD x),.int .i64 k] _
 refine .of Go.Proofs.Tryz.func229 rfl (by kernel_rfl) rfl rfl rfl (fun A w0=>?_)
 have hkq:(2:Nat)^k=4294967296^(k/32)*2^(k%32):=by
  rw[show(4294967296:Nat)=2^32 by rfl,←Nat.pow_mul,←Nat.pow_add,Nat.div_add_mod]
 refine .al (.aq rfl<|.nil) rfl (.sq ?_)
 by_cases hge:(aD x).length<=k/32
 ·refine .al (.mv rfl<|.ar rfl rfl (ud (n:=k) (d:=32) (by omega) hk)<|.mv rfl<|.ln rfl av<|.cm rfl rfl (D6 (by omega))<|.nil) rfl ?_
  refine .cT rfl (.al (.aq rfl<|.nil) rfl ?_)
  have hz:x/2^k=0:=by
   apply Nat.div_eq_of_lt
   have h1:=kt (x:=x)
   have h2:4294967296^(aD x).length<=4294967296^(k/32):=Nat.pow_le_pow_right (by omega) hge
   have h3:4294967296^(k/32)*1<=4294967296^(k/32)*2^(k%32):=Nat.mul_le_mul_left _ (Nat.two_pow_pos _)
   rw[hkq];omega
  rw[hz]
  exact .pH (fun _ _ h=>h) rfl (.tmp rfl) aU rfl
 ·refine .al (.mv rfl<|.ar rfl rfl (ud (n:=k) (d:=32) (by omega) hk)<|.mv rfl<|.ln rfl av<|.cm rfl rfl (Cf (by omega))<|.nil) rfl ?_
  refine .cF rfl (.skip (Ok.on ?_))
  have hval:=Ba (x:=x) (i:=k/32) (by omega)
  have hres:x/2^k=(x/4294967296^(k/32))/2^(k%32):=by rw[hkq,Nat.div_div_eq_div_mul]
  rw[hres,←hval]
  have hla:cP ((aD x).drop (k/32)):=i4 (cG x) _
  have hll:((aD x).drop (k/32)).length=(aD x).length-k/32:=by simp
  have hslc:=Dd (aD x) (k/32)
  generalize (aD x).drop (k/32)=a at*
  have hr:k%32<32:=Nat.mod_lt _ (by omega)
  refine .al (.mv rfl<|.mv rfl<|.ar rfl rfl (ud (n:=k) (d:=32) (by omega) hk)<|.G0 rfl rfl ay (by omega) (by omega)<|.yx (hl:=aL a) (vN a (by omega)) ⟨congrArg some (hslc _),trivial⟩ rfl<|.aq rfl<|.nil) rfl ?_
  refine .rS (ι:={zs:List Nat//zs.length=a.length/\cP zs/\val zs=val a/2^(k%32)}) (fun zs=>[(5,.own 17)]) (fun zs=>[(17,.row 1 230 (bJ zs.1) (aL _))]) ?_ ?_
  ·refine .al (.mv rfl<|.ar rfl rfl (tO (n:=k) (d:=32) (by omega))<|.aq rfl<|.nil) rfl ?_
   generalize k%32=r at*
   refine .sub [(5,.own 17),(6,.int .i64 r)] [(17,.row 1 230 (bJ a) (aL a))] (dh rfl) (iX rfl) rfl rfl ?_
   by_cases hr0:r=0
   ·subst hr0
    refine .al (.mv rfl<|.cm rfl rfl (EY (by omega))<|.nil) rfl ?_
    exact .cF rfl (.skip fun _ _ hs=>hs.to ⟨a,rfl,hla,by simp⟩ (dh rfl) (iX rfl) rfl rfl)
   refine .al (.mv rfl<|.cm rfl rfl (Ev (by omega))<|.nil) rfl ?_
   refine .cT rfl ?_
   refine .al (.mv rfl<|.Fh (n:=a.length) (m':=1) rfl rfl av (by simp[bG]) rfl rfl<|.mv rfl<|.nil) rfl ?_
   refine .block (.loop (ι:={p:List Nat×Nat//p.1.length=a.length/\cP p.1/\p.2<=a.length/\(∀j,p.2<=j->p.1.getD j 0=a.getD j 0)/\val (p.1.take p.2)+4294967296^p.2*(val (a.drop p.2)/2^r)=val a/2^r})
    (fun p=>[(5,.own 17),(6,.int .i64 r),(23,.int .i64 a.length),(24,.int .i64 p.1.2)]) (fun p=>[(17,.row 1 230 (bJ p.1.1) (aL _))]) (fun p=>a.length-p.1.2)
    ⟨(a,0),rfl,hla,Nat.zero_le _,fun _ _=>rfl,by simp[val]⟩ (dh rfl) (iX rfl) rfl rfl ?_)
   rintro⟨⟨zs,i⟩,hzl,hzs,hi,hsame,hv⟩
   simp only at hzl hzs hi hsame hv
   show Ok PP _ [(5,.own 17),(6,.int .i64 r),(23,.int .i64 a.length),(24,.int .i64 i)] [(17,.row 1 230 (bJ zs) (aL _))] _ _
   by_cases hlt:i<a.length
   ·refine .al (.cm rfl rfl (xw (by omega))<|.nil) rfl (.sq ?_)
    refine .cT rfl (.skip (Ok.on ?_))
    have hzi:zs[i]?=some (a.getD i 0):=by rw[←hsame i (Nat.le_refl _)];simp[show i<zs.length by omega]
    have hdl:=bV hla i
    have hdr:=fz a i
    have hdr2:=fz a (i+1)
    have hel:=bV hla (i+1)
    generalize a.getD i 0=d at hzi hdl hdr
    have hpd:d/2^r<4294967296:=Nat.lt_of_le_of_lt (Nat.div_le_self _ _) hdl
    refine .cut [(5,.own 17),(6,.int .i64 r),(23,.int .i64 a.length),(24,.int .i64 i)] [(17,.row 1 230 (bJ (zs.set i (d/2^r+(a.getD (i+1) 0%2^r)*2^(32-r)))) (aL _))] ?_ ?_
    ·refine .block ?_
     refine .al (.mv rfl<|.aq rfl<|.nil) rfl ?_
     refine .al (.mv rfl<|.mv rfl<|.o0 (n:=a.length) (m':=1) rfl rfl rfl ay (by rw[bG,hzl];omega) rfl rfl (by omega) (by omega)<|.wI rfl rfl aN (d:=.int .u32 d) (by rw[Int.toNat_natCast,Nat.mul_one];exact bp hzi)<|.mv rfl<|.sh rfl rfl (qL (k:=r) (by omega))<|
      .o0 (n:=a.length) (m':=1) rfl rfl rfl ay (by rw[bG,hzl];omega) rfl rfl (by omega) (by omega)<|.xQ rfl rfl rfl aN rfl rfl (by simp[bG,hzl];try omega)<|.nil) rfl ?_
     refine .sub [(5,.own 17),(6,.int .i64 r),(7,.int .i64 i),(23,.int .i64 a.length),(24,.int .i64 i)] [(17,.row 1 230 (bJ (zs.set i (d/2^r))) (aL _))] (dh rfl) ⟨⟨_,rfl,.of_eq (dG (eM ..))⟩,trivial⟩ rfl rfl ?_
     have hsd:=sJ (e:=a.getD (i+1) 0) (show r<=32 by omega) hdl
     by_cases hn:i+1<a.length
     ·have hze:(zs.set i (d/2^r))[i+1]?=some (a.getD (i+1) 0):=by
       rw[List.getElem?_set_ne (by omega),←hsame (i+1) (by omega)];simp[show i+1<zs.length by omega]
      have hzd:(zs.set i (d/2^r))[i]?=some (d/2^r):=by simp[show i<zs.length by omega]
      have hl2:(bJ (zs.set i (d/2^r))).length=a.length*1:=by rw[bG,List.length_set,hzl];omega
      generalize a.getD (i+1) 0=e at hze hel hsd
      refine .al (.mv rfl<|.ar rfl rfl (fo (by omega))<|.mv rfl<|.Fh (n:=a.length) (m':=1) rfl rfl av hl2 rfl rfl<|.cm rfl rfl (xw (by omega))<|.nil) rfl ?_
      refine .cT rfl ?_
      refine .c_ cg (.mv rfl<|.mv rfl<|.o0 (n:=a.length) (m':=1) rfl rfl rfl ay hl2 rfl rfl (by omega) (by omega)<|.wI rfl rfl aN (d:=.int .u32 (d/2^r:Nat)) (by rw[Int.toNat_natCast,Nat.mul_one];exact bp hzd)<|
       .mv rfl<|.mv rfl<|.ar rfl rfl (fo (by omega))<|.o0 (n:=a.length) (m':=1) rfl rfl rfl ay hl2 rfl rfl (by omega) (by omega)<|.wI rfl rfl aN (d:=.int .u32 (e:Nat)) (by rw[Int.toNat_natCast,Nat.mul_one];exact bp hze)<|
       .mv rfl<|.ar rfl rfl (r:=((32-r:Nat):Int)) (congrArg some (gg (by omega) (by omega)))<|.sh rfl rfl (yC (n:=e) (k:=32-r) (by omega))<|.ar rfl rfl (r:=((d/2^r+(e%2^r)*2^(32-r):Nat):Int)) (by rw[x6 (by omega)];exact Et hsd.1 hsd.2)<|
       .o0 (n:=a.length) (m':=1) rfl rfl rfl ay hl2 rfl rfl (by omega) (by omega)<|.xQ rfl rfl rfl aN rfl rfl (by rw[hl2];omega)<|.nil) rfl (by kernel_rfl) fun _ _ hs=>?_
      exact hs.sub (dh rfl) ⟨⟨_,rfl,.of_eq (dG (by rw[eM,List.set_set]))⟩,trivial⟩ rfl rfl
     ·have he0:a.getD (i+1) 0=0:=by simp[List.getElem?_eq_none (show a.length<=i+1 by omega)]
      rw[he0,Nat.zero_mod,Nat.zero_mul,Nat.add_zero]
      have hl2:(bJ (zs.set i (d/2^r))).length=a.length*1:=by rw[bG,List.length_set,hzl];omega
      refine .al (.mv rfl<|.ar rfl rfl (fo (by omega))<|.mv rfl<|.Fh (n:=a.length) (m':=1) rfl rfl av hl2 rfl rfl<|.cm rfl rfl (w_ (by omega))<|.nil) rfl ?_
      exact .cF rfl (.skip fun _ _ hs=>hs.sub (dh rfl) (iX rfl) rfl rfl)
    ·have hsd:=sJ (e:=a.getD (i+1) 0) (show r<=32 by omega) hdl
     have hml:=Cu (e:=a.getD (i+1) 0) (R:=val (a.drop (i+1+1))) (show r<=32 by omega)
     rw[←hdr2]at hml
     refine .region (.ar rfl rfl (fo (by omega))<|.mv rfl<|.nil) rfl fun _ _ hs=>?_
     refine hs.round (m:=a.length-i) ⟨(zs.set i (d/2^r+(a.getD (i+1) 0%2^r)*2^(32-r)),i+1),by simpa using hzl,iu hzs hsd.2 i,hlt,?_,?_⟩ (by simp only;omega) (dh rfl) (iX rfl) rfl rfl
     ·intro j hj
      simp only at hj|-
      rw[←hsame j (by omega)]
      simp[List.getElem?_set_ne (show i≠j by omega)]
     ·simp only
      rw[fy (by omega),←hv,hdr,A_ (by omega),hml,Nat.pow_succ]
      generalize d/2^r+a.getD (i+1) 0%2^r*2^(32-r)=X
      rw[Nat.mul_add,Nat.mul_assoc,Nat.add_assoc]
   ·have:i=a.length:=by omega
    subst this
    refine .al (.cm rfl rfl (w_ (by omega))<|.nil) rfl (.sq ?_)
    refine .cF rfl (.exit fun _ _ hs=>?_)
    refine hs.to ⟨zs,hzl,hzs,?_⟩ (dh rfl) (iX rfl) rfl rfl
    rw[List.take_of_length_le (by omega),List.drop_length]at hv
    simpa [val]using hv
  ·rintro⟨zs,hzl,hzs,hv⟩
   show Ok PP _ [(5,.own 17)] [(17,.row 1 230 (bJ zs) (aL _))] _ _
   refine .rT (n:=a.length) (m':=1) 5 rfl rfl (by simp[bG,hzl]) rfl rfl ?_
   refine .sub [(5,dr zs)] [] ⟨⟨_,rfl,.of_eq (mg hzl.symm rfl)⟩,trivial⟩ trivial rfl rfl ?_
   refine .al (.mv rfl<|.call (lF _ hzs (by omega)) ⟨rfl,trivial⟩<|.aq rfl<|.nil) rfl ?_
   exact .pq rfl (.tmp rfl) (.of_eq (by rw[hv])) rfl
end Go.Am
namespace Go.Am
open Go.RowKit
theorem DA{d r:Nat}(hr:r<=32):d*2^r%4294967296=(d%2^(32-r))*2^r:=by
 have:=x6 (e:=d) (k:=32-r) (by omega)
 rwa [show 32-(32-r)=r by omega]at this
theorem zu{d c r:Nat}(hr:r<=32)(hd:d<4294967296)(hc:c<2^r):c+(d%2^(32-r))*2^r<4294967296/\d/2^(32-r)<2^r/\(d%2^(32-r))*2^r+4294967296*(d/2^(32-r))=2^r*d:=by
 have hs:=jY hr
 have hp:=Nat.two_pow_pos (32-r)
 have hm:=Nat.mod_lt d hp
 have h1:(d%2^(32-r)+1)*2^r<=2^(32-r)*2^r:=Nat.mul_le_mul_right _ hm
 rw[Nat.mul_comm (2^(32-r)),←hs,Nat.add_mul,Nat.one_mul]at h1
 refine⟨by omega,?_,?_⟩
 ·rw[Nat.div_lt_iff_lt_mul hp,←hs];exact hd
 ·have h2:=Nat.div_add_mod d (2^(32-r))
  conv=>rhs;rw[←h2]
  rw[Nat.mul_add,←Nat.mul_assoc,←hs,Nat.mul_comm (2^r) (d%2^(32-r)),Nat.add_comm]
theorem Az{p v c n d e t o:Nat}(h:v+p*c=t*o)(hd:d+4294967296*e=t*n):v+p*(c+d)+p*4294967296*e=t*(o+p*n):=by
 have h2:p*(d+4294967296*e)=p*(t*n):=by rw[hd]
 rw[Nat.mul_add,←Nat.mul_assoc]at h2
 rw[Nat.mul_add,Nat.mul_add,Nat.mul_left_comm t p n]
 omega
theorem zY{P R W t c v o:Nat}(hR:P=R*W)(hp:t<=W)(ho:o<R)(h:v+P*c=t*o):v=t*o:=by
 subst hR
 rcases Nat.eq_zero_or_pos c with h0|h0
 ·subst h0;simpa using h
 ·have h1:t*o<=W*o:=Nat.mul_le_mul_right _ hp
  have h2:R*W*1<=R*W*c:=Nat.mul_le_mul_left _ h0
  have h3:W*o<=W*R:=Nat.mul_le_mul_left _ (Nat.le_of_lt ho)
  rcases Nat.eq_zero_or_pos W with h4|h4
  ·subst h4
   have:t=0:=by omega
   subst this
   simp at h|-;omega
  ·have h5:W*o<W*R:=Nat.mul_lt_mul_of_pos_left ho h4
   rw[Nat.mul_comm R W]at h h2
   omega
theorem EV{r:Nat}(hr:r<=32):(2:Nat)^r<=4294967296:=by
 have:=jY hr
 rw[this]
 exact Nat.le_mul_of_pos_right _ (Nat.two_pow_pos _)
theorem Cn{n r c v o:Nat}(hr:r<=32)(ho:o<4294967296^n)(h:v+4294967296^(n+1)*c=2^r*o):v=2^r*o:=
 zY (Nat.pow_succ ..) (EV hr) ho h
def laid(q:Nat)(a:List Nat):List Nat:=List.replicate q 0++a++[0]
theorem AU(q:Nat)(a:List Nat):(laid q a).length=q+a.length+1:=by simp[laid];omega
theorem vq(q:Nat)(a:List Nat):val (laid q a)=4294967296^q*val a:=by
 rw[laid,j5,j5,mX];simp[val]
theorem zk(q:Nat){a:List Nat}(h:cP a):cP (laid q a):=jq (jq (gR q) h) (fun d hd=>by simp at hd;omega)
theorem yY(q:Nat)(a:List Nat):(List.replicate (q+a.length+1) (D.int .u32 0)).take ((q:Int).toNat*1)++bJ a++(List.replicate (q+a.length+1) (D.int .u32 0)).drop ((q:Int).toNat*1+a.length)=bJ (laid q a):=by
 rw[Int.toNat_natCast,Nat.mul_one,List.take_replicate,List.drop_replicate,Nat.min_eq_left (by omega),show q+a.length+1-(q+a.length)=1 by omega]
 simp[laid,bJ]
theorem A4(x k:Nat)(hx:(aD x).length<=1099511627776)(hk:k<35184372088832):kC PP 166 [aj x,.int .i64 k] (aj (x*2^k)):=by
 show kC PP _ [dr (aD x),.int .i64 k] _
 refine .of Go.Proofs.Tryz.func166 rfl (by kernel_rfl) rfl rfl rfl (fun A w0=>?_)
 have hkq:(2:Nat)^k=4294967296^(k/32)*2^(k%32):=by
  rw[show(4294967296:Nat)=2^32 by rfl,←Nat.pow_mul,←Nat.pow_add,Nat.div_add_mod]
 have hq:k/32<1099511627776:=by omega
 have hr:k%32<32:=Nat.mod_lt _ (by omega)
 have hqi:nM .quo .i64 (k:Int) 32=some ((k/32:Nat):Int):=ud (d:=32) (by omega) (by omega)
 have hri:nM .rem .i64 (k:Int) 32=some ((k%32:Nat):Int):=tO (d:=32) (by omega)
 have hvx:=dE x
 have hla:=cG x
 generalize aD x=a at*
 have hres:x*2^k=2^(k%32)*val (laid (k/32) a):=by
  rw[vq,hvx,hkq,Nat.mul_comm x,Nat.mul_assoc,Nat.mul_left_comm]
 rw[hres]
 generalize k/32=q at*
 generalize k%32=r at*
 have hlo:=zk q hla
 have hln:=AU q a
 have hcopy:=yY q a
 have hsmall:val (laid q a)<4294967296^(q+a.length):=by
  rw[vq,Nat.pow_add]
  exact Nat.mul_lt_mul_of_pos_left (nu hla) (Nat.pow_pos (by omega))
 have hstart:val ((laid q a).take q)=0:=by
  rw[laid,List.append_assoc,List.take_append_of_le_length (by simp),List.take_of_length_le (by simp)]
  exact mX q
 generalize laid q a=o at*
 refine .al (.aq rfl<|.nil) rfl ?_
 refine .al (.mv rfl<|.ar rfl rfl hqi<|.mv rfl<|.ln rfl av<|.ar rfl rfl (dD (by omega))<|.ar rfl rfl (fo (by omega))<|.E1 rfl rfl dz rfl (by omega) (by omega) rfl<|.aq rfl<|.nil) rfl ?_
 refine .al (.mv rfl<|.mv rfl<|.ar rfl rfl hqi<|.Hf (n:=q+a.length+1) (m':=1) rfl rfl rfl ay (by simp) rfl rfl (by omega) (by omega)<|.mv rfl<|.Ha rfl rfl rfl dz (by simp;try omega) (by simp;try omega)<|.nil) rfl ?_
 refine .sub [(1,.int .i64 k),(5,.own 15)] [(15,.row 1 230 (bJ o) (aL o))] (dh rfl) ⟨⟨_,rfl,.of_eq (dG hcopy)⟩,trivial⟩ rfl rfl ?_
 refine .rS (ι:={zs:List Nat//zs.length=q+a.length+1/\cP zs/\val zs=2^r*val o}) (fun zs=>[(5,.own 15)]) (fun zs=>[(15,.row 1 230 (bJ zs.1) (aL _))]) ?_ ?_
 ·refine .al (.mv rfl<|.ar rfl rfl hri<|.aq rfl<|.nil) rfl ?_
  by_cases hr0:r=0
  ·subst hr0
   refine .al (.mv rfl<|.cm rfl rfl (EY (by omega))<|.nil) rfl ?_
   exact .cF rfl (.skip fun _ _ hs=>hs.to ⟨o,hln,hlo,by simp⟩ (dh rfl) (iX rfl) rfl rfl)
  refine .al (.mv rfl<|.cm rfl rfl (Ev (by omega))<|.nil) rfl ?_
  refine .cT rfl ?_
  refine .al (.aq rfl<|.nil) rfl ?_
  refine .al (.mv rfl<|.ar rfl rfl hqi<|.aq rfl<|.nil) rfl ?_
  refine .block (.loop (ι:={p:List Nat×Nat×Nat//p.1.length=q+a.length+1/\cP p.1/\p.2.1<2^r/\p.2.2<=q+a.length+1/\(∀j,p.2.2<=j->p.1.getD j 0=o.getD j 0)/\val (p.1.take p.2.2)+4294967296^p.2.2*p.2.1=2^r*val (o.take p.2.2)})
   (fun p=>[(5,.own 15),(6,.int .i64 r),(7,.int .u32 p.1.2.1),(8,.int .i64 p.1.2.2)]) (fun p=>[(15,.row 1 230 (bJ p.1.1) (aL _))]) (fun p=>q+a.length+1-p.1.2.2)
   ⟨(o,0,q),hln,hlo,Nat.two_pow_pos r,by simp only;omega,fun _ _=>rfl,by simp[hstart]⟩ (dh rfl) (iX rfl) rfl rfl ?_)
  rintro⟨⟨zs,c,i⟩,hzl,hzs,hc,hi,hsame,hv⟩
  simp only at hzl hzs hc hi hsame hv
  show Ok PP _ [(5,.own 15),(6,.int .i64 r),(7,.int .u32 c),(8,.int .i64 i)] [(15,.row 1 230 (bJ zs) (aL _))] _ _
  have hl2:(bJ zs).length=(q+a.length+1)*1:=by rw[bG,hzl];omega
  refine .sq ?_
  by_cases hlt:i<q+a.length+1
  ·refine .al (.mv rfl<|.mv rfl<|.Fh (n:=q+a.length+1) (m':=1) rfl rfl av hl2 rfl rfl<|.cm rfl rfl (xw (by omega))<|.nil) rfl ?_
   refine .cT rfl (.skip (Ok.on (.sq (.block ?_))))
   have hzi:zs[i]?=some (o.getD i 0):=by rw[←hsame i (Nat.le_refl _)];simp[show i<zs.length by omega]
   have hdl:=bV hlo i
   have hst:=dA o i
   generalize o.getD i 0=d at hzi hdl hst
   obtain⟨h1,h2,h3⟩:=zu (r:=r) (by omega) hdl hc
   refine .c_ cg (.mv rfl<|.mv rfl<|.mv rfl<|.mv rfl<|.o0 (n:=q+a.length+1) (m':=1) rfl rfl rfl ay hl2 rfl rfl (by omega) (by omega)<|.wI rfl rfl aN (d:=.int .u32 d) (by rw[Int.toNat_natCast,Nat.mul_one];exact bp hzi)<|.mv rfl<|
    .ar rfl rfl (oL (n:=32) (d:=r) (by omega) (by omega))<|.sh rfl rfl (qL (n:=d) (k:=32-r) (by omega))<|.mv rfl<|.mv rfl<|.o0 (n:=q+a.length+1) (m':=1) rfl rfl rfl ay hl2 rfl rfl (by omega) (by omega)<|.wI rfl rfl aN (d:=.int .u32 d) (by rw[Int.toNat_natCast,Nat.mul_one];exact bp hzi)<|
    .mv rfl<|.sh rfl rfl (yC (n:=d) (k:=r) (by omega))<|.mv rfl<|.ar rfl rfl (r:=((c+(d%2^(32-r))*2^r:Nat):Int)) (by rw[DA (by omega)];exact CG hc h1)<|.aq rfl<|.o0 (n:=q+a.length+1) (m':=1) rfl rfl rfl ay hl2 rfl rfl (by omega) (by omega)<|
    .xQ rfl rfl rfl aN rfl rfl (by rw[hl2];omega)<|.nil) rfl (by kernel_rfl) fun _ _ hs=>?_
   refine Ok.on ?_ _ _ hs
   refine .region (.mv rfl<|.ar rfl rfl (fo (by omega))<|.aq rfl<|.nil) rfl fun _ _ hs=>?_
   refine hs.round (m:=q+a.length+1-i) ⟨(zs.set i (c+(d%2^(32-r))*2^r),d/2^(32-r),i+1),by simpa using hzl,iu hzs h1 i,h2,hlt,?_,?_⟩ (by simp only;omega) (dh rfl) ⟨⟨_,rfl,.of_eq (dG (eM ..))⟩,trivial⟩ rfl rfl
   ·intro j hj
    simp only at hj|-
    rw[←hsame j (by omega)]
    simp[List.getElem?_set_ne (show i≠j by omega)]
   ·simp only
    rw[fy (by omega),hst,Nat.pow_succ]
    exact Az hv h3
  ·have:i=q+a.length+1:=by omega
   subst this
   refine .al (.mv rfl<|.mv rfl<|.Fh (n:=q+a.length+1) (m':=1) rfl rfl av hl2 rfl rfl<|.cm rfl rfl (w_ (by omega))<|.nil) rfl ?_
   refine .cF rfl (.exit fun _ _ hs=>?_)
   rw[List.take_of_length_le (by omega),List.take_of_length_le (by omega)]at hv
   exact hs.to ⟨zs,hzl,hzs,Cn (by omega) hsmall hv⟩ (dh rfl) (iX rfl) rfl rfl
 ·rintro⟨zs,hzl,hzs,hv⟩
  show Ok PP _ [(5,.own 15)] [(15,.row 1 230 (bJ zs) (aL _))] _ _
  refine .rT (n:=q+a.length+1) (m':=1) 5 rfl rfl (by simp[bG,hzl]) rfl rfl ?_
  refine .sub [(5,dr zs)] [] ⟨⟨_,rfl,.of_eq (mg hzl.symm rfl)⟩,trivial⟩ trivial rfl rfl ?_
  refine .al (.mv rfl<|.call (lF _ hzs (by omega)) ⟨rfl,trivial⟩<|.aq rfl<|.nil) rfl ?_
  exact .pq rfl (.tmp rfl) (.of_eq (by rw[hv])) rfl
end Go.Am
namespace Go.Am
def iQ(t:Nat):List Nat->Nat->Nat->List Nat->List Nat
 |[],c,b,u::us=>(u+(8589934592-c%4294967296-b))%4294967296::us
 |y::v,c,b,u::us=>(u+(8589934592-(c+t*y)%4294967296-b))%4294967296::iQ t v ((c+t*y)/4294967296) (if u<(c+t*y)%4294967296+b then 1 else 0) us
 |_,_,_,[]=>[]
def ig(t:Nat):List Nat->Nat->Nat->List Nat->Nat
 |[],c,b,u::_=>if u<c%4294967296+b then 1 else 0
 |y::v,c,b,u::us=>ig t v ((c+t*y)/4294967296) (if u<(c+t*y)%4294967296+b then 1 else 0) us
 |_,_,_,[]=>0
def jH:List Nat->Nat->List Nat->List Nat
 |[],c,u::us=>(u+c)%4294967296::us
 |y::v,c,u::us=>(u+y+c)%4294967296::jH v ((u+y+c)/4294967296) us
 |_,_,[]=>[]
theorem pb(t:Nat):∀(v:List Nat) (c b:Nat) (us:List Nat),(iQ t v c b us).length=us.length
 |[],_,_,[]=>rfl
 |[],_,_,_::_=>rfl
 |_::_,_,_,[]=>rfl
 |_::v,_,_,_::us=>by simp[iQ,pb t v]
theorem nC(t:Nat):∀{v:List Nat} {c b:Nat} {us:List Nat},cP us->cP (iQ t v c b us)
 |[],_,_,[],h=>h
 |[],_,_,u::us,h=>fun d hd=>by
  rcases List.mem_cons.1 hd with rfl|hd
  ·exact Nat.mod_lt _ (by omega)
  ·exact h d (by simp[hd])
 |_::_,_,_,[],h=>h
 |_::v,_,_,u::us,h=>fun d hd=>by
  rcases List.mem_cons.1 hd with rfl|hd
  ·exact Nat.mod_lt _ (by omega)
  ·exact nC t (v:=v) (fun x hx=>h x (by simp[hx])) d hd
theorem uQ(t:Nat):∀(v:List Nat) (c b:Nat) (us:List Nat),ig t v c b us<=1
 |[],_,_,[]=>by simp[ig]
 |[],_,_,_::_=>by simp only[ig];split<;>omega
 |_::_,_,_,[]=>by simp[ig]
 |_::v,_,_,_::us=>uQ t v _ _ us
theorem tt(t:Nat)(ht:t<4294967296):∀(v:List Nat) (c b:Nat) (us:List Nat),cP v->cP us->c<4294967296->b<=1->v.length<us.length->
  val ((iQ t v c b us).take (v.length+1))+(t*val v+c+b)=val (us.take (v.length+1))+4294967296^(v.length+1)*ig t v c b us
 |[],c,b,u::us,_,hu,hc,hb,_=>by
  have h1:=hu u (by simp)
  simp only[iQ,ig,List.length_nil,Nat.zero_add,List.take_succ_cons,List.take_zero,val,Nat.mul_zero,Nat.add_zero,Nat.pow_one]
  rw[Nat.mod_eq_of_lt hc]
  split<;>omega
 |y::v,c,b,u::us,hv,hu,hc,hb,hl=>by
  have h1:=hu u (by simp)
  have h2:=hv y (by simp)
  have hty:t*y<=4294967295*4294967295:=Nat.mul_le_mul (by omega) (by omega)
  have hc':(c+t*y)/4294967296<4294967296:=by omega
  have hb':(if u<(c+t*y)%4294967296+b then 1 else 0)<=1:=by split<;>omega
  have ih:=tt t ht v ((c+t*y)/4294967296) (if u<(c+t*y)%4294967296+b then 1 else 0) us (fun x hx=>hv x (by simp[hx])) (fun x hx=>hu x (by simp[hx])) hc' hb' (by simpa using hl)
  simp only[iQ,ig,List.length_cons,List.take_succ_cons,val]
  generalize ig t v _ _ us=B at*
  generalize val ((iQ t v _ _ us).take (v.length+1))=X at*
  generalize val (us.take (v.length+1))=U at*
  have hp:(4294967296:Nat)^(v.length+1+1)*B=4294967296*(4294967296^(v.length+1)*B):=by rw[Nat.pow_succ (n:=4294967296) (m:=v.length+1),Nat.mul_comm (4294967296^(v.length+1)),Nat.mul_assoc]
  rw[hp]
  generalize (4294967296:Nat)^(v.length+1)*B=Z at*
  have htv:t*(y+4294967296*val v)=t*y+4294967296*(t*val v):=by rw[Nat.mul_add,Nat.mul_left_comm]
  rw[htv]
  generalize t*val v=W at*
  generalize t*y=S at*
  split at ih<;>omega
theorem pI:∀(v:List Nat) (c:Nat) (us:List Nat),(jH v c us).length=us.length
 |[],_,[]=>rfl
 |[],_,_::_=>rfl
 |_::_,_,[]=>rfl
 |_::v,_,_::us=>by simp[jH,pI v]
theorem nU:∀{v:List Nat} {c:Nat} {us:List Nat},cP us->cP (jH v c us)
 |[],_,[],h=>h
 |[],_,u::us,h=>fun d hd=>by
  rcases List.mem_cons.1 hd with rfl|hd
  ·exact Nat.mod_lt _ (by omega)
  ·exact h d (by simp[hd])
 |_::_,_,[],h=>h
 |_::v,_,u::us,h=>fun d hd=>by
  rcases List.mem_cons.1 hd with rfl|hd
  ·exact Nat.mod_lt _ (by omega)
  ·exact nU (v:=v) (fun x hx=>h x (by simp[hx])) d hd
theorem tp:∀(v:List Nat) (c:Nat) (us:List Nat),cP v->cP us->c<=1->v.length<us.length->
  ∃k,k<=1/\val ((jH v c us).take (v.length+1))+4294967296^(v.length+1)*k=val (us.take (v.length+1))+val v+c
 |[],c,u::us,_,hu,hc,_=>by
  have h1:=hu u (by simp)
  refine⟨(u+c)/4294967296,by omega,?_⟩
  simp only[jH,List.length_nil,Nat.zero_add,List.take_succ_cons,List.take_zero,val,Nat.mul_zero,Nat.add_zero,Nat.pow_one]
  omega
 |y::v,c,u::us,hv,hu,hc,hl=>by
  have h1:=hu u (by simp)
  have h2:=hv y (by simp)
  obtain⟨k,hk,ih⟩:=tp v ((u+y+c)/4294967296) us (fun x hx=>hv x (by simp[hx])) (fun x hx=>hu x (by simp[hx])) (by omega) (by simpa using hl)
  refine⟨k,hk,?_⟩
  simp only[jH,List.length_cons,List.take_succ_cons,val]
  have hp:(4294967296:Nat)^(v.length+1+1)*k=4294967296*(4294967296^(v.length+1)*k):=by rw[Nat.pow_succ (n:=4294967296) (m:=v.length+1),Nat.mul_comm (4294967296^(v.length+1)),Nat.mul_assoc]
  rw[hp]
  generalize (4294967296:Nat)^(v.length+1)*k=Z at*
  generalize val ((jH v _ us).take (v.length+1))=X at*
  generalize val (us.take (v.length+1))=U at*
  omega
theorem ny(t:Nat):∀(v:List Nat) (c b:Nat) (us:List Nat),(iQ t v c b us).drop (v.length+1)=us.drop (v.length+1)
 |[],_,_,[]=>rfl
 |[],_,_,_::_=>rfl
 |_::_,_,_,[]=>rfl
 |_::v,_,_,_::us=>by simpa [iQ]using ny t v _ _ us
theorem rQ:∀(v:List Nat) (c:Nat) (us:List Nat),(jH v c us).drop (v.length+1)=us.drop (v.length+1)
 |[],_,[]=>rfl
 |[],_,_::_=>rfl
 |_::_,_,[]=>rfl
 |_::v,_,_::us=>by simpa [jH]using rQ v _ us
end Go.Am
namespace Go.Am
open Go.RowKit
theorem qi{p:List Nat}{u d:Nat}{q:List Nat}{i:Nat}(h:p.length=i):(p++u::q).set i d=p++d::q:=by
 subst h;simp
theorem yl{p:List Nat}{u:Nat}{q:List Nat}{i:Nat}(h:p.length=i):(p++u::q)[i]?=some u:=by
 subst h;simp
def taken(us v:List Nat)(t at':Nat):List Nat:=us.take at'++iQ t v 0 0 (us.drop at')
def given(us v:List Nat)(at':Nat):List Nat:=us.take at'++jH v 0 (us.drop at')
theorem Er(us v:List Nat)(t at':Nat)(hus:cP us)(hv:cP v)(ht:t<4294967296)(hl:at'+v.length<us.length)(hmax:us.length<=2199023255552):
  zR PP 227 [dr v,.int .u64 t,.int .i64 at'] 1 230 (bJ us) (.bool (ig t v 0 0 (us.drop at') !=0)) (bJ (taken us v t at')):=by
 refine .of (hl:=aL us) (hl':=aL _) Go.Proofs.Tryz.func227 rfl (by kernel_rfl) rfl rfl rfl (fun A w0 b F hF=>?_)
 refine .al (.aq rfl<|.nil) rfl ?_
 refine .al (.aq rfl<|.aq rfl<|.nil) rfl (.sq ?_)
 refine .al (.mv rfl<|.ln rfl av<|.mv rfl<|.nil) rfl ?_
 refine .block (.loop (ι:={p:List Nat×Nat×Nat×Nat//p.1.length=at'+p.2.2.2/\p.2.2.2<=v.length/\p.2.1<4294967296/\p.2.2.1<=1/\taken us v t at'=p.1++iQ t (v.drop p.2.2.2) p.2.1 p.2.2.1 (us.drop (at'+p.2.2.2))/\
   ig t v 0 0 (us.drop at')=ig t (v.drop p.2.2.2) p.2.1 p.2.2.1 (us.drop (at'+p.2.2.2))})
  (fun p=>[(0,tL 0 b),(1,dr v),(2,.int .u64 t),(3,.int .i64 at'),(9,.int .u64 p.1.2.1),(10,.int .u32 p.1.2.2.1),(13,dr v),(14,.int .i64 v.length),(15,.int .i64 p.1.2.2.2)])
  (fun p=>[(0,.row 1 230 (bJ (p.1.1++us.drop (at'+p.1.2.2.2))) (aL _))]) (fun p=>v.length-p.1.2.2.2)
  ⟨(us.take at',0,0,0),by simp;omega,Nat.zero_le _,by simp,by simp,rfl,rfl⟩ (dh rfl) ⟨⟨_,rfl,.of_eq (dG (by simp))⟩,trivial⟩ rfl rfl ?_)
 rintro⟨⟨ps,c,bo,i⟩,hpl,hi,hc,hbo,htk,htb⟩
 simp only at hpl hi hc hbo htk htb
 show Ok PP _ [(0,tL 0 b),(1,dr v),(2,.int .u64 t),(3,.int .i64 at'),(9,.int .u64 c),(10,.int .u32 bo),(13,dr v),(14,.int .i64 v.length),(15,.int .i64 i)] [(0,.row 1 230 (bJ (ps++us.drop (at'+i))) (aL _))] _ _
 have hdu:us.drop (at'+i)=us.getD (at'+i) 0::us.drop (at'+i+1):=by
  rw[List.drop_eq_getElem_cons (show at'+i<us.length by omega)];simp[show at'+i<us.length by omega]
 have hul:=bV hus (at'+i)
 generalize us.getD (at'+i) 0=u at hdu hul
 refine .sub [(0,tL 0 b),(1,dr v),(2,.int .u64 t),(3,.int .i64 at'),(9,.int .u64 c),(10,.int .u32 bo),(13,dr v),(14,.int .i64 v.length),(15,.int .i64 i)] [(0,.row 1 230 (bJ (ps++u::us.drop (at'+i+1))) (aL _))] (dh rfl) ⟨⟨_,rfl,.of_eq (dG (by rw[hdu]))⟩,trivial⟩ rfl rfl ?_
 rw[hdu]at htk htb
 have hrl:(bJ (ps++u::us.drop (at'+i+1))).length=us.length*1:=by
  rw[bG,List.length_append,List.length_cons,List.length_drop,hpl];omega
 have hgu:(bJ (ps++u::us.drop (at'+i+1)))[((at'+i:Nat):Int).toNat*1]?=some (.int .u32 u):=by
  rw[Int.toNat_natCast,Nat.mul_one];exact bp (yl hpl)
 by_cases hlt:i<v.length
 ·refine .al (.cm rfl rfl (xw (by omega))<|.nil) rfl (.sq ?_)
  refine .cT rfl (.skip (Ok.on (.sq (.block ?_))))
  have hvi:v[i]?=some (v.getD i 0):=by simp[hlt]
  have hyl:=bV hv i
  have hdv:v.drop i=v.getD i 0::v.drop (i+1):=by
   rw[List.drop_eq_getElem_cons hlt];simp[hlt]
  generalize v.getD i 0=y at hvi hyl hdv
  rw[hdv]at htk htb
  simp only[iQ,ig]at htk htb
  have hty:t*y<=4294967295*4294967295:=Nat.mul_le_mul (by omega) (by omega)
  have hs:c+t*y<18446744073709551616:=by omega
  have hm:(c+t*y)%4294967296<4294967296:=Nat.mod_lt _ (by omega)
  refine .al (.mv rfl<|.oX rfl rfl ay (by omega) (by omega) (bp hvi)<|.gC rfl aN<|.aq rfl<|.aq rfl<|.nil) rfl ?_
  refine .al (.mv rfl<|.mv rfl<|.mv rfl<|.cv rfl bq (bP (by omega))<|.ar rfl rfl (qM (by omega))<|.ar rfl rfl (qN hs)<|.aq rfl<|.nil) rfl ?_
  refine .al (.Ew rfl lz<|.mv rfl<|.mv rfl<|.ar rfl rfl (dD (by omega))<|.Ew rfl lz<|.mv rfl<|.mv rfl<|.ar rfl rfl (dD (by omega))<|.o0 (n:=us.length) (m':=1) rfl rfl rfl ay hrl rfl rfl (by omega) (by omega)<|.wI rfl rfl aN hgu<|
   .mv rfl<|.cv rfl dW (i3 _)<|.mv rfl<|.call (tK u ((c+t*y)%4294967296) bo hul hm hbo) ⟨rfl,rfl,rfl,trivial⟩<|.mv rfl<|.ext rfl rfl<|.ext rfl rfl<|.o0 (n:=us.length) (m':=1) rfl rfl rfl ay hrl rfl rfl (by omega) (by omega)<|
   .xQ rfl rfl rfl aN rfl rfl (by rw[hrl];omega)<|.aq rfl<|.nil) rfl ?_
  refine .region (.mv rfl<|.sh rfl rfl (uS (by decide))<|.aq rfl<|.nil) rfl fun _ _ hs=>?_
  refine Ok.on ?_ _ _ hs
  refine .region (.ar rfl rfl (fo (by omega))<|.mv rfl<|.nil) rfl fun _ _ hs=>?_
  refine hs.round (m:=v.length-i) ⟨(ps++[(u+(8589934592-(c+t*y)%4294967296-bo))%4294967296],(c+t*y)/4294967296,if u<(c+t*y)%4294967296+bo then 1 else 0,i+1),by simp[hpl];omega,hlt,by simp only;omega,by simp only;split<;>omega,?_,?_⟩ (by simp only;omega)
   (dh rfl) ⟨⟨_,rfl,.of_eq (dG (by rw[eM,qi hpl];simp only[List.append_assoc,List.singleton_append,Nat.add_assoc]))⟩,trivial⟩ rfl rfl
  ·simp only
   rw[htk,List.append_assoc,List.singleton_append,Nat.add_assoc]
  ·simp only
   rw[htb,Nat.add_assoc]
 ·have:i=v.length:=by omega
  subst this
  refine .al (.cm rfl rfl (w_ (by omega))<|.nil) rfl (.sq ?_)
  refine .cF rfl (.exit (Ok.on ?_))
  rw[List.drop_length]at htk htb
  simp only[iQ,ig]at htk htb
  have hm:c%4294967296=c:=Nat.mod_eq_of_lt hc
  rw[hm]at htk htb
  refine .al (.Ew rfl lz<|.mv rfl<|.mv rfl<|.ln rfl av<|.ar rfl rfl (dD (by omega))<|.Ew rfl lz<|.mv rfl<|.mv rfl<|.ln rfl av<|.ar rfl rfl (dD (by omega))<|.o0 (n:=us.length) (m':=1) rfl rfl rfl ay hrl rfl rfl (by omega) (by omega)<|.wI rfl rfl aN hgu<|
   .mv rfl<|.cv rfl dW (fJ hc)<|.mv rfl<|.call (tK u c bo hul hc hbo) ⟨rfl,rfl,rfl,trivial⟩<|.mv rfl<|.ext rfl rfl<|.ext rfl rfl<|.o0 (n:=us.length) (m':=1) rfl rfl rfl ay hrl rfl rfl (by omega) (by omega)<|
   .xQ rfl rfl rfl aN rfl rfl (by rw[hrl];omega)<|.aq rfl<|.nil) rfl ?_
  refine .al (.mv rfl<|.cm rfl rfl (b:=ig t v 0 0 (us.drop at') !=0) (by rw[htb];split<;>rfl)<|.aq rfl<|.nil) rfl ?_
  refine .sub [(0,tL 0 b),(8,.bool (ig t v 0 0 (us.drop at') !=0))] [(0,.row 1 230 (bJ (taken us v t at')) (aL _))] (dh rfl) ⟨⟨_,rfl,.of_eq (dG (by rw[eM,qi hpl,htk]))⟩,trivial⟩ rfl rfl ?_
  exact .FB (t:=0) (r:=0) hF (fun _ _ h=>h) rfl (.tmp rfl) (.refl _) rfl rfl rfl
theorem Sat.Fx{P:Program}{c:Ctx}{T:List (Nat×D)}{H:List (Nat×Hp)}{fn:Func}{t r m:Nat}{e:TypeId}{l:List D}{hl:bK l=[]}{b:Value}{a:Act}{w:World}(hL:∀k,c.L k->b≠.slice none 0 0/\k=jF b)(hx:fn.results=#[])
  (ht:aP T t=some (tL r b))(hh:ai H r=some (.row m e l hl))(hs:Sat c (aP T) (ai H) a w):bodyPost P fn (E7 c .any m e l hl b) .normal a w:=by
 obtain⟨ε,φ,hs⟩:=hs
 obtain⟨hrow,hS⟩:=we hL ht hh hs
 refine⟨hs.df,.tuple #[],?_,.tuple #[],φ r,rfl,trivial,(Hp.row m e l hl).mono hrow (fun r h=>by cases h) (fun k hk _=>⟨hS k hk,rfl⟩) (fun _ _=>rfl),hs.pk⟩
 rw[fk,hx]
 simp
theorem ER(us v:List Nat)(at':Nat)(hus:cP us)(hv:cP v)(hl:at'+v.length<us.length)(hmax:us.length<=2199023255552):
  zR PP 228 [dr v,.int .i64 at'] 1 230 (bJ us) .any (bJ (given us v at')):=by
 refine .of (hl:=aL us) (hl':=aL _) Go.Proofs.Tryz.func228 rfl (by kernel_rfl) rfl rfl rfl (fun A w0 b F hF=>?_)
 refine .al (.aq rfl<|.nil) rfl (.sq ?_)
 refine .al (.mv rfl<|.ln rfl av<|.mv rfl<|.nil) rfl ?_
 refine .block (.loop (ι:={p:List Nat×Nat×Nat//p.1.length=at'+p.2.2/\p.2.2<=v.length/\p.2.1<=1/\given us v at'=p.1++jH (v.drop p.2.2) p.2.1 (us.drop (at'+p.2.2))})
  (fun p=>[(0,tL 0 b),(1,dr v),(2,.int .i64 at'),(6,.int .u32 p.1.2.1),(9,dr v),(10,.int .i64 v.length),(11,.int .i64 p.1.2.2)])
  (fun p=>[(0,.row 1 230 (bJ (p.1.1++us.drop (at'+p.1.2.2))) (aL _))]) (fun p=>v.length-p.1.2.2)
  ⟨(us.take at',0,0),by simp;omega,Nat.zero_le _,by simp,rfl⟩ (dh rfl) ⟨⟨_,rfl,.of_eq (dG (by simp))⟩,trivial⟩ rfl rfl ?_)
 rintro⟨⟨ps,c,i⟩,hpl,hi,hc,htk⟩
 simp only at hpl hi hc htk
 show Ok PP _ [(0,tL 0 b),(1,dr v),(2,.int .i64 at'),(6,.int .u32 c),(9,dr v),(10,.int .i64 v.length),(11,.int .i64 i)] [(0,.row 1 230 (bJ (ps++us.drop (at'+i))) (aL _))] _ _
 have hdu:us.drop (at'+i)=us.getD (at'+i) 0::us.drop (at'+i+1):=by
  rw[List.drop_eq_getElem_cons (show at'+i<us.length by omega)];simp[show at'+i<us.length by omega]
 have hul:=bV hus (at'+i)
 generalize us.getD (at'+i) 0=u at hdu hul
 refine .sub [(0,tL 0 b),(1,dr v),(2,.int .i64 at'),(6,.int .u32 c),(9,dr v),(10,.int .i64 v.length),(11,.int .i64 i)] [(0,.row 1 230 (bJ (ps++u::us.drop (at'+i+1))) (aL _))] (dh rfl) ⟨⟨_,rfl,.of_eq (dG (by rw[hdu]))⟩,trivial⟩ rfl rfl ?_
 rw[hdu]at htk
 have hrl:(bJ (ps++u::us.drop (at'+i+1))).length=us.length*1:=by
  rw[bG,List.length_append,List.length_cons,List.length_drop,hpl];omega
 have hgu:(bJ (ps++u::us.drop (at'+i+1)))[((at'+i:Nat):Int).toNat*1]?=some (.int .u32 u):=by
  rw[Int.toNat_natCast,Nat.mul_one];exact bp (yl hpl)
 by_cases hlt:i<v.length
 ·refine .al (.cm rfl rfl (xw (by omega))<|.nil) rfl (.sq ?_)
  refine .cT rfl (.skip (Ok.on (.sq (.block ?_))))
  have hvi:v[i]?=some (v.getD i 0):=by simp[hlt]
  have hyl:=bV hv i
  have hdv:v.drop i=v.getD i 0::v.drop (i+1):=by
   rw[List.drop_eq_getElem_cons hlt];simp[hlt]
  generalize v.getD i 0=y at hvi hyl hdv
  rw[hdv]at htk
  simp only[jH]at htk
  refine .al (.mv rfl<|.oX rfl rfl ay (by omega) (by omega) (bp hvi)<|.gC rfl aN<|.aq rfl<|.aq rfl<|.nil) rfl ?_
  refine .region (.Ew rfl lz<|.mv rfl<|.mv rfl<|.ar rfl rfl (dD (by omega))<|.Ew rfl lz<|.mv rfl<|.mv rfl<|.ar rfl rfl (dD (by omega))<|.o0 (n:=us.length) (m':=1) rfl rfl rfl ay hrl rfl rfl (by omega) (by omega)<|.wI rfl rfl aN hgu<|
   .mv rfl<|.mv rfl<|.call (Cp u y c hul hyl hc) ⟨rfl,rfl,rfl,trivial⟩<|.mv rfl<|.ext rfl rfl<|.ext rfl rfl<|.o0 (n:=us.length) (m':=1) rfl rfl rfl ay hrl rfl rfl (by omega) (by omega)<|
   .xQ rfl rfl rfl aN rfl rfl (by rw[hrl];omega)<|.aq rfl<|.nil) rfl fun _ _ hs=>?_
  refine Ok.on ?_ _ _ hs
  refine .region (.ar rfl rfl (fo (by omega))<|.mv rfl<|.nil) rfl fun _ _ hs=>?_
  refine hs.round (m:=v.length-i) ⟨(ps++[(u+y+c)%4294967296],(u+y+c)/4294967296,i+1),by simp[hpl];omega,hlt,by simp only;omega,?_⟩ (by simp only;omega)
   (dh rfl) ⟨⟨_,rfl,.of_eq (dG (by rw[eM,qi hpl];simp only[List.append_assoc,List.singleton_append,Nat.add_assoc]))⟩,trivial⟩ rfl rfl
  simp only
  rw[htk,List.append_assoc,List.singleton_append,Nat.add_assoc at']
 ·have:i=v.length:=by omega
  subst this
  refine .al (.cm rfl rfl (w_ (by omega))<|.nil) rfl (.sq ?_)
  refine .cF rfl (.exit (Ok.on ?_))
  rw[List.drop_length]at htk
  simp only[jH]at htk
  have hw:IntKind.u32.wrap ((u:Int)+(c:Int))=(((u+c)%4294967296:Nat):Int):=wrap_u32 (by omega)
  refine .region (.Ew rfl lz<|.mv rfl<|.mv rfl<|.ln rfl av<|.ar rfl rfl (dD (by omega))<|.o0 (n:=us.length) (m':=1) rfl rfl rfl ay hrl rfl rfl (by omega) (by omega)<|.wI rfl rfl aN hgu<|
   .mv rfl<|.ar rfl rfl (congrArg some hw)<|.o0 (n:=us.length) (m':=1) rfl rfl rfl ay hrl rfl rfl (by omega) (by omega)<|
   .xQ rfl rfl rfl aN rfl rfl (by rw[hrl];omega)<|.nil) rfl fun _ _ hs=>?_
  refine(hs.sub (T':=[(0,tL 0 b)]) (H':=[(0,.row 1 230 (bJ (given us v at')) (aL _))]) (dh rfl) ⟨⟨_,rfl,.of_eq (dG (by rw[eM,qi hpl,htk]))⟩,trivial⟩ rfl rfl).Fx (t:=0) (r:=0) hF rfl rfl rfl
end Go.Am
namespace Go.Am
theorem Av{U V v1 R two q:Nat}(hV:v1*R<=V)(hU:U<(two+1)*R)(hq:q*V<=U):q*v1<=two:=by
 have h1:q*(v1*R)<=q*V:=Nat.mul_le_mul_left _ hV
 rw[←Nat.mul_assoc]at h1
 have h2:q*v1*R<(two+1)*R:=by omega
 have:=Nat.lt_of_mul_lt_mul_right h2
 omega
theorem A9{U V B v1 v2 u2 P two g rest q:Nat}(hV:(v1*B+v2)*P<=V)(hU:U<(two*B+u2+1)*P)(hg:g*v1+rest=two)(ht:rest*B+u2<g*v2)(hq:q*V<=U):q<g:=by
 apply Nat.lt_of_not_le
 intro hle
 have h1:g*((v1*B+v2)*P)<=q*V:=Nat.mul_le_mul hle hV
 have h2:g*(v1*B+v2)*P<(two*B+u2+1)*P:=by rw[Nat.mul_assoc];omega
 have h3:=Nat.lt_of_mul_lt_mul_right h2
 have h4:g*(v1*B+v2)=g*v1*B+g*v2:=by rw[Nat.mul_add,Nat.mul_assoc]
 have h5:two*B=g*v1*B+rest*B:=by rw[←hg,Nat.add_mul]
 omega
theorem Aw{U V B v1 v2 u2 P two g rest:Nat}(hV1:B*P<=V)(hV:V<(v1*B+v2+1)*P)(hU:(two*B+u2)*P<=U)(hg:g*v1+rest=two)(ht:g*v2<=rest*B+u2)(hgB:g<=B):g*V<=U+V:=by
 have h4:g*(v1*B+v2)=g*v1*B+g*v2:=by rw[Nat.mul_add,Nat.mul_assoc]
 have h5:two*B=g*v1*B+rest*B:=by rw[←hg,Nat.add_mul]
 have h6:g*(v1*B+v2)<=two*B+u2:=by omega
 have h7:g*(v1*B+v2)*P<=(two*B+u2)*P:=Nat.mul_le_mul_right _ h6
 have h8:g*V<=g*((v1*B+v2+1)*P):=Nat.mul_le_mul_left _ (Nat.le_of_lt hV)
 have h9:g*((v1*B+v2+1)*P)=g*(v1*B+v2)*P+g*P:=by rw[←Nat.mul_assoc,Nat.mul_add g,Nat.mul_one,Nat.add_mul]
 have h10:g*P<=B*P:=Nat.mul_le_mul_right _ hgB
 omega
theorem Es{U V g q X Y M bo k:Nat}(hq:q=U/V)(hV:0<V)(h1:q<=g)(h2:g*V<=U+V)(_hUM:U<M)(hbo:bo<=1)(hX:X<M)(hT:X+g*V=U+M*bo)(hk:k<=1)(hY:Y<M)(_hVM:V<M)(hG:Y+M*k=X+V):
  (bo=0/\g=q/\X=U%V)\/(bo=1/\g=q+1/\Y=U%V):=by
 have hdm:=Nat.div_add_mod U V
 have hm:=Nat.mod_lt U hV
 rw[←hq]at hdm
 have hc:V*q=q*V:=Nat.mul_comm _ _
 have hg:g=q\/g=q+1:=by
  rcases Nat.lt_or_ge (q+1) g with h|h
  ·exfalso
   have h3:(q+2)*V<=g*V:=Nat.mul_le_mul_right _ h
   rw[Nat.add_mul]at h3
   omega
  ·omega
 have hb:bo=0\/bo=1:=by omega
 have hkk:k=0\/k=1:=by omega
 rcases hg with rfl|rfl
 ·left
  rcases hb with rfl|rfl
  ·refine⟨rfl,rfl,?_⟩;omega
  ·exfalso;omega
 ·right
  rw[Nat.add_mul,Nat.one_mul]at hT
  rcases hb with rfl|rfl
  ·exfalso;omega
  ·refine⟨rfl,rfl,?_⟩
   rcases hkk with rfl|rfl<;>omega
end Go.Am
namespace Go.Am
open Go.RowKit
theorem DP(x y:Nat)(hx:(aD x).length<=1099511627776)(hy:(aD y).length<=1099511627776):kC PP 212 [aj x,aj y] (aj (x+y)):=
 D9 (aD x) (aD y) (cG x) (cG y) hx hy (by rw[dE,dE])
def jI(l:List UInt8):Nat:=l.foldl (fun a b=>a*10+(b.toNat-48)) 0
theorem m7(l:List UInt8)(b:UInt8):jI (l++[b])=jI l*10+(b.toNat-48):=by simp[jI]
def sw(l:List UInt8):Prop:=∀b∈l,48<=b.toNat/\b.toNat<=57
theorem yv{l:List UInt8}(h:sw l):jI l<4294967296^l.length:=by
 have key:∀(n:Nat) (l:List UInt8),l.length=n->sw l->jI l<4294967296^n:=by
  intro n
  induction n with
  |zero=>intro l hl _;rw[List.length_eq_zero_iff.1 hl];simp[jI]
  |succ n ih=>
   intro l hl hd
   have hne:l≠[]:=by intro e;subst e;simp at hl
   rw[←List.dropLast_concat_getLast hne,m7]
   have h1:=ih l.dropLast (by simp[hl]) (fun b hb=>hd b (List.dropLast_subset _ hb))
   have h2:=hd (l.getLast hne) (List.getLast_mem hne)
   have hp:(4294967296:Nat)^(n+1)=4294967296^n*4294967296:=Nat.pow_succ ..
   rw[hp]
   generalize (4294967296:Nat)^n=P at*
   omega
 exact key _ l rfl h
theorem zc(s:ByteArray)(hs:s.size<=1000000)(hd:sw s.data.toList):kC PP 148 [.str s] (aj (jI s.data.toList)):=by
 refine .of Go.Proofs.Tryz.func148 rfl (by kernel_rfl) rfl rfl rfl (fun A w0=>?_)
 have hsl:s.data.toList.length=s.size:=Array.length_toList
 refine .al (.aq rfl<|.nil) rfl ?_
 refine .al (.aq rfl<|.nil) rfl (.sq ?_)
 refine .al (.mv rfl<|.GF rfl ct<|.mv rfl<|.nil) rfl ?_
 refine .block (.loop (ι:={i:Nat//i<=s.size}) (fun i=>[(0,.str s),(3,aj (jI (s.data.toList.take i.1))),(6,.int .i64 s.size),(7,.int .i64 i.1)]) (fun _=>[]) (fun i=>s.size-i.1)
  ⟨0,Nat.zero_le _⟩ ⟨⟨_,rfl,.refl _⟩,⟨_,rfl,aU⟩,⟨_,rfl,.refl _⟩,⟨_,rfl,.refl _⟩,trivial⟩ trivial rfl rfl ?_)
 rintro⟨i,hi⟩
 show Ok PP _ [(0,.str s),(3,aj (jI (s.data.toList.take i))),(6,.int .i64 s.size),(7,.int .i64 i)] [] _ _
 by_cases hlt:i<s.size
 ·refine .al (.cm rfl rfl (xw (by omega))<|.nil) rfl (.sq ?_)
  refine .cT rfl (.skip (Ok.on (.sq (.block ?_))))
  have hb:s[i]?=some s[i]:=getElem?_pos s i hlt
  have hbl:s.data.toList[i]?=some s[i]:=by
   rw[Array.getElem?_toList,ByteArray.getElem_eq_getElem_data]
   exact Array.getElem?_eq_getElem _
  have hdb:=hd s[i] (List.mem_of_getElem? hbl)
  have htk:s.data.toList.take (i+1)=s.data.toList.take i++[s[i]]:=by
   rw[List.take_add_one,hbl];rfl
  have hlen:(s.data.toList.take i).length=i:=by rw[List.length_take,hsl];omega
  have hdt:sw (s.data.toList.take i):=fun b hb=>hd b (List.mem_of_mem_take hb)
  have hvl:=yv hdt
  rw[hlen]at hvl
  have hl1:=eL hvl
  have hvl2:=yv (l:=s.data.toList.take (i+1)) (fun b hb=>hd b (List.mem_of_mem_take hb))
  have hlen2:(s.data.toList.take (i+1)).length=i+1:=by rw[htk,List.length_append,hlen];rfl
  rw[hlen2,htk,m7]at hvl2
  generalize s[i]=b at*
  generalize hv0:jI (s.data.toList.take i)=v at*
  have hl2:(aD (v*10)).length<=i+1:=eL (Nat.lt_of_le_of_lt (Nat.le_add_right _ _) hvl2)
  have hl3:(aD (b.toNat-48)).length<=1:=eL (by omega)
  have hl4:(aD 10).length<=1:=eL (by omega)
  have hw:IntKind.u8.wrap ((b.toNat:Int)-48)=((b.toNat-48:Nat):Int):=by rw[IntKind.wrap_u8];omega
  refine .al (.mv rfl<|.aq rfl<|.nil) rfl ?_
  refine .c_ cg (.mv rfl<|.call (qp 10 (by omega)) ⟨rfl,trivial⟩<|.call (DT v 10 (by omega) (by omega)) ⟨rfl,rfl,trivial⟩<|.mv rfl<|.mv rfl<|.Ga rfl rfl ct (by omega) hb<|.ar rfl rfl (congrArg some hw)<|.cv rfl p9 (bP (by omega))<|
   .call (qp (b.toNat-48) (by omega)) ⟨rfl,trivial⟩<|.call (DP (v*10) (b.toNat-48) (by omega) (by omega)) ⟨rfl,rfl,trivial⟩<|.aq rfl<|.nil) rfl (by kernel_rfl) fun _ _ hs=>?_
  refine Ok.on ?_ _ _ hs
  refine .region (.ar rfl rfl (fo (by omega))<|.mv rfl<|.nil) rfl fun _ _ hs=>?_
  exact hs.round (m:=s.size-i) ⟨i+1,hlt⟩ (by simp only;omega) ⟨⟨_,rfl,.refl _⟩,⟨_,rfl,.of_eq (by rw[htk,m7,hv0])⟩,⟨_,rfl,.refl _⟩,⟨_,rfl,.refl _⟩,trivial⟩ trivial rfl rfl
 ·have:i=s.size:=by omega
  subst this
  refine .al (.cm rfl rfl (w_ (by omega))<|.nil) rfl (.sq ?_)
  refine .cF rfl (.exit (Ok.on ?_))
  refine .al (.mv rfl<|.aq rfl<|.nil) rfl ?_
  exact .pq rfl (.tmp rfl) (.of_eq (by rw[List.take_of_length_le (by omega)])) rfl
end Go.Am
namespace Go.Am
open Go.RowKit
end Go.Am
namespace Go.Am
theorem DG(B P a b:Nat):P*a+P*B*b=P*(b*B+a):=by
 rw[Nat.mul_add,Nat.mul_assoc,Nat.mul_comm B b];omega
theorem FN(B P a b c:Nat):P*a+P*B*b+P*B*B*c=P*((c*B+b)*B+a):=by
 have e:P*B*B*c=P*(c*B*B):=by rw[Nat.mul_assoc,Nat.mul_assoc,Nat.mul_comm B c,Nat.mul_comm B (c*B)]
 rw[e,DG,←Nat.mul_add,Nat.add_mul]
 congr 1;omega
theorem B8{l:List Nat}{p a b:Nat}(ha:l[p]?=some a)(hb:l[p+1]?=some b):val (l.take (p+2))=val (l.take p)+4294967296^p*(b*4294967296+a):=by
 have h1:=dS hb
 have h2:=dS ha
 rw[←DG,show p+2=p+1+1 from rfl,h1,h2,Nat.pow_succ,Nat.add_assoc]
theorem zr{l:List Nat}{p a b c:Nat}(ha:l[p]?=some a)(hb:l[p+1]?=some b)(hc:l[p+2]?=some c):val (l.take (p+3))=val (l.take p)+4294967296^p*((c*4294967296+b)*4294967296+a):=by
 have h1:=dS hc
 have h2:=dS hb
 have h3:=dS ha
 rw[←FN,show p+3=p+2+1 from rfl,h1,show p+2=p+1+1 from rfl,h2,h3,Nat.pow_succ,Nat.pow_succ,Nat.add_assoc,Nat.add_assoc,Nat.add_assoc,Nat.pow_succ]
theorem xN{X P t U:Nat}(h:U=X+P*t)(hX:X<P):t*P<=U/\U<(t+1)*P:=by
 rw[h,Nat.add_mul,Nat.one_mul,Nat.mul_comm P t]
 omega
theorem wO{q two v1:Nat}(h:q*v1<=two)(h1:0<v1):q<=two/v1:=(Nat.le_div_iff_mul_le h1).2 h
theorem xm{g v1 rest two:Nat}(h:g*v1+rest=two)(hg:0<g):(g-1)*v1+(rest+v1)=two:=by
 obtain⟨k,rfl⟩:∃k,g=k+1:=⟨g-1,by omega⟩
 rw[Nat.add_mul,Nat.one_mul]at h
 rw[Nat.add_sub_cancel];omega
theorem wi{g v1 rest B u1 u0:Nat}(h:g*v1+rest=u1*B+u0)(hr:B<=rest)(hu1:u1<=v1)(hu0:u0<B):g<B:=by
 have h1:u1*B<=v1*B:=Nat.mul_le_mul_right _ hu1
 have h2:g*v1<B*v1:=by rw[Nat.mul_comm B v1];omega
 exact Nat.lt_of_mul_lt_mul_right h2
end Go.Am
namespace Go.Am
open Go.RowKit
structure n0(us v:List Nat)(i n:Nat):Prop where
 n2:2<=n
 vl:v.length=n
 lv:cP v
 lu:cP us
 fit:i+n<us.length
 GZ:4294967296^n<=2*val v
 less:val (us.drop (i+1))<val v
theorem n0.rest{us v:List Nat}{i n:Nat}(h:n0 us v i n):val (us.drop i)=val ((us.drop i).take (n+1)):=by
 have h1:=eJ (us.drop (i+1)) n (by rw[List.length_drop];have:=h.fit;omega)
 have h2:=nu h.lv
 rw[h.vl]at h2
 have h3:val ((us.drop (i+1)).drop n)=0:=by
  rcases Nat.eq_zero_or_pos (val ((us.drop (i+1)).drop n))with h|h'
  ·exact h
  ·exfalso
   have:=Nat.mul_le_mul_left (4294967296^n) h'
   have:=h.less
   omega
 have h4:=eJ (us.drop i) (n+1) (by rw[List.length_drop];have:=h.fit;omega)
 rw[List.drop_drop]at h3 h4
 rw[show i+(n+1)=i+1+n by omega,h3,Nat.mul_zero,Nat.add_zero]at h4
 exact h4
theorem getD_some{l:List Nat}{i:Nat}(h:i<l.length):l[i]?=some (l.getD i 0):=by simp[h]
theorem n0.win{us v:List Nat}{i p:Nat}(h:n0 us v i (p+2)):
  ((us.getD (i+p+2) 0*4294967296+us.getD (i+p+1) 0)*4294967296+us.getD (i+p) 0)*4294967296^p<=val (us.drop i)/\
  val (us.drop i)<((us.getD (i+p+2) 0*4294967296+us.getD (i+p+1) 0)*4294967296+us.getD (i+p) 0+1)*4294967296^p:=by
 have hf:=h.fit
 have g:∀k,k<p+3->(us.drop i)[k]?=some (us.getD (i+k) 0):=fun k hk=>by
  rw[List.getElem?_drop];exact getD_some (by omega)
 have h3:=zr (l:=us.drop i) (p:=p) (g p (by omega)) (g (p+1) (by omega)) (g (p+2) (by omega))
 rw[h.rest]
 exact xN h3 (eN (i4 h.lu i) p)
theorem n0.div{us v:List Nat}{i p:Nat}(h:n0 us v i (p+2)):
  (v.getD (p+1) 0*4294967296+v.getD p 0)*4294967296^p<=val v/\val v<(v.getD (p+1) 0*4294967296+v.getD p 0+1)*4294967296^p:=by
 have hl:=h.vl
 have h3:=B8 (l:=v) (p:=p) (getD_some (by omega)) (getD_some (by omega))
 rw[←hl,List.take_length]at h3
 exact xN h3 (eN h.lv p)
theorem Fz(a B P:Nat):a*B*B*P=B*(a*B*P):=by
 rw[Nat.mul_right_comm (a*B) B P,Nat.mul_comm (a*B*P) B]
theorem Dx{v1 v2:Nat}(h1:v1<2147483648)(h2:v2<4294967296):v1*4294967296+v2+1<=9223372036854775808:=by omega
theorem n0.size{us v:List Nat}{i p:Nat}(h:n0 us v i (p+2)):4294967296*4294967296^p<=val v/\2147483648<=v.getD (p+1) 0:=by
 have hb:=h.GZ
 have hd:=h.div.2
 have hv2:=bV h.lv p
 rw[Nat.pow_succ,Nat.pow_succ]at hb
 generalize (4294967296:Nat)^p=P at*
 generalize v.getD (p+1) 0=v1 at*
 generalize v.getD p 0=v2 at*
 generalize val v=V at*
 refine⟨by omega,?_⟩
 apply Nat.le_of_not_lt
 intro hlt
 have h0:=Dx hlt hv2
 have h1:=Nat.mul_le_mul_right P h0
 omega
theorem n0.top{us v:List Nat}{i p:Nat}(h:n0 us v i (p+2)):us.getD (i+p+2) 0<=v.getD (p+1) 0:=by
 have hu:=h.win.1
 have hd:=h.div.2
 have hr:=fz us i
 have hul:=bV h.lu i
 have hv2:=bV h.lv p
 have hs:=h.less
 generalize us.getD (i+p+2) 0=a at*
 generalize us.getD (i+p+1) 0=b at*
 generalize us.getD (i+p) 0=c at*
 generalize us.getD i 0=d at*
 generalize val (us.drop i)=U at*
 generalize val (us.drop (i+1))=W at*
 generalize (4294967296:Nat)^p=P at*
 generalize v.getD (p+1) 0=v1 at*
 generalize v.getD p 0=v2 at*
 generalize val v=V at*
 apply Nat.le_of_not_lt
 intro hlt
 have h1:((v1+1)*4294967296*4294967296)*P<=((a*4294967296+b)*4294967296+c)*P:=Nat.mul_le_mul_right _ (by omega)
 have h2:(v1*4294967296+v2+1)*P<=((v1+1)*4294967296)*P:=Nat.mul_le_mul_right _ (by omega)
 have h3:((v1+1)*4294967296*4294967296)*P=4294967296*(((v1+1)*4294967296)*P):=Fz ..
 omega
end Go.Am
namespace Go.Am
theorem Dr{U V B P two c v1 v2 q:Nat}(hw:U<(two*B+c+1)*P)(hd:(v1*B+v2)*P<=V)(hc:c<B)(hq:q*V<=U):q*v1<=two:=by
 refine Av (R:=B*P) (Nat.le_trans ?_ hd) (Nat.lt_of_lt_of_le hw ?_) hq
 ·rw[←Nat.mul_assoc];exact Nat.mul_le_mul_right _ (Nat.le_add_right _ _)
 ·rw[←Nat.mul_assoc];exact Nat.mul_le_mul_right _ (by rw[Nat.add_mul,Nat.one_mul];omega)
theorem n0.ge{us v:List Nat}{i p q:Nat}(h:n0 us v i (p+2))(hq:q*val v<=val (us.drop i)):q*v.getD (p+1) 0<=us.getD (i+p+2) 0*4294967296+us.getD (i+p+1) 0:=
 Dr h.win.2 h.div.1 (bV h.lu (i+p)) hq
end Go.Am
namespace Go.Am
structure Stood(us v:List Nat)(i p g:Nat):Prop where
 ge:val (us.drop i)/val v<=g
 le:g*val v<=val (us.drop i)+val v
 lt:g<4294967296
theorem n0.stood{us v:List Nat}{i p g rest:Nat}(h:n0 us v i (p+2))(hge:val (us.drop i)/val v<=g)(hg:g*v.getD (p+1) 0+rest=us.getD (i+p+2) 0*4294967296+us.getD (i+p+1) 0)
  (ht:g*v.getD p 0<=rest*4294967296+us.getD (i+p) 0)(hgB:g<4294967296):Stood us v i p g:=
 ⟨hge,Aw h.size.1 h.div.2 h.win.1 hg ht (Nat.le_of_lt hgB),hgB⟩
theorem sX(us v:List Nat)(t i:Nat):(taken us v t i).length=us.length:=by
 rw[taken,List.length_append,pb,List.length_take,List.length_drop];omega
theorem qV{us v:List Nat}{t i:Nat}(h:i<=us.length):(taken us v t i).drop i=iQ t v 0 0 (us.drop i):=by
 rw[taken,List.drop_append_of_le_length (by simp;omega),List.drop_of_length_le (by simp;omega),List.nil_append]
theorem xn{us v:List Nat}{t i:Nat}(h:i<=us.length):(taken us v t i).take i=us.take i:=by
 rw[taken,List.take_append_of_le_length (by simp;omega),List.take_of_length_le (by simp;omega)]
theorem wH{us v:List Nat}{t i:Nat}(h:cP us):cP (taken us v t i):=jq (k_ h i) (nC t (i4 h i))
theorem yN(us v:List Nat)(i:Nat):(given us v i).length=us.length:=by
 rw[given,List.length_append,pI,List.length_take,List.length_drop];omega
theorem xu{us v:List Nat}{i:Nat}(h:i<=us.length):(given us v i).drop i=jH v 0 (us.drop i):=by
 rw[given,List.drop_append_of_le_length (by simp;omega),List.drop_of_length_le (by simp;omega),List.nil_append]
theorem xB{us v:List Nat}{i:Nat}(h:i<=us.length):(given us v i).take i=us.take i:=by
 rw[given,List.take_append_of_le_length (by simp;omega),List.take_of_length_le (by simp;omega)]
theorem xc{us v:List Nat}{i:Nat}(h:cP us):cP (given us v i):=jq (k_ h i) (nU (i4 h i))
theorem n0.Fq{us v:List Nat}{i n:Nat}(h:n0 us v i n):val ((us.drop i).drop (n+1))=0:=by
 have h1:=h.rest
 have h4:=eJ (us.drop i) (n+1) (by rw[List.length_drop];have:=h.fit;omega)
 have hp:0<4294967296^(n+1):=Nat.pow_pos (by omega)
 generalize (4294967296:Nat)^(n+1)=P at*
 rcases Nat.eq_zero_or_pos (val ((us.drop i).drop (n+1)))with h0|h0
 ·exact h0
 ·have:=Nat.mul_le_mul hp h0
  omega
theorem n0.step{us v:List Nat}{i p g:Nat}(h:n0 us v i (p+2))(hs:Stood us v i p g):
  (ig g v 0 0 (us.drop i)=0/\g=val (us.drop i)/val v/\val ((taken us v g i).drop i)=val (us.drop i)%val v)\/
  (ig g v 0 0 (us.drop i)=1/\g=val (us.drop i)/val v+1/\val ((given (taken us v g i) v i).drop i)=val (us.drop i)%val v):=by
 have hf:=h.fit
 have hil:i<=us.length:=by omega
 have hld:v.length<(us.drop i).length:=by rw[List.length_drop,h.vl];omega
 have hT:=tt g hs.lt v 0 0 (us.drop i) h.lv (i4 h.lu i) (by omega) (by omega) hld
 have hlt:=nC g (v:=v) (c:=0) (b:=0) (i4 h.lu i)
 have hlen:=pb g v 0 0 (us.drop i)
 obtain⟨k,hk,hG⟩:=tp v 0 (iQ g v 0 0 (us.drop i)) h.lv hlt (by omega) (by rw[hlen];exact hld)
 have hbo:=uQ g v 0 0 (us.drop i)
 have hV:0<val v:=by
  have:=h.size.1
  have h2:0<4294967296*4294967296^p:=Nat.mul_pos (by omega) (Nat.pow_pos (by omega))
  exact Nat.lt_of_lt_of_le h2 this
 have hab:=h.Fq
 have hrest:=h.rest
 rw[h.vl]at hT hG
 have e1:val ((taken us v g i).drop i)=val ((iQ g v 0 0 (us.drop i)).take (p+2+1)):=by
  rw[qV hil,eJ _ (p+2+1) (by rw[hlen,←h.vl];omega)]
  have:=ny g v 0 0 (us.drop i)
  rw[h.vl]at this
  rw[this,hab,Nat.mul_zero,Nat.add_zero]
 have e2:val ((given (taken us v g i) v i).drop i)=val ((jH v 0 (iQ g v 0 0 (us.drop i))).take (p+2+1)):=by
  rw[xu (by rw[sX];exact hil),qV hil,eJ _ (p+2+1) (by rw[pI,hlen,←h.vl];omega)]
  have g1:=rQ v 0 (iQ g v 0 0 (us.drop i))
  have g2:=ny g v 0 0 (us.drop i)
  rw[h.vl]at g1 g2
  rw[g1,g2,hab,Nat.mul_zero,Nat.add_zero]
 have hX:=eN hlt (p+2+1)
 have hY:=eN (nU (v:=v) (c:=0) hlt) (p+2+1)
 have hU:=eN (i4 h.lu i) (p+2+1)
 have hVM:=nu h.lv
 rw[h.vl]at hVM
 have hMM:4294967296^(p+2)<=4294967296^(p+2+1):=Nat.pow_le_pow_right (by omega) (by omega)
 rw[e1,e2]
 rw[←hrest]at hT hU
 exact Es rfl hV hs.ge hs.le hU hbo hX (by rw[←hT];omega) hk hY (Nat.lt_of_lt_of_le hVM hMM) hG
end Go.Am
namespace Go.Am
open Go.RowKit
theorem Le.Gg{a b c d:D}(h:Le a c)(k:Le b d):Le (.iC [a,b]) (.iC [c,d]):=by
 refine⟨fun ε w S v ⟨vs,e,hv⟩=>⟨vs,e,?_⟩,fun r hr=>?_⟩
 ·match vs,hv with
  |[x,y],hv=>exact⟨h.1 _ _ _ _ hv.1,k.1 _ _ _ _ hv.2.1,trivial⟩
 ·obtain⟨e,he,hr'⟩:=bR.1 (show r∈bK [c,d]from hr)
  simp only[List.mem_cons,List.not_mem_nil,or_false]at he
  rcases he with rfl|rfl
  ·exact bR.2 ⟨a,by simp,h.2 r hr'⟩
  ·exact bR.2 ⟨b,by simp,k.2 r hr'⟩
theorem Bv{y:Nat}(h:(aD y).length=1):y<4294967296/\y≠0/\aD y=[y]:=by
 have h1:=kt (x:=y)
 rw[h]at h1
 have h0:y≠0:=by intro e;subst e;rw[cN]at h;simp at h
 have hy:y<4294967296:=by omega
 refine⟨hy,h0,?_⟩
 rw[j7 h0,Nat.div_eq_of_lt hy,Nat.mod_eq_of_lt hy,cN]
theorem vT{x y:Nat}(h:y<=x):0<=fg x y:=by unfold fg;split<;>(try split)<;>omega
theorem Bg{y k:Nat}(hy:y≠0):bA (y*2^k)=bA y+k:=by
 have hp:=Nat.two_pow_pos k
 have h:=n7 (x:=y*2^k) k (Nat.le_mul_of_pos_left _ (by omega))
 rw[Nat.mul_div_cancel _ hp]at h
 exact h.symm
theorem Ca{y n d:Nat}(hn:(aD y).length=n+1)(hd:(aD y)[n]?=some d)(hy:y≠0)(hd32:bA d<=32):
  4294967296^(n+1)<=2*(y*2^(32-bA d))/\(aD (y*2^(32-bA d))).length=n+1:=by
 have hb:=sM hn hd
 have hm:=Bg (k:=32-bA d) hy
 have hV:bA (y*2^(32-bA d))=32*(n+1):=by omega
 have hV0:y*2^(32-bA d)≠0:=Nat.mul_ne_zero hy (Nat.pos_iff_ne_zero.1 (Nat.two_pow_pos _))
 generalize y*2^(32-bA d)=V at*
 have h1:=lD V
 have h2:=tQ hV0
 rw[hV]at h1 h2
 have hp:(4294967296:Nat)^(n+1)=2^(32*(n+1)):=by rw[Nat.pow_mul]
 have hq:(2:Nat)^(32*(n+1))=2*2^(32*(n+1)-1):=by
  conv=>lhs;rw[show 32*(n+1)=(32*(n+1)-1)+1 by omega,Nat.pow_succ,Nat.mul_comm]
 have h3:4294967296^(n+1)<=2*V:=by rw[hp,hq];exact Nat.mul_le_mul_left _ h2
 refine⟨h3,?_⟩
 have h4:=eL (x:=V) (n:=n+1) (by rw[hp];exact h1)
 have h5:¬(aD V).length<=n:=by
  intro hle
  have h6:=kt (x:=V)
  have h7:4294967296^(aD V).length<=4294967296^n:=Nat.pow_le_pow_right (by omega) hle
  rw[Nat.pow_succ]at h3
  generalize (4294967296:Nat)^n=P at*
  omega
 omega
theorem y6{t P U q r V Z X B:Nat}(h:t+P*U+V*(P*B*Z)=X)(hU:V*q+r=U):t+P*r+V*(P*(q+B*Z))=X:=by
 rw[←h,←hU,Nat.mul_add P q,Nat.mul_add V,Nat.mul_add P (V*q),Nat.mul_left_comm V P q,←Nat.mul_assoc P B Z]
 omega
end Go.Am
namespace Go.Am
open Go.RowKit
theorem AO{l:List Nat}{n:Nat}(hw:l.length<=n):(List.replicate (n+1) (D.int .u32 0)).take 0++bJ l++(List.replicate (n+1) (D.int .u32 0)).drop (0+l.length)=bJ (l++List.replicate (n+1-l.length) 0):=by
 rw[List.take_zero,List.nil_append,Nat.zero_add,List.drop_replicate];simp[bJ]
theorem Be{l:List Nat}{n:Nat}(hw:l.length<=n):(l++List.replicate (n+1-l.length) 0).take n=l++List.replicate (n-l.length) 0:=by
 rw[List.take_append,List.take_of_length_le hw,List.take_replicate,Nat.min_eq_left (by omega)]
theorem CW(l:List Nat)(n:Nat):val (l++List.replicate n 0)=val l:=by
 rw[j5,mX,Nat.mul_zero,Nat.add_zero]
theorem n0.Gw{us v:List Nat}{i n:Nat}(h:n0 us v i n):val (us.drop i)/val v<4294967296:=by
 have hV:0<val v:=by have:=h.less;omega
 rw[Nat.div_lt_iff_lt_mul hV]
 have hd:us.drop i=us.getD i 0::us.drop (i+1):=by
  rw[List.drop_eq_getElem_cons (by have:=h.fit;omega)];congr 1
  simp[show i<us.length from by have:=h.fit;omega]
 have hl:=bV h.lu i
 have hless:=h.less
 rw[hd,val]
 omega
theorem n0.dec{us v:List Nat}{i p g rest:Nat}(h:n0 us v i (p+2))(hge:val (us.drop i)/val v<=g)(hg:g*v.getD (p+1) 0+rest=us.getD (i+p+2) 0*4294967296+us.getD (i+p+1) 0)
  (ht:4294967296<=g\/rest*4294967296+us.getD (i+p) 0<g*v.getD p 0):val (us.drop i)/val v<g:=by
 rcases ht with ht|ht
 ·have:=h.Gw;omega
 ·exact A9 h.div.1 h.win.2 hg ht (Nat.div_mul_le_self _ _)
theorem n0.da{us v:List Nat}{i p g rest:Nat}(h:n0 us v i (p+2))(hge:val (us.drop i)/val v<=g)(hg:g*v.getD (p+1) 0+rest=us.getD (i+p+2) 0*4294967296+us.getD (i+p+1) 0)
  (hr:4294967296<=rest):Stood us v i p g:=by
 have hgB:=wi hg hr h.top (bV h.lu (i+p+1))
 refine h.stood hge hg ?_ hgB
 have h2:=bV h.lv p
 have h3:g*v.getD p 0<=4294967296*4294967296:=Nat.mul_le_mul (by omega) (by omega)
 have h4:4294967296*4294967296<=rest*4294967296:=Nat.mul_le_mul_right _ hr
 omega
theorem zq{x y n la m p:Nat}(hxl:x<4294967296^la)(hyl:4294967296^n<=y)(hm:n+m=la)(hp:0<p):x*p<y*p*4294967296^m:=by
 have h3:=Nat.mul_le_mul_right (4294967296^m) hyl
 rw[←Nat.pow_add,hm]at h3
 have h4:x<y*4294967296^m:=Nat.lt_of_lt_of_le hxl h3
 rw[Nat.mul_right_comm]
 exact Nat.mul_lt_mul_of_pos_right h4 hp
theorem Dl{us0:List Nat}{V X m:Nat}(h:val us0=X)(hl:m<=us0.length)(hVX:X<V*4294967296^m):val (us0.drop m)<V:=by
 have h1:=eJ us0 m hl
 rw[h]at h1
 have h2:val (us0.drop m)*4294967296^m<V*4294967296^m:=by
  rw[Nat.mul_comm (val _)]
  exact Nat.lt_of_le_of_lt (by rw[h1];exact Nat.le_add_left _ _) hVX
 exact Nat.lt_of_mul_lt_mul_right h2
theorem Ct{x y p a b:Nat}(hp:0<p)(hy:0<y)(h:a+y*p*b=x*p)(hl:a<y*p):b=x/y/\a=(x%y)*p:=by
 have hV:0<y*p:=Nat.mul_pos hy hp
 constructor
 ·have h1:x*p/(y*p)=b:=by rw[←h,Nat.add_mul_div_left _ _ hV,Nat.div_eq_of_lt hl,Nat.zero_add]
  rw[←h1,Nat.mul_div_mul_right _ _ hp]
 ·have h1:x*p%(y*p)=a:=by rw[←h,Nat.add_mul_mod_self_left,Nat.mod_eq_of_lt hl]
  rw[←h1,Nat.mul_mod_mul_right]
theorem Bl{us v:List Nat}{n:Nat}(hn:n<=us.length)(hv:cP v)(hvl:v.length=n)(h:val us<val v):val (us.take n)=val us:=by
 have h1:=eJ us n hn
 have h2:=nu hv
 rw[hvl]at h2
 have h3:val (us.drop n)=0:=by
  rcases Nat.eq_zero_or_pos (val (us.drop n))with h|h
  ·exact h
  ·exfalso
   have h4:=Nat.mul_le_mul_left (4294967296^n) h
   rw[Nat.mul_succ,Nat.mul_zero,Nat.zero_add]at h4
   have h5:4294967296^n*val (us.drop n)<=val us:=by rw[h1];exact Nat.le_add_left _ _
   have h6:=Nat.lt_trans ‹val us<val v› h2
   exact Nat.lt_irrefl _ (Nat.lt_of_le_of_lt (Nat.le_trans h4 h5) h6)
 rw[h1,h3,Nat.mul_zero,Nat.add_zero]
structure uG(la m V X:Nat)(us qs:List Nat)(i:Nat):Prop where
 ul:us.length=la+1
 lu:cP us
 ql:qs.length=m
 lq:cP qs
 im:i<=m
 sum:val us+V*(4294967296^i*val (qs.drop i))=X
 less:val (us.drop i)<V
theorem uG.init{la m V X:Nat}{us:List Nat}(h1:us.length=la+1)(h2:cP us)(h3:val us=X)(h4:val (us.drop m)<V):uG la m V X us (List.replicate m 0) m:=
 ⟨h1,h2,List.length_replicate,gR m,Nat.le_refl _,by rw[List.drop_of_length_le (by simp),h3];simp[val],h4⟩
theorem uG.fin{la m V X x y p:Nat}{us qs v:List Nat}{n:Nat}(h:uG la m V X us qs 0)(hX:x*p=X)(hV:y*p=V)(hp:0<p)(hy:0<y)(hn:n<=us.length)(hv:cP v)(hvl:v.length=n)(hvv:val v=V):
  val qs=x/y/\val (us.take n)=(x%y)*p:=by
 have hless:=h.less
 have hval:=h.sum
 rw[List.drop_zero]at hless
 rw[List.drop_zero,Nat.pow_zero,Nat.one_mul]at hval
 rw[←hX,←hV]at hval
 obtain⟨hq,hr⟩:=Ct hp hy hval (by rw[hV];exact hless)
 have htk:=Bl hn hv hvl (by rw[hvv];exact hless)
 rw[hr]at htk
 exact⟨hq,htk⟩
theorem uG.step{la m V X:Nat}{us qs us':List Nat}{i q:Nat}(h:uG la m V X us qs (i+1))(hlu:cP us')(hl:us'.length=us.length)(hm:val (us'.drop i)=val (us.drop i)%V)(htk:us'.take i=us.take i)(hq:q=val (us.drop i)/V)(hqB:q<4294967296)(hV:0<V)(hiu:i<=us.length):
  uG la m V X us' (qs.set i q) i:=by
 have hiq:i<qs.length:=by have:=h.im;have:=h.ql;omega
 refine⟨by rw[hl];exact h.ul,hlu,by rw[List.length_set];exact h.ql,iu h.lq hqB i,by have:=h.im;omega,?_,?_⟩
 ·have hd:(qs.set i q).drop i=q::qs.drop (i+1):=by
   rw[List.drop_eq_getElem_cons (by rw[List.length_set];exact hiq),List.getElem_set_self,List.drop_set_of_lt (Nat.lt_succ_self i)]
  have h1:=eJ us i hiu
  have h2:=eJ us' i (by omega)
  have h3:=h.sum
  rw[h1,Nat.pow_succ]at h3
  rw[hd,val,h2,htk,hm]
  exact y6 h3 (by rw[hq];exact Nat.div_add_mod _ _)
 ·rw[hm];exact Nat.mod_lt _ hV
theorem FM(x y:Nat)(hy0:y≠0)(hx:(aD x).length<=549755813888)(hy:(aD y).length<=549755813888):kC PP 167 [aj x,aj y] (.iC [aj (x/y),aj (x%y)]):=by
 show kC PP _ [dr (aD x),dr (aD y)] _
 refine .of Go.Proofs.Tryz.func167 rfl (by kernel_rfl) rfl rfl rfl (fun A w0=>?_)
 refine .al (.aq rfl<|.aq rfl<|.nil) rfl (.sq (.block ?_))
 by_cases hlt:x<y
 ·refine .al (.mv rfl<|.mv rfl<|.call (Ar x y (by omega) (by omega)) ⟨rfl,rfl,trivial⟩<|.cm rfl rfl (xw (by rw[tW hlt];decide))<|.aq rfl<|.nil) rfl ?_
  refine .cT rfl (.al (.mv rfl<|.aq rfl<|.aq rfl<|.nil) rfl ?_)
  exact .A2 (fun _ _ h=>h) rfl (.tmp rfl) (.tmp rfl) (.Gg (by rw[Nat.div_eq_of_lt hlt];exact aU) (.of_eq (by rw[Nat.mod_eq_of_lt hlt];rfl))) rfl
 have hyx:y<=x:=Nat.le_of_not_lt hlt
 refine .al (.mv rfl<|.mv rfl<|.call (Ar x y (by omega) (by omega)) ⟨rfl,rfl,trivial⟩<|.cm rfl rfl (w_ (vT hyx))<|.aq rfl<|.nil) rfl ?_
 refine .cF rfl ?_
 by_cases h1:(aD y).length=1
 ·obtain⟨hyb,_,hyd⟩:=Bv h1
  refine .al (.mv rfl<|.ln rfl av<|.cm rfl rfl (F0 (by omega))<|.aq rfl<|.nil) rfl ?_
  refine .cT rfl (.al (.mv rfl<|.mv rfl<|.oX rfl rfl ay (by omega) (by omega) (bp (i:=0) (d:=y) (by rw[hyd];rfl))<|.gC rfl aN<|.call (yr x y hy0 hyb (by omega)) ⟨rfl,rfl,trivial⟩<|.ext rfl rfl<|.ext rfl rfl<|.aq rfl<|.aq rfl<|.nil) rfl ?_)
  exact .A2 (fun _ _ h=>h) rfl (.tmp rfl) (.tmp rfl) (.refl _) rfl
 refine .al (.mv rfl<|.ln rfl av<|.cm rfl rfl (Fm (by omega))<|.aq rfl<|.nil) rfl ?_
 refine .cF rfl (.skip (Ok.on ?_))
 obtain⟨p,hp⟩:∃p,(aD y).length=p+2:=⟨(aD y).length-2,by have:=cD hy0;omega⟩
 have htop:(aD y)[p+1]?=some ((aD y).getD (p+1) 0):=getD_some (by omega)
 have hdl:=bV (cG y) (p+1)
 generalize (aD y).getD (p+1) 0=d at htop hdl
 have hb32:bA d<=32:=dI (n:=32) hdl
 obtain⟨hbig,hvl⟩:=Ca (n:=p+1) hp htop hy0 hb32
 have hsub1:nM .sub .i64 (((aD y).length:Nat):Int) 1=some ((p+1:Nat):Int):=by rw[jQ (by omega)];congr 1;omega
 refine .al (.mv rfl<|.mv rfl<|.ln rfl av<|.ar rfl rfl hsub1<|.oX rfl rfl ay (by omega) (by omega) (bp (i:=p+1) (d:=d) htop)<|.gC rfl aN<|.call (pw d hdl) ⟨rfl,trivial⟩<|.aq rfl<|.nil) rfl ?_
 have hkl:32-bA d<35184372088832:=by omega
 have hk32:32-bA d<=32:=by omega
 generalize 32-bA d=k at hbig hvl hkl hk32
 have hpk:2^k<=4294967296:=Nat.le_trans (Nat.pow_le_pow_right (by decide) hk32) (by decide)
 have hXlt:x*2^k<4294967296^((aD x).length+1):=by
  rw[Nat.pow_succ]
  exact Nat.mul_lt_mul_of_lt_of_le kt hpk (by decide)
 have hAl:(aD (x*2^k)).length<=(aD x).length+1:=eL hXlt
 have hXlt':=hXlt
 refine .al (.mv rfl<|.mv rfl<|.call (A4 y k (by omega) hkl) ⟨rfl,rfl,trivial⟩<|.aq rfl<|.nil) rfl ?_
 refine .sub [(0,aj x),(1,aj y),(6,.int .i64 (k:Nat)),(7,dr (aD (y*2^k)))] [] (dh rfl) (iX rfl) rfl rfl ?_
 have hvv:=dE (y*2^k)
 have hvo:=cG (y*2^k)
 generalize aD (y*2^k)=v at hvl hvv hvo
 have hvl:v.length=p+2:=hvl
 have hln:nM .sub .i64 (((aD x).length:Nat):Int) ((p+1+1:Nat):Int)=some ((((aD x).length-(p+2):Nat)):Int):=oL (by have:=jh hyx;omega) (by omega)
 have hnx:p+2<=(aD x).length:=by have:=jh hyx;omega
 refine .al (.mv rfl<|.ln rfl av<|.aq rfl<|.nil) rfl ?_
 refine .sub [(0,dr (aD x)),(6,.int .i64 (k:Nat)),(7,dr v),(8,.int .i64 ((p+2:Nat)))] [] ⟨⟨_,rfl,.refl _⟩,⟨_,rfl,.refl _⟩,⟨_,rfl,.refl _⟩,⟨_,rfl,.of_eq (by rw[hvl])⟩,trivial⟩ (iX rfl) rfl rfl ?_
 refine .al (.mv rfl<|.ln rfl av<|.ar rfl rfl (dD (d:=2) (by omega))<|.E1 rfl rfl dz rfl (by omega) (by omega) rfl<|.aq rfl<|.nil) rfl ?_
 have hKx:kC PP 166 [dr (aD x),.int .i64 (k:Nat)] (dr (aD (x*2^k))):=A4 x k (by omega) hkl
 refine .al (.mv rfl<|.mv rfl<|.mv rfl<|.call hKx ⟨rfl,rfl,trivial⟩<|.Hc rfl rfl rfl dz (by simp;try omega)<|.nil) rfl ?_
 have hcopy:=AO hAl
 have hpt:=Be hAl
 have hpv:=CW (aD (x*2^k)) ((aD x).length+1-(aD (x*2^k)).length)
 have hplo:cP (aD (x*2^k)++List.replicate ((aD x).length+1-(aD (x*2^k)).length) 0):=jq (cG _) (gR _)
 rw[dE]at hpv
 have hpl:(aD (x*2^k)++List.replicate ((aD x).length+1-(aD (x*2^k)).length) 0).length=(aD x).length+1:=by rw[List.length_append,List.length_replicate];omega
 have hpl2:(aD (x*2^k)++List.replicate ((aD x).length+1+1-(aD (x*2^k)).length) 0).length=(aD x).length+2:=by rw[List.length_append,List.length_replicate];omega
 refine .sub [(0,dr (aD x)),(6,.int .i64 (k:Nat)),(7,dr v),(8,.int .i64 ((p+2:Nat))),(9,.own 47)] [(47,.row 1 230 (bJ (aD (x*2^k)++List.replicate ((aD x).length+1+1-(aD (x*2^k)).length) 0)) (aL _))] (dh rfl) ⟨⟨_,rfl,.of_eq (dG hcopy)⟩,trivial⟩ rfl rfl ?_
 generalize aD (x*2^k)++List.replicate ((aD x).length+1-(aD (x*2^k)).length) 0=us0 at hpt hpv hplo hpl
 generalize aD (x*2^k)++List.replicate ((aD x).length+1+1-(aD (x*2^k)).length) 0=us1 at hpt hpl2
 refine .al (.mv rfl<|.mv rfl<|.ln rfl av<|.ar rfl rfl (fo (by omega))<|.G_ (n:=(aD x).length+2) (m':=1) rfl rfl rfl ay (by rw[bG,hpl2];omega) rfl rfl (by omega) (by omega) (by omega)<|.aq rfl<|.nil) rfl ?_
 refine .FE 9 200 (n:=(aD x).length+1) (m':=1) rfl rfl rfl (by rw[bG,hpl2];omega) rfl (by rw[bG,hpl2];omega) ?_
 refine .sub [(0,dr (aD x)),(6,.int .i64 (k:Nat)),(7,dr v),(8,.int .i64 ((p+2:Nat))),(9,.own 200)] [(200,.row 1 230 (bJ us0) (aL _))] (dh rfl) ⟨⟨_,rfl,.of_eq (dG (by rw[Nat.mul_one,ts,hpt]))⟩,trivial⟩ rfl rfl ?_
 refine .al (.mv rfl<|.ln rfl av<|.mv rfl<|.ar rfl rfl hln<|.ar rfl rfl (fo (by omega))<|.E1 rfl rfl dz rfl (by omega) (by omega) rfl<|.aq rfl<|.nil) rfl ?_
 refine .sq ?_
 refine .al (.mv rfl<|.Fh (n:=(aD x).length-(p+2)+1) (m':=1) rfl rfl av (by simp) rfl rfl<|.ar rfl rfl (jQ (by omega))<|.aq rfl<|.nil) rfl ?_
 generalize hm:(aD x).length-(p+2)+1=m
 generalize hX:x*2^k=X at hpv
 have hbig':=hbig
 generalize hV:y*2^k=V at hvv hbig'
 have hpk0:0<2^k:=Nat.two_pow_pos k
 have hVX:X<V*4294967296^m:=by
  rw[←hX,←hV]
  exact zq kt (qv hy0) (by omega) hpk0
 have hini:val (us0.drop m)<V:=Dl hpv (by omega) hVX
 have hI0:uG (aD x).length m V X us0 (List.replicate m 0) m:=.init hpl hplo hpv hini
 refine .block (.loop (ι:={s:List Nat×List Nat×Nat//uG (aD x).length m V X s.1 s.2.1 s.2.2})
  (fun s=>[(6,.int .i64 (k:Nat)),(7,dr v),(8,.int .i64 ((p+2:Nat))),(9,.own 200),(10,.own 63),(11,.int .i64 ((s.1.2.2:Nat)-1))]) (fun s=>[(200,.row 1 230 (bJ s.1.1) (aL _)),(63,.row 1 230 (bJ s.1.2.1) (aL _))]) (fun s=>s.1.2.2)
  ⟨(us0,List.replicate m 0,m),hI0⟩ (dh rfl) ⟨⟨_,rfl,.refl _⟩,⟨_,rfl,.of_eq (dG (by simp[bJ]))⟩,trivial⟩ rfl rfl ?_)
 rintro⟨⟨us,qs,i1⟩,hI⟩
 simp only at hI
 show Ok PP _ [(6,.int .i64 (k:Nat)),(7,dr v),(8,.int .i64 ((p+2:Nat))),(9,.own 200),(10,.own 63),(11,.int .i64 ((i1:Nat)-1))] [(200,.row 1 230 (bJ us) (aL _)),(63,.row 1 230 (bJ qs) (aL _))] _ _
 have hul:=hI.ul
 have hql:=hI.ql
 refine .sq ?_
 cases i1 with
 |zero=>
  refine .al (.mv rfl<|.cm rfl rfl (b:=false) (by simp[dq])<|.nil) rfl ?_
  refine .cF rfl (.exit (Ok.on ?_))
  obtain⟨hq,hr⟩:=hI.fin hX hV hpk0 (Nat.pos_of_ne_zero hy0) (n:=p+2) (by omega) hvo hvl hvv
  have hltk:cP (us.take (p+2)):=k_ hI.lu _
  have zQ:=hI.lq
  refine .rT (n:=m) (m':=1) 10 rfl rfl (by rw[bG,hql];omega) rfl rfl ?_
  refine .rT (n:=(aD x).length+1) (m':=1) 9 rfl rfl (by rw[bG,hul];omega) rfl rfl ?_
  refine .sub [(6,.int .i64 (k:Nat)),(8,.int .i64 ((p+2:Nat))),(9,dr us),(10,dr qs)] [] ⟨⟨_,rfl,.refl _⟩,⟨_,rfl,.refl _⟩,⟨_,rfl,.of_eq (mg hul.symm rfl)⟩,⟨_,rfl,.of_eq (mg hql.symm rfl)⟩,trivial⟩ trivial rfl rfl ?_
  have hKn:kC PP 210 [dr (us.take (p+2))] (aj (x%y*2^k)):=by rw[←hr];exact lF _ hltk (by rw[List.length_take];omega)
  have hKq:kC PP 210 [dr qs] (aj (x/y)):=by rw[←hq];exact lF _ zQ (by omega)
  have hrl:(aD (x%y*2^k)).length<=1099511627776:=by
   have h1:x%y*2^k<4294967296^((aD x).length+1):=by
    refine Nat.lt_of_le_of_lt (Nat.mul_le_mul_right _ (Nat.mod_le x y)) hXlt'
   have:=eL h1
   omega
  have hsl:∀h,D.iS ((p+2:Nat):Int).toNat 1 ((bJ us).take (((p+2:Nat):Int).toNat*1)) h=dr (us.take (p+2)):=fun h=>mg (by rw[Int.toNat_natCast,List.length_take];omega) (by rw[Int.toNat_natCast,Nat.mul_one,ts])
  have hKs:=DU (x%y*2^k) k hrl (by omega)
  rw[Nat.mul_div_cancel _ hpk0]at hKs
  refine .dc cg (.mv rfl<|.call hKq ⟨rfl,trivial⟩<|.mv rfl<|.mv rfl<|.GH rfl rfl ay (by omega) (by omega)<|.call hKn ⟨congrArg some (hsl _),trivial⟩<|.mv rfl<|.call hKs ⟨rfl,rfl,trivial⟩<|.aq rfl<|.aq rfl<|.nil) rfl (by kernel_rfl) ?_
  exact .C9 rfl (.tmp rfl) (.tmp rfl) (.refl _) rfl
 |succ i=>
  have hvl':v.length=p+2:=hvl
  have dt:i+(p+2)<us.length:=by have:=hI.im;rw[hul];omega
  have hW:n0 us v i (p+2):=⟨by omega,hvl,hvo,hI.lu,dt,by rw[hvv];exact hbig',by rw[hvv];exact hI.less⟩
  have hiq:i<qs.length:=by have:=hI.im;omega
  refine .al (.mv rfl<|.cm rfl rfl (b:=true) (by simp[dq];try omega)<|.nil) rfl ?_
  refine .cT rfl (.skip (Ok.on (.sq (.block ?_))))
  rw[show((i+1:Nat):Int)-1=i by omega]
  have g0:us[i+p]?=some (us.getD (i+p) 0):=getD_some (by omega)
  have g1:us[i+p+1]?=some (us.getD (i+p+1) 0):=getD_some (by omega)
  have g2:us[i+(p+2)]?=some (us.getD (i+p+2) 0):=getD_some (by omega)
  have gv1:v[p+1]?=some (v.getD (p+1) 0):=getD_some (by omega)
  have gv2:v[p]?=some (v.getD p 0):=getD_some (by omega)
  have l0:=bV hI.lu (i+p)
  have l1:=bV hI.lu (i+p+1)
  have l2:=bV hI.lu (i+p+2)
  have lv1:=bV hvo (p+1)
  have lv2:=bV hvo p
  have hv1p:2147483648<=v.getD (p+1) 0:=hW.size.2
  have hwdec:=@n0.dec us v i p
  have hwbrk:=@n0.da us v i p
  have hwst:=@n0.stood us v i p
  have hwge:=fun q h=>n0.ge (q:=q) hW h
  generalize hu0:us.getD (i+p) 0=u0 at*
  generalize hu1:us.getD (i+p+1) 0=u1 at*
  generalize hu2:us.getD (i+p+2) 0=u2 at*
  generalize hv1:v.getD (p+1) 0=v1 at*
  generalize hv2:v.getD p 0=v2 at*
  have hrl:(bJ us).length=((aD x).length+1)*1:=by rw[bG,hul];omega
  have s1:nM .sub .i64 ((i+(p+2):Nat):Int) 1=some ((i+p+1:Nat):Int):=by rw[jQ (by omega)];congr 1;omega
  have s2:nM .sub .i64 ((i+(p+2):Nat):Int) 2=some ((i+p:Nat):Int):=by rw[show(2:Int)=((2:Nat):Int)from rfl,oL (by omega) (by omega)];congr 2
  have s3:nM .sub .i64 ((p+2:Nat):Int) 1=some ((p+1:Nat):Int):=by rw[jQ (by omega)];congr 1;omega
  have s4:nM .sub .i64 ((p+2:Nat):Int) 2=some ((p:Nat):Int):=by rw[show(2:Int)=((2:Nat):Int)from rfl,oL (by omega) (by omega)];congr 2
  refine .dc cg (.mv rfl<|.mv rfl<|.mv rfl<|.ar rfl rfl (dD (n:=i) (d:=p+2) (by omega))<|.o0 (n:=(aD x).length+1) (m':=1) rfl rfl rfl ay hrl rfl rfl (by omega) (by omega)<|.wI rfl rfl aN (d:=.int .u32 u2) (by rw[Int.toNat_natCast,Nat.mul_one];exact bp g2)<|.cv rfl bq (bP (by omega))<|.sh rfl rfl (xL (n:=u2) l2)<|
   .mv rfl<|.mv rfl<|.mv rfl<|.ar rfl rfl (dD (n:=i) (d:=p+2) (by omega))<|.ar rfl rfl s1<|.o0 (n:=(aD x).length+1) (m':=1) rfl rfl rfl ay hrl rfl rfl (by omega) (by omega)<|.wI rfl rfl aN (d:=.int .u32 u1) (by rw[Int.toNat_natCast,Nat.mul_one];exact bp g1)<|.cv rfl bq (bP (by omega))<|.ar rfl rfl (ua l2 l1)<|.aq rfl<|.nil) rfl (by kernel_rfl) ?_
  have htwo:u2*4294967296+u1<18446744073709551616:=by omega
  refine .dc cg (.mv rfl<|.mv rfl<|.mv rfl<|.ar rfl rfl s3<|.oX rfl rfl ay (by omega) (by omega) (bp (i:=p+1) (d:=v1) gv1)<|.gC rfl aN<|.cv rfl bq (bP (by omega))<|.ar rfl rfl (AG (n:=u2*4294967296+u1) (d:=v1) (by omega) htwo)<|
   .mv rfl<|.mv rfl<|.mv rfl<|.ar rfl rfl s3<|.oX rfl rfl ay (by omega) (by omega) (bp (i:=p+1) (d:=v1) gv1)<|.gC rfl aN<|.cv rfl bq (bP (by omega))<|.ar rfl rfl (tO (n:=u2*4294967296+u1) (d:=v1) (by omega))<|.aq rfl<|.aq rfl<|.nil) rfl (by kernel_rfl) ?_
  have hVpos:0<val v:=by have:=hW.less;omega
  have hge0:val (us.drop i)/val v<=(u2*4294967296+u1)/v1:=wO (hwge _ (Nat.div_mul_le_self _ _)) (by omega)
  have hst0:(u2*4294967296+u1)/v1*v1+(u2*4294967296+u1)%v1=u2*4294967296+u1:=by rw[Nat.mul_comm];exact Nat.div_add_mod _ _
  have hr0:(u2*4294967296+u1)%v1<4294967296:=Nat.lt_trans (Nat.mod_lt _ (by omega)) lv1
  generalize (u2*4294967296+u1)/v1=gu0 at hge0 hst0|-
  generalize (u2*4294967296+u1)%v1=re0 at hr0 hst0|-
  refine .rS (ι:={g:Nat//Stood us v i p g}) (fun g=>[(6,.int .i64 (k:Nat)),(7,dr v),(8,.int .i64 ((p+2:Nat))),(9,.own 200),(10,.own 63),(11,.int .i64 (i:Nat)),(13,.int .u64 (g.1:Nat))]) (fun _=>[(200,.row 1 230 (bJ us) (aL _)),(63,.row 1 230 (bJ qs) (aL _))]) ?_ ?_
  ·refine .block (.loop (ι:={s:Nat×Nat//val (us.drop i)/val v<=s.1/\s.1*v1+s.2=u2*4294967296+u1/\s.2<4294967296})
    (fun s=>[(6,.int .i64 (k:Nat)),(7,dr v),(8,.int .i64 ((p+2:Nat))),(9,.own 200),(10,.own 63),(11,.int .i64 (i:Nat)),(13,.int .u64 (s.1.1:Nat)),(14,.int .u64 (s.1.2:Nat))]) (fun _=>[(200,.row 1 230 (bJ us) (aL _)),(63,.row 1 230 (bJ qs) (aL _))]) (fun s=>s.1.1)
    ⟨(gu0,re0),hge0,hst0,hr0⟩ (dh rfl) (iX rfl) rfl rfl ?_)
   rintro⟨⟨g,re⟩,hge,hgr,hre⟩
   simp only at hge hgr hre
   show Ok PP _ [(6,.int .i64 (k:Nat)),(7,dr v),(8,.int .i64 ((p+2:Nat))),(9,.own 200),(10,.own 63),(11,.int .i64 (i:Nat)),(13,.int .u64 (g:Nat)),(14,.int .u64 (re:Nat))] [(200,.row 1 230 (bJ us) (aL _)),(63,.row 1 230 (bJ qs) (aL _))] _ _
   have hgm:g<=g*v1:=Nat.le_mul_of_pos_right _ (by omega)
   have hg64:g<18446744073709551616:=by omega
   refine .rS (ι:={_u:Unit//4294967296<=g\/re*4294967296+u0<g*v2}) (fun _=>[(6,.int .i64 (k:Nat)),(7,dr v),(8,.int .i64 ((p+2:Nat))),(9,.own 200),(10,.own 63),(11,.int .i64 (i:Nat)),(13,.int .u64 (g:Nat)),(14,.int .u64 (re:Nat))]) (fun _=>[(200,.row 1 230 (bJ us) (aL _)),(63,.row 1 230 (bJ qs) (aL _))]) ?_ ?_
   ·by_cases hgB:4294967296<=g
    ·refine .dc cg (.mv rfl<|.cm rfl rfl (D6 (by omega))<|.mv rfl<|.eQ rfl rfl rfl rfl<|.eQ rfl rfl rfl rfl<|.eQ rfl rfl rfl rfl<|.eQ rfl rfl rfl rfl<|.eQ rfl rfl rfl rfl<|.eQ rfl rfl rfl rfl<|.eQ rfl rfl rfl rfl<|.eQ rfl rfl rfl rfl<|.eQ rfl rfl rfl rfl<|.eQ rfl rfl rfl rfl<|.eQ rfl rfl rfl rfl<|.eQ rfl rfl rfl rfl<|.eQ rfl rfl rfl rfl<|.eQ rfl rfl rfl rfl<|.eQ rfl rfl rfl rfl<|.eQ rfl rfl rfl rfl<|.eQ rfl rfl rfl rfl<|.eQ rfl rfl rfl rfl<|.eQ rfl rfl rfl rfl<|.eQ rfl rfl rfl rfl<|.bn rfl rfl rfl<|.nil) rfl (by kernel_rfl) ?_
     exact .cT rfl (.skip fun _ _ hs=>hs.to ⟨(),.inl hgB⟩ (dh rfl) (iX rfl) rfl rfl)
    ·have hprod:g*v2<18446744073709551616:=by
      have:g*v2<=4294967295*4294967295:=Nat.mul_le_mul (by omega) (by omega)
      omega
     have hng:¬(false=true):=by decide
     by_cases ht:re*4294967296+u0<g*v2
     ·refine .dc cg (.mv rfl<|.cm rfl rfl (Cf (by omega))<|.mv rfl<|.dn rfl rfl rfl hng<|.mv rfl<|.dn rfl rfl rfl hng<|.mv rfl<|.dn rfl rfl rfl hng<|.mv rfl<|.dn rfl rfl rfl hng<|.ar rfl rfl s4<|.dn rfl rfl rfl hng<|.oX rfl rfl ay (by omega) (by omega) (bp (i:=p) (d:=v2) gv2)<|.dn rfl rfl rfl hng<|.gC rfl aN<|.dn rfl rfl rfl hng<|.cv rfl bq (bP (by omega))<|.dn rfl rfl rfl hng<|.ar rfl rfl (qM (n:=g) (d:=v2) hprod)<|
       .dn rfl rfl rfl hng<|.mv rfl<|.dn rfl rfl rfl hng<|.sh rfl rfl (xL (n:=re) hre)<|.dn rfl rfl rfl hng<|.mv rfl<|.dn rfl rfl rfl hng<|.mv rfl<|.dn rfl rfl rfl hng<|.mv rfl<|.dn rfl rfl rfl hng<|.ar rfl rfl (dD (n:=i) (d:=p+2) (by omega))<|.dn rfl rfl rfl hng<|.ar rfl rfl s2<|.dn rfl rfl rfl hng<|.o0 (n:=(aD x).length+1) (m':=1) rfl rfl rfl ay hrl rfl rfl (by omega) (by omega)<|.dn rfl rfl rfl hng<|.wI rfl rfl aN (d:=.int .u32 u0) (by rw[Int.toNat_natCast,Nat.mul_one];exact bp g0)<|.dn rfl rfl rfl hng<|.cv rfl bq (bP (by omega))<|.dn rfl rfl rfl hng<|.ar rfl rfl (ua hre l0)<|.dn rfl rfl rfl hng<|.cm rfl rfl (Ev (by omega))<|.bm rfl hng rfl<|.nil) rfl (by kernel_rfl) ?_
      exact .cT rfl (.skip fun _ _ hs=>hs.to ⟨(),.inr ht⟩ (dh rfl) (iX rfl) rfl rfl)
     ·refine .dc cg (.mv rfl<|.cm rfl rfl (Cf (by omega))<|.mv rfl<|.dn rfl rfl rfl hng<|.mv rfl<|.dn rfl rfl rfl hng<|.mv rfl<|.dn rfl rfl rfl hng<|.mv rfl<|.dn rfl rfl rfl hng<|.ar rfl rfl s4<|.dn rfl rfl rfl hng<|.oX rfl rfl ay (by omega) (by omega) (bp (i:=p) (d:=v2) gv2)<|.dn rfl rfl rfl hng<|.gC rfl aN<|.dn rfl rfl rfl hng<|.cv rfl bq (bP (by omega))<|.dn rfl rfl rfl hng<|.ar rfl rfl (qM (n:=g) (d:=v2) hprod)<|
       .dn rfl rfl rfl hng<|.mv rfl<|.dn rfl rfl rfl hng<|.sh rfl rfl (xL (n:=re) hre)<|.dn rfl rfl rfl hng<|.mv rfl<|.dn rfl rfl rfl hng<|.mv rfl<|.dn rfl rfl rfl hng<|.mv rfl<|.dn rfl rfl rfl hng<|.ar rfl rfl (dD (n:=i) (d:=p+2) (by omega))<|.dn rfl rfl rfl hng<|.ar rfl rfl s2<|.dn rfl rfl rfl hng<|.o0 (n:=(aD x).length+1) (m':=1) rfl rfl rfl ay hrl rfl rfl (by omega) (by omega)<|.dn rfl rfl rfl hng<|.wI rfl rfl aN (d:=.int .u32 u0) (by rw[Int.toNat_natCast,Nat.mul_one];exact bp g0)<|.dn rfl rfl rfl hng<|.cv rfl bq (bP (by omega))<|.dn rfl rfl rfl hng<|.ar rfl rfl (ua hre l0)<|.dn rfl rfl rfl hng<|.cm rfl rfl (EY (by omega))<|.bm rfl hng rfl<|.nil) rfl (by kernel_rfl) ?_
      have hS:Stood us v i p g:=hwst hW hge hgr (by omega) (by omega)
      exact .cF rfl (.exit fun _ _ hs=>hs.to ⟨g,hS⟩ (dh rfl) (iX rfl) rfl rfl)
   ·rintro⟨_,ht⟩
    have hlt:val (us.drop i)/val v<g:=hwdec hW hge hgr ht
    have hgpos:0<g:=Nat.lt_of_le_of_lt (Nat.zero_le _) hlt
    have hge2:val (us.drop i)/val v<=g-1:=Nat.le_sub_one_of_lt hlt
    have hnx:=xm hgr hgpos
    show Ok PP _ [(6,.int .i64 (k:Nat)),(7,dr v),(8,.int .i64 ((p+2:Nat))),(9,.own 200),(10,.own 63),(11,.int .i64 (i:Nat)),(13,.int .u64 (g:Nat)),(14,.int .u64 (re:Nat))] [(200,.row 1 230 (bJ us) (aL _)),(63,.row 1 230 (bJ qs) (aL _))] _ _
    have s5:nM .sub .u64 (g:Int) 1=some ((g-1:Nat):Int):=congrArg some (wrap_u64 (by omega) (by omega))
    refine .block ?_
    refine .al (.mv rfl<|.ar rfl rfl s5<|.aq rfl<|.nil) rfl ?_
    refine .al (.mv rfl<|.mv rfl<|.mv rfl<|.ar rfl rfl s3<|.oX rfl rfl ay (by omega) (by omega) (bp (i:=p+1) (d:=v1) gv1)<|.gC rfl aN<|.cv rfl bq (bP (by omega))<|.ar rfl rfl (qN (n:=re) (d:=v1) (by omega))<|.aq rfl<|.nil) rfl ?_
    by_cases hbk:4294967296<=re+v1
    ·refine .al (.mv rfl<|.cm rfl rfl (D6 (by omega))<|.nil) rfl ?_
     have hS:Stood us v i p (g-1):=hwbrk hW hge2 hnx hbk
     exact .cT rfl (.exit fun _ _ hs=>hs.to ⟨g-1,hS⟩ (dh rfl) (iX rfl) rfl rfl)
    ·refine .al (.mv rfl<|.cm rfl rfl (Cf (by omega))<|.nil) rfl ?_
     exact .cF rfl (.skip fun _ _ hs=>hs.round (m:=g) ⟨(g-1,re+v1),hge2,hnx,by omega⟩ (by simp only;omega) (dh rfl) (iX rfl) rfl rfl)
  ·rintro⟨g,hst⟩
   show Ok PP _ [(6,.int .i64 (k:Nat)),(7,dr v),(8,.int .i64 ((p+2:Nat))),(9,.own 200),(10,.own 63),(11,.int .i64 (i:Nat)),(13,.int .u64 (g:Nat))] [(200,.row 1 230 (bJ us) (aL _)),(63,.row 1 230 (bJ qs) (aL _))] _ _
   have hgl:g<4294967296:=hst.lt
   have hilv:i+v.length<us.length:=by rw[hvl'];exact dt
   have humax:us.length<=2199023255552:=by rw[hul];omega
   have hKt:=Er us v g i hI.lu hvo hgl hilv humax
   have htl:=sX us v g i
   have htk:=xn (us:=us) (v:=v) (t:=g) (i:=i) (by omega)
   have hto:=wH (v:=v) (t:=g) (i:=i) hI.lu
   refine .rS (ι:={s:List Nat×Nat//s.2=val (us.drop i)/V/\cP s.1/\s.1.length=us.length/\val (s.1.drop i)=val (us.drop i)%V/\s.1.take i=us.take i}) (fun s=>[(6,.int .i64 (k:Nat)),(7,dr v),(8,.int .i64 ((p+2:Nat))),(9,.own 200),(10,.own 63),(11,.int .i64 (i:Nat)),(13,.int .u64 (s.1.2:Nat))]) (fun s=>[(200,.row 1 230 (bJ s.1.1) (aL _)),(63,.row 1 230 (bJ qs) (aL _))]) ?_ ?_
   ·rcases n0.step hW hst with⟨b0,hq,hmod⟩|⟨b1,hq,hmod⟩
    ·rw[show(ig g v 0 0 (us.drop i) !=0)=false from by rw[b0];rfl]at hKt
     rw[hvv]at hq hmod
     refine .al (.mv rfl<|.mv rfl<|.mv rfl<|.mv rfl<|.BX (hl:=aL us) (hl':=aL (taken us v g i)) hKt rfl ⟨rfl,rfl,rfl,trivial⟩ rfl<|.nil) rfl ?_
     exact .cF rfl (.skip fun _ _ hs=>hs.to ⟨(taken us v g i,g),hq,hto,htl,hmod,htk⟩ (dh rfl) (iX rfl) rfl rfl)
    ·rw[show(ig g v 0 0 (us.drop i) !=0)=true from by rw[b1];rfl]at hKt
     rw[hvv]at hq hmod
     have hgpos:0<g:=by rw[hq];exact Nat.succ_pos _
     have s5:nM .sub .u64 (g:Int) 1=some ((g-1:Nat):Int):=congrArg some (wrap_u64 (by omega) (by omega))
     have hKg:=ER (taken us v g i) v i hto hvo (by rw[htl];exact hilv) (by rw[htl];exact humax)
     have hgk:=yN (taken us v g i) v i
     have hgt:=xB (us:=taken us v g i) (v:=v) (i:=i) (by omega)
     have hgo:=xc (v:=v) (i:=i) hto
     refine .al (.mv rfl<|.mv rfl<|.mv rfl<|.mv rfl<|.BX (hl:=aL us) (hl':=aL (taken us v g i)) hKt rfl ⟨rfl,rfl,rfl,trivial⟩ rfl<|.nil) rfl ?_
     refine .cT rfl ?_
     refine .al (.mv rfl<|.ar rfl rfl s5<|.aq rfl<|.nil) rfl ?_
     refine .region (.mv rfl<|.mv rfl<|.mv rfl<|.BX (hl:=aL (taken us v g i)) (hl':=aL (given (taken us v g i) v i)) hKg rfl ⟨rfl,rfl,trivial⟩ rfl<|.nil) rfl fun _ _ hs=>?_
     exact hs.to ⟨(given (taken us v g i) v i,g-1),by simp only;rw[hq];rfl,hgo,by simp only;rw[hgk,htl],hmod,by simp only;rw[hgt,htk]⟩ (dh rfl) (iX rfl) rfl rfl
   ·rintro⟨⟨us',q⟩,hq,hlu',hlen',hmod,htk'⟩
    simp only at hq hlu' hlen' hmod htk'
    show Ok PP _ [(6,.int .i64 (k:Nat)),(7,dr v),(8,.int .i64 ((p+2:Nat))),(9,.own 200),(10,.own 63),(11,.int .i64 (i:Nat)),(13,.int .u64 (q:Nat))] [(200,.row 1 230 (bJ us') (aL _)),(63,.row 1 230 (bJ qs) (aL _))] _ _
    have hqB:q<4294967296:=by rw[hq,←hvv];exact hW.Gw
    have hVp:0<V:=by rw[←hvv];exact Nat.lt_of_le_of_lt (Nat.zero_le _) hW.less
    have hD:=hI.step hlu' hlen' hmod htk' hq hqB hVp (by omega)
    have hqrl:(bJ qs).length=m*1:=by rw[bG,hql];omega
    have him:i<m:=by rw[←hql];exact hiq
    have hmx:m<9223372036854775808:=by omega
    have hix:i<9223372036854775808:=by omega
    refine .region (.mv rfl<|.mv rfl<|.mv rfl<|.cv rfl dW (fJ hqB)<|.o0 (n:=m) (m':=1) rfl rfl rfl ay hqrl rfl rfl (by omega) (by omega)<|.xQ rfl rfl rfl aN rfl rfl (by rw[hqrl];omega)<|.nil) rfl fun _ _ hs=>?_
    refine Ok.on ?_ _ _ hs
    refine .region (.mv rfl<|.ar rfl rfl (jQ hix)<|.aq rfl<|.nil) rfl fun _ _ hs=>?_
    exact hs.round (m:=i+1) ⟨(us',qs.set i q,i),hD⟩ (by simp) (dh rfl) ⟨⟨_,rfl,.refl _⟩,⟨_,rfl,.of_eq (dG (eM ..))⟩,trivial⟩ rfl rfl
end Go.Am
namespace Go.Am
open Go.RowKit
def sm(x:Nat):Prop:=bA x<=4398046511104
instance (x:Nat):Decidable (sm x):=inferInstanceAs (Decidable (bA x<=4398046511104))
theorem kG(x:Nat):(aD x).length<=bA x/32+1:=by
 refine eL ?_
 have h1:=lD x
 have h2:(2:Nat)^bA x<=2^(32*(bA x/32+1)):=Nat.pow_le_pow_right (by omega) (by omega)
 rw[Nat.pow_mul]at h2
 exact Nat.lt_of_lt_of_le h1 h2
theorem Df{x:Nat}(h:sm x):(aD x).length<=549755813888:=by
 have:=kG x
 unfold sm at h
 omega
theorem f_{x:Nat}(h:sm x):(aD x).length<=1099511627776:=by have:=Df h;omega
def lN(n:Int):Option Nat:=bZ (0<=n/\n<18446744073709551616) (some n.toNat)
theorem sA{a:Int}{r:Nat}(h:lN a=some r):aS PP 145 [] [D.int .u64 a] [] (aj r):=by
 obtain⟨⟨h0,h1⟩,h⟩:=aw h
 injection h with h;subst h
 have:=qp a.toNat (by omega)
 rw[Int.toNat_of_nonneg h0]at this
 exact this.gen
def tB(a b:Nat):Option Nat:=bZ (sm a/\sm b) (some (a+b))
theorem yd{a b r:Nat}(h:tB a b=some r):aS PP 212 [] [aj a,aj b] [] (aj r):=by
 obtain⟨⟨h0,h1⟩,h⟩:=aw h
 injection h with h;subst h
 exact(DP a b (f_ h0) (f_ h1)).gen
def wb(a b:Nat):Option Nat:=bZ (b<=a/\sm a) (some (a-b))
theorem BB{a b r:Nat}(h:wb a b=some r):aS PP 215 [] [aj a,aj b] [] (aj r):=by
 obtain⟨⟨h0,h1⟩,h⟩:=aw h
 injection h with h;subst h
 exact(Fp a b h0 (f_ h1)).gen
def ow(a b:Nat):Option Nat:=bZ (sm a/\sm b) (some (a*b))
theorem so{a b r:Nat}(h:ow a b=some r):aS PP 150 [] [aj a,aj b] [] (aj r):=by
 obtain⟨⟨h0,h1⟩,h⟩:=aw h
 injection h with h;subst h
 exact(DT a b (f_ h0) (f_ h1)).gen
def sI(a b:Nat):Option Int:=bZ (sm a/\sm b) (some (fg a b))
theorem xO{a b:Nat}{r:Int}(h:sI a b=some r):aS PP 224 [] [aj a,aj b] [] (D.int .i64 r):=by
 obtain⟨⟨h0,h1⟩,h⟩:=aw h
 injection h with h;subst h
 exact(Ar a b (f_ h0) (f_ h1)).gen
def xo(a:Nat):Option Int:=bZ (sm a) (some (bA a:Int))
theorem En{a:Nat}{r:Int}(h:xo a=some r):aS PP 186 [] [aj a] [] (D.int .i64 r):=by
 obtain⟨h0,h⟩:=aw h
 injection h with h;subst h
 exact(EI a (f_ h0)).gen
def lO(a:Nat):Option Int:=bZ ((aD a).length<=2) (some (a:Int))
theorem uy{a:Nat}{r:Int}(h:lO a=some r):aS PP 185 [] [aj a] [] (D.int .u64 r):=by
 obtain⟨h0,h⟩:=aw h
 injection h with h;subst h
 exact(Cw a h0).gen
def sT(a:Nat)(k:Int):Option Nat:=bZ (sm a/\0<=k/\k<35184372088832) (some (a*2^k.toNat))
theorem Bx{a:Nat}{k:Int}{r:Nat}(h:sT a k=some r):aS PP 166 [] [aj a,D.int .i64 k] [] (aj r):=by
 obtain⟨⟨h0,h1,h2⟩,h⟩:=aw h
 injection h with h;subst h
 have:=A4 a k.toNat (f_ h0) (by omega)
 rw[Int.toNat_of_nonneg h1]at this
 exact this.gen
def j9(a b:Nat):Option (Nat×Nat):=bZ (b≠0/\sm a/\sm b) (some (a/b,a%b))
theorem pM{a b q r:Nat}(h:j9 a b=some (q,r)):aS PP 167 [] [aj a,aj b] [] (D.iC [aj q,aj r]):=by
 obtain⟨⟨h0,h1,h2⟩,h⟩:=aw h
 cases h
 have e1:(aD a).length<=549755813888:=by have:=kG a;unfold sm at h1;omega
 have e2:(aD b).length<=549755813888:=by have:=kG b;unfold sm at h2;omega
 exact(FM a b h0 e1 e2).gen
def uJ(a:Nat)(d:Int):Option (Nat×Nat):=bZ (sm a/\0<d/\d<4294967296) (some (a/d.toNat,a%d.toNat))
theorem CR{a q r:Nat}{d:Int}(h:uJ a d=some (q,r)):aS PP 225 [] [aj a,D.int .u32 d] [] (D.iC [aj q,aj r]):=by
 obtain⟨⟨h0,h1,h2⟩,h⟩:=aw h
 cases h
 have:=yr a d.toNat (by omega) (by omega) (f_ h0)
 rw[Int.toNat_of_nonneg (by omega)]at this
 exact this.gen
def yz(a:Nat)(k:Int):Option Nat:=bZ (sm a/\0<=k/\k<35184372088832) (some (a/2^k.toNat))
theorem FP{a:Nat}{k:Int}{r:Nat}(h:yz a k=some r):aS PP 229 [] [aj a,D.int .i64 k] [] (aj r):=by
 obtain⟨⟨h0,h1,h2⟩,h⟩:=aw h
 injection h with h;subst h
 have:=DU a k.toNat (f_ h0) (by omega)
 rw[Int.toNat_of_nonneg h1]at this
 exact this.gen
instance (l:List UInt8):Decidable (sw l):=inferInstanceAs (Decidable (∀b∈l,_))
def mE(s:List UInt8):Option Nat:=bZ (s.length<=1000000/\sw s) (some (jI s))
theorem xD{s:List UInt8}{r:Nat}(h:mE s=some r):aS PP 148 [] [bU s] [] (aj r):=by
 obtain⟨⟨h0,h1⟩,h⟩:=aw h
 injection h with h;subst h
 exact(zc ⟨s.toArray⟩ h0 h1).gen
theorem vR{k:IntKind}{n m:Int}(h:m≠0):nM .quo k n m=some (k.wrap (n.tdiv m)):=if_neg h
theorem uc{k:IntKind}{n m:Int}(h:m≠0):nM .rem k n m=some (n.tmod m):=if_neg h
section
variable {P:Program} {os:List Oper} {c:Ctx} {T T':List (Nat×D)} {H H':List (Nat×Hp)} {sps:List Spec}
variable {ops:Array Oper} {dst:Option Nat} {ty:TypeId} {pos:String} {aft:Array Edge}
theorem an.wy{t:TypeId}{x:Operand}{a:Nat}(hx:ev T x=some (aj a))(ht:isSlice P t=true)(hr:an P ops c os (br T dst (.int .i64 (aD a).length)) H sps T' H'):
  an P ops c (⟨dst,.call {callee:=.builtin .len,args:=#[x],argTypes:=#[t]},ty,pos,aft,none⟩::os) T H (ps [(x,aj a)] (.int .i64 (aD a).length)::sps) T' H':=.ln (hl:=aL _) hx ht hr
theorem an.FW{t:TypeId}{x y:Operand}{a d:Nat}{k:IntKind}{z:Int}(hx:ev T x=some (aj a))(hy:ev T y=some (.int k z))(ht:sle P t=some 1)(h:ix (aD a) z=some d)
  (hr:an P ops c os (br T dst (.ptr [.int .u32 d] rfl)) H sps T' H'):
  an P ops c (⟨dst,.indexAddr t x y,ty,pos,aft,none⟩::os) T H (ps [(x,aj a),(y,.int k z)] (.ptr [.int .u32 d] rfl)::sps) T' H':=
 .oX (hl:=aL _) hx hy ht (af h).1 (by have:=aW h;have:=(af h).1;omega) (bp (af h).2) hr
def FA(T:List (Nat×D)):List (Nat×Operand×D×List D)->Prop
 |[]=>True
 |(_,x,d,_)::q=>ev T x=some d/\FA T q
theorem qq{T:List (Nat×D)}:∀{q:List (Nat×Operand×D×List D)},FA T q->∀x∈qs q,ev T x.1=some x.2
 |[],_,x,hx=>by cases hx
 |(o,y,d,m)::q,h,x,hx=>by
  simp only[qs,List.map_cons,List.mem_cons]at hx
  rcases hx with rfl|hx
  ·exact h.1
  ·exact qq h.2 x hx
theorem an.nW{t:TypeId}{parts:List (Nat×Operand)}{z:List D}{pl:List (Nat×Nat)}(l:List D)(q:List (Nat×Operand×D×List D))(hz:zH P t=some z)(hp:CY P t=some pl)(hq:iv pl z.length parts q)(he:FA T q)(hle:r_ (over z q) l)
  (hr:an P ops c os (br T dst (.agg l)) H sps T' H'):
  an P ops c (⟨dst,.build t parts.toArray,ty,pos,aft,none⟩::os) T H (ps (qs q) (.agg l)::sps) T' H':=.ue q hz hp hq (qq he) hle hr
theorem an.zP{α:Type}{e:ak α}{t te:TypeId}{parts:List (Nat×Operand)}{m bt n:Nat}{z:List D}(xs:List α)(q:List (Nat×Operand×D×List D))(hm:n5 P t=some (te,m,bt,z))(hmn:m=e.n)(hs:Nat.ble (n*m) 16777216=true)(hn0:Nat.blt 0 n=true)(hq:iv (BM m 0 n) (n*m) parts q)(he:FA T q)
  (hle:over (List.replicate n z).flatten q=flat e xs)(hln:xs.length=n)
  (hr:an P ops c os (br T dst (ag e xs)) H sps T' H'):
  an P ops c (⟨dst,.buildSlice t n parts.toArray,ty,pos,aft,none⟩::os) T H (ps (qs q) (ag e xs)::sps) T' H':=.Hb xs q hm hmn hs hn0 hq (qq he) hle hln hr
theorem an.GU{α:Type}{e:ak α}{t te:TypeId}{r:Nat}{parts:List (Nat×Operand)}{m bt n:Nat}{z:List D}(xs:List α)(q:List (Nat×Operand×D×List D))(hm:n5 P t=some (te,m,bt,z))(hmn:m=e.n)(hs:Nat.ble (n*m) 16777216=true)(hn0:Nat.blt 0 n=true)(hq:iv (BM m 0 n) (n*m) parts q)(he:FA T q)
  (hle:over (List.replicate n z).flatten q=flat e xs)(hln:xs.length=n)(hf:ai H r=none)
  (hr:an P ops c os ((r,.own r)::T) ((r,a_ e te xs)::H) sps T' H'):
  an P ops c (⟨some r,.buildSlice t n parts.toArray,ty,pos,aft,none⟩::os) T H (rws (qs q) r (a_ e te xs)::sps) T' H':=.G3 xs q hm hmn hs hn0 hq (qq he) hle hln hf hr
end
end Go.Am
namespace Go.Am
open Go.RowKit
set_option maxRecDepth 100000
noncomputable section
def fp(v18:Int)(v19:Int):Option (St (Int×Int) Int):=(if(v19 !=0)=true then bZ ((v19:Int)≠0) (some (St.next (v19,(Int.tmod v18 v19))))else some (St.done v18))
def di(v3:Nat)(v4:Nat):Option (St (Nat×Nat) (Ex Nat Nat)):=(if(decide (((aD v4).length:Int)>0))=true then((if(decide (((aD v3).length:Int)<=2))=true then(if(decide (((aD v4).length:Int)<=2))=true then(lO v3).bind fun v14=>(lO v4).bind fun v16=>(Loop (fun(s:Int×Int)=>fp s.1 s.2) (v14,v16)).bind fun v26=>(lN v26).bind fun v27=>some (Ex.ret v27)else some (Ex.da ()))else some (Ex.da ()))).bind fun o10=>(match o10 with|Ex.da ()=>(j9 v3 v4).bind fun(v29,v30)=>some (St.next (v4,v30))|Ex.ret r32=>some (St.done (Ex.ret r32)))else some (St.done (Ex.da v3)))
def m5(a1:Nat)(a2:Nat):Option Nat:=(Loop (fun(s:Nat×Nat)=>di s.1 s.2) (a1,a2)).bind fun o5=>(match o5 with|Ex.da v33=>some v33|Ex.ret r34=>some r34)
theorem yV{a1:Nat}{a2:Nat}{r35:Nat}(h:m5 a1 a2=some r35):aS PP 214 [] [aj a1,aj a2] [] (aj r35):=by
 unfold m5 at h
 refine .of Go.Proofs.Tryz.func214 rfl (by kernel_rfl) rfl rfl rfl rfl rfl rfl (fun A w0 L b=>?_)
 show Ok PP _ [(0,aj a1),(1,aj a2)] [] _ _
 refine .al (.aq rfl<|.nil) rfl ?_
 obtain⟨o5,hl6,h⟩:=bind_some h
 refine .cd (fun i=>o5=Ex.da i) (fun(i:Nat)=>[(0,aj i)]) (fun(i:Nat)=>[]) ?_ ?_
 ·have ho1:=h
  clear h
  refine .block (.b8 (fun(s:Nat×Nat)=>[(0,aj s.1),(1,aj s.2)]) (fun(s:Nat×Nat)=>[]) hl6 (.of rfl) trivial rfl rfl ?_)
  rintro⟨v3,v4⟩ st7 hb8
  have h:di v3 v4=some st7:=hb8
  clear hb8
  unfold di at h
  try dsimp only
  refine .sq ?_
  refine .al (.mv rfl<|.wy rfl av<|.cm rfl rfl rfl<|.nil) rfl ?_
  by_cases c9:(decide (((aD v4).length:Int)>0))=true
  ·replace h:=aa c9 h
   refine .cj rfl c9 ?_
   refine .skip (Ok.on ?_)
   refine .block ?_
   obtain⟨o10,hp11,h⟩:=bind_some h
   refine .cd (fun i=>o10=Ex.da i) (fun(i:Unit)=>[(0,aj v3),(1,aj v4)]) (fun(i:Unit)=>[]) ?_ ?_
   ·have ho2:=h
    clear h
    have h:=hp11
    clear hp11
    by_cases c12:(decide (((aD v3).length:Int)<=2))=true
    ·replace h:=aa c12 h
     refine .al (.mv rfl<|.wy rfl av<|.cm rfl rfl rfl<|.mv rfl<|.aV rfl rfl rfl c12<|.mv rfl<|.aV rfl rfl rfl c12<|.wy rfl av<|.aV rfl rfl rfl c12<|.cm rfl rfl rfl<|.bn rfl c12 rfl<|.nil) rfl ?_
     by_cases c13:(decide (((aD v4).length:Int)<=2))=true
     ·replace h:=aa c13 h
      refine .cj rfl c13 ?_
      obtain⟨v14,e15,h⟩:=bind_some h
      obtain⟨v16,e17,h⟩:=bind_some h
      refine .al (.mv rfl<|.ah (uy e15) ⟨rfl,trivial⟩ trivial trivial<|.mv rfl<|.ah (uy e17) ⟨rfl,trivial⟩ trivial trivial<|.aq rfl<|.aq rfl<|.nil) rfl ?_
      obtain⟨v26,hl21,h⟩:=bind_some h
      refine .cd (fun i=>v26=i) (fun(i:Int)=>[(5,D.int .u64 i)]) (fun(i:Int)=>[]) ?_ ?_
      ·have ho3:=h
       clear h
       refine .block (.b8 (fun(s:Int×Int)=>[(5,D.int .u64 s.1),(6,D.int .u64 s.2)]) (fun(s:Int×Int)=>[]) hl21 (.of rfl) trivial rfl rfl ?_)
       rintro⟨v18,v19⟩ st22 hb23
       have h:fp v18 v19=some st22:=hb23
       clear hb23
       unfold fp at h
       try dsimp only
       refine .sq ?_
       refine .al (.mv rfl<|.cm rfl rfl rfl<|.nil) rfl ?_
       by_cases c24:(v19 !=0)=true
       ·replace h:=aa c24 h
        refine .cj rfl c24 ?_
        refine .skip (Ok.on ?_)
        refine .block ?_
        obtain⟨k25,h⟩:=aw h
        refine .c_ cg (.mv rfl<|.mv rfl<|.mv rfl<|.ar rfl rfl (uc k25)<|.aq rfl<|.aq rfl<|.nil) rfl (by kernel_rfl) (fun _ _ hs=>⟨(v19,(Int.tmod v18 v19)),(Option.some.inj h).symm,hs.sub (.of rfl) trivial rfl rfl⟩)
       ·replace h:=ab c24 h
        refine .ck rfl c24 ?_
        refine .exit (fun _ _ hs=>⟨_,(Option.some.inj h).symm,fun e=>⟨v18,e.symm,hs.sub (.of rfl) trivial rfl rfl⟩⟩)
      ·rintro _ rfl
       try dsimp only
       obtain⟨v27,e28,h⟩:=bind_some h
       refine .al (.mv rfl<|.ah (sA e28) ⟨rfl,trivial⟩ trivial trivial<|.aq rfl<|.nil) rfl ?_
       cases h
       have h:=ho2
       clear ho2
       refine .aH (Hi:=[]) (Ho:=[]) (b:=b) (fn:=Go.Proofs.Tryz.f214) (d:=aj v27) (fun _ _ hb=>by exact⟨_,(Option.some.inj h).symm,fun e=>by subst e;have h:=ho1;cases h;exact hb⟩) rfl (.cons (.tmp rfl) .nil) (.refl _) trivial trivial
     ·replace h:=ab c13 h
      refine .ck rfl c13 ?_
      refine .skip (fun _ _ hs=>⟨(),(Option.some.inj h).symm,hs.sub (.of rfl) trivial rfl rfl⟩)
    ·replace h:=ab c12 h
     refine .al (.mv rfl<|.wy rfl av<|.cm rfl rfl rfl<|.mv rfl<|.aT rfl rfl rfl c12<|.aT rfl rfl rfl c12<|.aT rfl rfl rfl c12<|.bm rfl c12 rfl<|.nil) rfl ?_
     refine .ck rfl (by decide) ?_
     refine .skip (fun _ _ hs=>⟨(),(Option.some.inj h).symm,hs.sub (.of rfl) trivial rfl rfl⟩)
   ·rintro⟨⟩ rfl
    try dsimp only
    obtain⟨⟨v29,v30⟩,e31,h⟩:=bind_some h
    refine .al (.mv rfl<|.mv rfl<|.ah (pM e31) ⟨rfl,rfl,trivial⟩ trivial trivial<|.mv rfl<|.ext rfl rfl<|.ext rfl rfl<|.aq rfl<|.aq rfl<|.nil) rfl ?_
    refine .region (.mv rfl<|.mv rfl<|.aq rfl<|.aq rfl<|.nil) rfl (fun _ _ hs=>⟨(v4,v30),(Option.some.inj h).symm,hs.sub (.of rfl) trivial rfl rfl⟩)
  ·replace h:=ab c9 h
   refine .ck rfl c9 ?_
   refine .exit (fun _ _ hs=>⟨_,(Option.some.inj h).symm,fun e=>⟨v3,e.symm,hs.sub (.of rfl) trivial rfl rfl⟩⟩)
 ·rintro v33 rfl
  try dsimp only
  refine .al (.mv rfl<|.aq rfl<|.nil) rfl ?_
  cases h
  refine .aH (fun _ _ hb=>hb) rfl (.cons (.tmp rfl) .nil) (.refl _) trivial trivial
def gI(a1:Nat)(v9:Nat):Option (St Nat Nat):=(j9 a1 v9).bind fun(v14,v15)=>(tB v9 v14).bind fun v17=>(yz v17 1).bind fun v19=>(sI v19 v9).bind fun v21=>(if(decide (v21>=0))=true then some (St.done v9)else some (St.next v19))
def lC(a1:Nat):Option Nat:=(if(((aD a1).length:Int)==0)=true then some 0 else(lN 1).bind fun v3=>(xo a1).bind fun v5=>(sT v3 (IntKind.i64.wrap (Int.tdiv (IntKind.i64.wrap (v5+1)) 2))).bind fun v7=>(Loop (fun(s:Nat)=>gI a1 s) v7).bind fun r24=>some r24)
theorem wU{a1:Nat}{r25:Nat}(h:lC a1=some r25):aS PP 170 [] [aj a1] [] (aj r25):=by
 unfold lC at h
 refine .of Go.Proofs.Tryz.func170 rfl (by kernel_rfl) rfl rfl rfl rfl rfl rfl (fun A w0 L b=>?_)
 show Ok PP _ [(0,aj a1)] [] _ _
 refine .al (.aq rfl<|.nil) rfl ?_
 refine .sq ?_
 refine .al (.mv rfl<|.wy rfl av<|.cm rfl rfl rfl<|.nil) rfl ?_
 by_cases c2:(((aD a1).length:Int)==0)=true
 ·replace h:=aa c2 h
  refine .cj rfl c2 ?_
  refine .al (.aq rfl<|.nil) rfl ?_
  cases h
  refine .aH (fun _ _ hb=>hb) rfl (.cons (.tmp rfl) .nil) (aU) trivial trivial
 ·replace h:=ab c2 h
  refine .ck rfl c2 ?_
  refine .skip (Ok.on ?_)
  obtain⟨v3,e4,h⟩:=bind_some h
  obtain⟨v5,e6,h⟩:=bind_some h
  obtain⟨v7,e8,h⟩:=bind_some h
  refine .al (.ah (sA e4) ⟨rfl,trivial⟩ trivial trivial<|.mv rfl<|.ah (En e6) ⟨rfl,trivial⟩ trivial trivial<|.ar rfl rfl rfl<|.ar rfl rfl (vR (by decide))<|.ah (Bx e8) ⟨rfl,rfl,trivial⟩ trivial trivial<|.aq rfl<|.nil) rfl ?_
  obtain⟨o10,hl11,h⟩:=bind_some h
  have ho1:=h
  clear h
  refine .block (.b8 (fun(s:Nat)=>[(0,aj a1),(3,aj s)]) (fun(s:Nat)=>[]) hl11 (.of rfl) trivial rfl rfl ?_)
  rintro v9 st12 hb13
  have h:gI a1 v9=some st12:=hb13
  clear hb13
  unfold gI at h
  try dsimp only
  refine .block ?_
  obtain⟨⟨v14,v15⟩,e16,h⟩:=bind_some h
  refine .al (.mv rfl<|.mv rfl<|.ah (pM e16) ⟨rfl,rfl,trivial⟩ trivial trivial<|.mv rfl<|.ext rfl rfl<|.ext rfl rfl<|.aq rfl<|.aq rfl<|.nil) rfl ?_
  obtain⟨v17,e18,h⟩:=bind_some h
  obtain⟨v19,e20,h⟩:=bind_some h
  refine .al (.mv rfl<|.mv rfl<|.ah (yd e18) ⟨rfl,rfl,trivial⟩ trivial trivial<|.ah (FP e20) ⟨rfl,rfl,trivial⟩ trivial trivial<|.aq rfl<|.nil) rfl ?_
  refine .sq ?_
  obtain⟨v21,e22,h⟩:=bind_some h
  refine .al (.mv rfl<|.mv rfl<|.ah (xO e22) ⟨rfl,rfl,trivial⟩ trivial trivial<|.cm rfl rfl rfl<|.nil) rfl ?_
  by_cases c23:(decide (v21>=0))=true
  ·replace h:=aa c23 h
   refine .cj rfl c23 ?_
   refine .al (.mv rfl<|.aq rfl<|.nil) rfl ?_
   refine .aH (Hi:=[]) (Ho:=[]) (b:=b) (fn:=Go.Proofs.Tryz.f170) (d:=aj v9) (fun _ _ hb=>by exact⟨_,(Option.some.inj h).symm,fun e=>by subst e;have h:=ho1;cases h;exact hb⟩) rfl (.cons (.tmp rfl) .nil) (.refl _) trivial trivial
  ·replace h:=ab c23 h
   refine .ck rfl c23 ?_
   refine .skip (Ok.on ?_)
   refine .region (.mv rfl<|.aq rfl<|.nil) rfl (fun _ _ hs=>⟨v19,(Option.some.inj h).symm,hs.sub (.of rfl) trivial rfl rfl⟩)
def ee(v2:Int)(v3:Int)(v4:List Int):Option (St (Int×Int×(List Int)) (List Int)):=(if(decide (v2<v3))=true then(ix v4 v3).bind fun v10=>(ix v4 v2).bind fun v12=>(ix (v4.set v2.toNat v10) v3).bind fun v14=>some (St.next ((IntKind.i64.wrap (v2+1)),(IntKind.i64.wrap (v3-1)),((v4.set v2.toNat v10).set v3.toNat v12)))else some (St.done v4))
def fB(a1:List Int):Option (List Int):=(Loop (fun(s:Int×Int×(List Int))=>ee s.1 s.2.1 s.2.2) (0,(IntKind.i64.wrap ((a1.length:Int)-1)),a1)).bind fun v16=>some v16
theorem p6{a1:List Int}{r17:List Int}(h:fB a1=some r17):aS PP 230 [(0,a_ (ak.int .u8) 5 a1)] [D.own 0] [(0,a_ (ak.int .u8) 5 r17)] (D.iC []):=by
 unfold fB at h
 refine .of Go.Proofs.Tryz.func230 rfl (by kernel_rfl) rfl rfl rfl rfl rfl rfl (fun A w0 L b=>?_)
 show Ok PP _ [(0,D.own 0),(1000000,D.pinned 0 (b 0))] [(0,a_ (ak.int .u8) 5 a1)] _ _
 refine .sl 0 rfl rfl rfl ?_
 refine .al (.mv rfl<|.zS rfl zJ<|.ar rfl rfl rfl<|.aq rfl<|.aq rfl<|.nil) rfl ?_
 obtain⟨o5,hl6,h⟩:=bind_some h
 have ho1:=h
 clear h
 refine .block (.b8 (fun(s:Int×Int×(List Int))=>[(0,D.own 0),(2,D.int .i64 s.1),(3,D.int .i64 s.2.1),(1000000,D.pinned 0 (b 0))]) (fun(s:Int×Int×(List Int))=>[(0,a_ (ak.int .u8) 5 s.2.2)]) hl6 ⟨⟨_,rfl,.sl⟩,⟨_,rfl,.refl _⟩,⟨_,rfl,.refl _⟩,⟨_,rfl,.refl _⟩,trivial⟩ (.of rfl) rfl rfl ?_)
 rintro⟨v2,v3,v4⟩ st7 hb8
 have h:ee v2 v3 v4=some st7:=hb8
 clear hb8
 unfold ee at h
 try dsimp only
 refine .sq ?_
 refine .al (.mv rfl<|.mv rfl<|.cm rfl rfl rfl<|.nil) rfl ?_
 by_cases c9:(decide (v2<v3))=true
 ·replace h:=aa c9 h
  refine .cj rfl c9 ?_
  refine .skip (Ok.on ?_)
  refine .sq ?_
  refine .block ?_
  refine .sl 0 rfl rfl rfl ?_
  obtain⟨v10,e11,h⟩:=bind_some h
  obtain⟨v12,e13,h⟩:=bind_some h
  obtain⟨v14,e15,h⟩:=bind_some h
  refine .c_ cg (.mv rfl<|.mv rfl<|.mv rfl<|.mv rfl<|.mv rfl<|.mv rfl<|.oH rfl rfl mR (af e11).1 (by have:=aW e11;have:=(af e11).1;(try simp only[List.length_set]at*);omega)<|.Gc rfl rfl mi rfl (af e11).2 rfl<|.mv rfl<|.mv rfl<|.oH rfl rfl mR (af e13).1 (by have:=aW e13;have:=(af e13).1;(try simp only[List.length_set]at*);omega)<|.Gc rfl rfl mi rfl (af e13).2 rfl<|.oH rfl rfl mR (af e13).1 (by have:=aW e13;have:=(af e13).1;(try simp only[List.length_set]at*);omega)<|.CK v10 rfl rfl rfl mi rfl rfl rfl rfl (aW e13)<|.oH rfl rfl mR (af e15).1 (by have:=aW e15;have:=(af e15).1;(try simp only[List.length_set]at*);omega)<|.CK v12 rfl rfl rfl mi rfl rfl rfl rfl (aW e15)<|.nil) rfl (by kernel_rfl) (Ok.on ?_)
  refine .region (.mv rfl<|.ar rfl rfl rfl<|.mv rfl<|.ar rfl rfl rfl<|.aq rfl<|.aq rfl<|.nil) rfl (fun _ _ hs=>⟨((IntKind.i64.wrap (v2+1)),(IntKind.i64.wrap (v3-1)),((v4.set v2.toNat v10).set v3.toNat v12)),(Option.some.inj h).symm,hs.sub ⟨⟨_,rfl,.sl⟩,⟨_,rfl,.refl _⟩,⟨_,rfl,.refl _⟩,⟨_,rfl,.refl _⟩,trivial⟩ (.of rfl) rfl rfl⟩)
 ·replace h:=ab c9 h
  refine .ck rfl c9 ?_
  refine .exit (fun a w hs=>⟨_,(Option.some.inj h).symm,fun e=>by subst e;have h:=ho1;cases h;exact aZ (hs.FI rfl .nil (.refl _) (.of rfl) (.of rfl))⟩)
def dX(v10:Nat)(v17:Int)(v18:Int)(v19:List Int):Option (St (Int×Int×(List Int)) (List Int)):=((if(decide (v18<9))=true then(if(decide (((aD v10).length:Int)>0))=true then some (Ex.da ())else(if(decide (v17>0))=true then some (Ex.da ())else some (Ex.ret ())))else some (Ex.ret ()))).bind fun o24=>(match o24 with|Ex.da ()=>bZ ((v19.length+([(IntKind.u8.wrap (IntKind.u64.wrap (48+(Int.tmod v17 10))))]).length)*1<=140737488355328/\v19.length+([(IntKind.u8.wrap (IntKind.u64.wrap (48+(Int.tmod v17 10))))]).length<=9223372036854775807) (some (St.next ((IntKind.u64.wrap (Int.tdiv v17 10)),(IntKind.i64.wrap (v18+1)),(v19++[(IntKind.u8.wrap (IntKind.u64.wrap (48+(Int.tmod v17 10))))]))))|Ex.ret ()=>some (St.done v19))
def dU(v3:Nat)(v4:List Int):Option (St (Nat×(List Int)) (List Int)):=(if(decide (((aD v3).length:Int)>0))=true then(uJ v3 1000000000).bind fun(v10,v11)=>(lO v11).bind fun v13=>((Loop (fun(s:Int×Int×(List Int))=>dX v10 s.1 s.2.1 s.2.2) (v13,0,v4)).bind fun v30=>some (v30)).bind fun v31=>some (St.next (v10,v31))else some (St.done v4))
def jg(a1:Nat):Option (List UInt8):=(if(((aD a1).length:Int)==0)=true then some ([48]:List UInt8)else(Loop (fun(s:Nat×(List Int))=>dU s.1 s.2) (a1,[])).bind fun v32=>(fB v32).bind fun v33=>some (bytesOf v33))
theorem sC{a1:Nat}{r35:List UInt8}(h:jg a1=some r35):aS PP 176 [] [aj a1] [] (bU r35):=by
 unfold jg at h
 refine .of Go.Proofs.Tryz.func176 rfl (by kernel_rfl) rfl rfl rfl rfl rfl rfl (fun A w0 L b=>?_)
 show Ok PP _ [(0,aj a1)] [] _ _
 refine .al (.aq rfl<|.nil) rfl ?_
 refine .sq ?_
 refine .al (.mv rfl<|.wy rfl av<|.cm rfl rfl rfl<|.nil) rfl ?_
 by_cases c2:(((aD a1).length:Int)==0)=true
 ·replace h:=aa c2 h
  refine .cj rfl c2 ?_
  refine .al (.aq rfl<|.nil) rfl ?_
  cases h
  refine .aH (fun _ _ hb=>hb) rfl (.cons (.tmp rfl) .nil) (.refl _) trivial trivial
 ·replace h:=ab c2 h
  refine .ck rfl c2 ?_
  refine .skip (Ok.on ?_)
  refine .al (.aq rfl<|.nil) rfl ?_
  refine .jJ (ak.int .u8) 3 2000003 5 rfl rfl ?_
  obtain⟨v32,hl6,h⟩:=bind_some h
  refine .cd (fun i=>v32=i) (fun(i:(List Int))=>[(3,D.own 2000003)]) (fun(i:(List Int))=>[(2000003,a_ (ak.int .u8) 5 i)]) ?_ ?_
  ·have ho1:=h
   clear h
   refine .block (.b8 (fun(s:Nat×(List Int))=>[(0,aj s.1),(3,D.own 2000003)]) (fun(s:Nat×(List Int))=>[(2000003,a_ (ak.int .u8) 5 s.2)]) hl6 (.of rfl) (.of rfl) rfl rfl ?_)
   rintro⟨v3,v4⟩ st7 hb8
   have h:dU v3 v4=some st7:=hb8
   clear hb8
   unfold dU at h
   try dsimp only
   refine .sq ?_
   refine .al (.mv rfl<|.wy rfl av<|.cm rfl rfl rfl<|.nil) rfl ?_
   by_cases c9:(decide (((aD v3).length:Int)>0))=true
   ·replace h:=aa c9 h
    refine .cj rfl c9 ?_
    refine .skip (Ok.on ?_)
    refine .block ?_
    obtain⟨⟨v10,v11⟩,e12,h⟩:=bind_some h
    refine .al (.mv rfl<|.ah (CR e12) ⟨rfl,rfl,trivial⟩ trivial trivial<|.mv rfl<|.ext rfl rfl<|.ext rfl rfl<|.aq rfl<|.aq rfl<|.nil) rfl ?_
    obtain⟨v13,e14,h⟩:=bind_some h
    refine .al (.mv rfl<|.ah (uy e14) ⟨rfl,trivial⟩ trivial trivial<|.aq rfl<|.nil) rfl ?_
    obtain⟨v31,hp16,h⟩:=bind_some h
    refine .cd (fun i=>v31=i) (fun(i:(List Int))=>[(3,D.own 2000003),(4,aj v10)]) (fun(i:(List Int))=>[(2000003,a_ (ak.int .u8) 5 i)]) ?_ ?_
    ·have ho2:=h
     clear h
     have h:=hp16
     clear hp16
     refine .al (.aq rfl<|.nil) rfl ?_
     obtain⟨o20,hl21,h⟩:=bind_some h
     have ho3:=h
     clear h
     refine .block (.b8 (fun(s:Int×Int×(List Int))=>[(3,D.own 2000003),(4,aj v10),(6,D.int .u64 s.1),(7,D.int .i64 s.2.1)]) (fun(s:Int×Int×(List Int))=>[(2000003,a_ (ak.int .u8) 5 s.2.2)]) hl21 (.of rfl) (.of rfl) rfl rfl ?_)
     rintro⟨v17,v18,v19⟩ st22 hb23
     have h:dX v10 v17 v18 v19=some st22:=hb23
     clear hb23
     unfold dX at h
     try dsimp only
     obtain⟨o24,hp25,h⟩:=bind_some h
     refine .cd (fun i=>o24=Ex.da i) (fun(i:Unit)=>[(3,D.own 2000003),(4,aj v10),(6,D.int .u64 v17),(7,D.int .i64 v18)]) (fun(i:Unit)=>[(2000003,a_ (ak.int .u8) 5 v19)]) ?_ ?_
     ·have ho4:=h
      clear h
      have h:=hp25
      clear hp25
      by_cases c26:(decide (v18<9))=true
      ·replace h:=aa c26 h
       by_cases c27:(decide (((aD v10).length:Int)>0))=true
       ·replace h:=aa c27 h
        refine .al (.mv rfl<|.cm rfl rfl rfl<|.mv rfl<|.aV rfl rfl rfl c26<|.mv rfl<|.aV rfl rfl rfl c26<|.wy rfl av<|.aV rfl rfl rfl c26<|.cm rfl rfl rfl<|.aV rfl rfl rfl c26<|.mv rfl<|.eQ rfl rfl rfl c27<|.eQ rfl rfl rfl c27<|.aV rfl rfl rfl c26<|.bn rfl c27 rfl<|.bn rfl c26 rfl<|.nil) rfl ?_
        refine .cj rfl rfl ?_
        refine .skip (fun _ _ hs=>⟨(),(Option.some.inj h).symm,hs.sub (.of rfl) (.of rfl) rfl rfl⟩)
       ·replace h:=ab c27 h
        refine .al (.mv rfl<|.cm rfl rfl rfl<|.mv rfl<|.aV rfl rfl rfl c26<|.mv rfl<|.aV rfl rfl rfl c26<|.wy rfl av<|.aV rfl rfl rfl c26<|.cm rfl rfl rfl<|.aV rfl rfl rfl c26<|.mv rfl<|.dn rfl rfl rfl c27<|.mv rfl<|.dn rfl rfl rfl c27<|.cm rfl rfl rfl<|.aV rfl rfl rfl c26<|.bm rfl c27 rfl<|.bn rfl c26 rfl<|.nil) rfl ?_
        by_cases c28:(decide (v17>0))=true
        ·replace h:=aa c28 h
         refine .cj rfl c28 ?_
         refine .skip (fun _ _ hs=>⟨(),(Option.some.inj h).symm,hs.sub (.of rfl) (.of rfl) rfl rfl⟩)
        ·replace h:=ab c28 h
         refine .ck rfl c28 ?_
         cases h
         have h:=ho4
         clear ho4
         refine .exit (fun a w hs=>⟨_,(Option.some.inj h).symm,fun e=>by subst e;have h:=ho3;exact aZ (⟨v19,(Option.some.inj h).symm,hs.sub (.of rfl) (.of rfl) rfl rfl⟩)⟩)
      ·replace h:=ab c26 h
       refine .al (.mv rfl<|.cm rfl rfl rfl<|.mv rfl<|.aT rfl rfl rfl c26<|.aT rfl rfl rfl c26<|.aT rfl rfl rfl c26<|.aT rfl rfl rfl c26<|.gU rfl rfl<|.gU rfl rfl<|.aT rfl rfl rfl c26<|.bm rfl c26 rfl<|.nil) rfl ?_
       refine .ck rfl (by decide) ?_
       cases h
       have h:=ho4
       clear ho4
       refine .exit (fun a w hs=>⟨_,(Option.some.inj h).symm,fun e=>by subst e;have h:=ho3;exact aZ (⟨v19,(Option.some.inj h).symm,hs.sub (.of rfl) (.of rfl) rfl rfl⟩)⟩)
     ·rintro⟨⟩ rfl
      try dsimp only
      refine .sq ?_
      refine .block ?_
      refine .sl 3 rfl rfl rfl ?_
      obtain⟨k29,h⟩:=aw h
      refine .al (.mv rfl<|.mv rfl<|.ar rfl rfl (uc (by decide))<|.ar rfl rfl rfl<|.cv rfl p2 rfl<|.zP (e:=(ak.int .u8)) [(IntKind.u8.wrap (IntKind.u64.wrap (48+(Int.tmod v17 10))))] [(0,_,D.int .u8 (IntKind.u8.wrap (IntKind.u64.wrap (48+(Int.tmod v17 10)))),[D.int .u8 (IntKind.u8.wrap (IntKind.u64.wrap (48+(Int.tmod v17 10))))])] tz rfl rfl rfl ⟨rfl,rfl,.one rfl,rfl,trivial⟩ ⟨rfl,trivial⟩ rfl rfl<|.yU (ys:=[(IntKind.u8.wrap (IntKind.u64.wrap (48+(Int.tmod v17 10))))]) rfl .sl rfl (.refl _) rfl tz rfl k29.1 k29.2 rfl<|.aq rfl<|.nil) rfl ?_
      refine .region (.mv rfl<|.ar rfl rfl (vR (by decide))<|.aq rfl<|.nil) rfl (Ok.on ?_)
      refine .region (.mv rfl<|.ar rfl rfl rfl<|.aq rfl<|.nil) rfl (fun _ _ hs=>⟨((IntKind.u64.wrap (Int.tdiv v17 10)),(IntKind.i64.wrap (v18+1)),(v19++[(IntKind.u8.wrap (IntKind.u64.wrap (48+(Int.tmod v17 10))))])),(Option.some.inj h).symm,hs.nE (fun r=>match r with|2000003=>40|r=>r) ⟨⟨_,rfl,.own (r:=2000003)⟩,⟨_,rfl,.refl rfl⟩,⟨_,rfl,.refl rfl⟩,⟨_,rfl,.refl rfl⟩,trivial⟩ ⟨⟨_,rfl,.refl rfl⟩,trivial⟩ rfl rfl rfl⟩)
    ·rintro _ rfl
     try dsimp only
     refine .region (.mv rfl<|.aq rfl<|.nil) rfl (fun _ _ hs=>⟨(v10,v31),(Option.some.inj h).symm,hs.sub (.of rfl) (.of rfl) rfl rfl⟩)
   ·replace h:=ab c9 h
    refine .ck rfl c9 ?_
    refine .exit (fun _ _ hs=>⟨_,(Option.some.inj h).symm,fun e=>⟨v4,e.symm,hs.sub (.of rfl) (.of rfl) rfl rfl⟩⟩)
  ·rintro _ rfl
   try dsimp only
   refine .sl 3 rfl rfl rfl ?_
   obtain⟨v33,e34,h⟩:=bind_some h
   refine .al (.mv rfl<|.ah (Hi:=[(2000003,a_ (ak.int .u8) 5 v32)]) (Ho:=[(2000003,a_ (ak.int .u8) 5 v33)]) (d:=D.iC []) (ds:=[D.sl 2000003 v32.length]) (.Di (p6 e34) (fun r=>match r with|0=>2000003|r=>r) (fun r=>match r with|2000003=>0|r=>r) rfl ⟨⟨_,rfl,.refl rfl⟩,trivial⟩ rfl ⟨.FV (r:=0),trivial⟩ ⟨⟨_,rfl,.refl rfl⟩,trivial⟩ rfl (.refl rfl) rfl rfl rfl rfl rfl) ⟨rfl,trivial⟩ ⟨rfl,trivial⟩ trivial<|.nil) rfl ?_
   refine .rJ 3 (.own 2000003) rfl .sl ?_
   refine .kJ 3 rfl rfl rfl ?_
   refine .al (.mv rfl<|.GV rfl (by kernel_rfl)<|.aq rfl<|.nil) rfl ?_
   cases h
   refine .aH (fun _ _ hb=>hb) rfl (.cons (.tmp rfl) .nil) (.refl _) trivial trivial
end
end Go.Am
namespace Go.Am
open Go.RowKit
theorem kD{x:Nat}:(aD x).length=0↔x=0:=by
 constructor
 ·intro h
  apply Classical.byContradiction
  intro h0
  have:=cD h0
  omega
 ·rintro rfl;rw[cN];rfl
theorem iz{x:Nat}:(aD x).length<=2↔x<18446744073709551616:=by
 constructor
 ·intro h
  have h1:=kt (x:=x)
  have h2:(4294967296:Nat)^(aD x).length<=4294967296^2:=Nat.pow_le_pow_right (by omega) h
  have:(4294967296:Nat)^2=18446744073709551616:=by decide
  omega
 ·exact fun h=>eL (n:=2) h
theorem cW{x y:Nat}(h:x<=y):bA x<=bA y:=by
 apply dI
 exact Nat.lt_of_le_of_lt h (lD y)
theorem lQ{x y:Nat}(h:x<=y)(hy:sm y):sm x:=Nat.le_trans (cW h) hy
theorem nO{x n:Nat}(h:bA x<=n):x<2^n:=Nat.lt_of_lt_of_le (lD x) (Nat.pow_le_pow_right (by omega) h)
theorem iA{x:Nat}(h:x<18446744073709551616):sm x:=by
 have:bA x<=64:=dI (n:=64) h
 unfold sm;omega
theorem bY{α:Type}{p:Prop}[Decidable p]{x y:Option α}(hp:p)(h:x=y):bZ p x=y:=by rw[aQ hp,h]
theorem jK{n:Nat}(h:n<18446744073709551616):lN (n:Int)=some n:=bY ⟨by omega,by omega⟩ rfl
theorem nP{x:Nat}(h:x<18446744073709551616):lO x=some (x:Int):=bY (iz.2 h) rfl
theorem oz{a b:Nat}(h:sm a)(k:sm b):tB a b=some (a+b):=bY ⟨h,k⟩ rfl
theorem sa{a b:Nat}(h:b<=a)(k:sm a):wb a b=some (a-b):=bY ⟨h,k⟩ rfl
theorem jZ{a b:Nat}(h:sm a)(k:sm b):ow a b=some (a*b):=bY ⟨h,k⟩ rfl
theorem oi{a b:Nat}(h:sm a)(k:sm b):sI a b=some (fg a b):=bY ⟨h,k⟩ rfl
theorem yO{a:Nat}(h:sm a):xo a=some (bA a:Int):=bY h rfl
theorem iP{a b:Nat}(hb:b≠0)(h:sm a)(k:sm b):j9 a b=some (a/b,a%b):=bY ⟨hb,h,k⟩ rfl
theorem sU(x y:Nat):Loop (fun(s:Int×Int)=>fp s.1 s.2) ((x:Int),(y:Int))=some ((Nat.gcd x y:Nat):Int):=by
 obtain⟨r,hr,rfl⟩:=bI (body:=fun(s:Int×Int)=>fp s.1 s.2) ((x:Int),(y:Int)) (fun s=>∃a b:Nat,s=((a:Int),(b:Int))/\Nat.gcd a b=Nat.gcd x y) (fun s=>s.2.toNat) (fun r=>r=((Nat.gcd x y:Nat):Int)) ⟨x,y,rfl,rfl⟩ (by
  rintro s ⟨a,b,rfl,hg⟩
  simp only[fp]
  by_cases hb:b=0
  ·right
   subst hb
   rw[Nat.gcd_zero_right]at hg
   exact⟨(a:Int),by simp,by rw[hg]⟩
  ·left
   refine⟨((b:Int),((a%b:Nat):Int)),?_,⟨b,a%b,rfl,?_⟩,?_⟩
   ·have h1:((b:Int) !=0)=true:=by simp;omega
    rw[if_pos h1]
    exact bY (by omega) rfl
   ·rw[←hg,Nat.gcd_comm a b,Nat.gcd_rec b a,Nat.gcd_comm]
   ·simp only[Int.toNat_natCast];exact Nat.mod_lt _ (by omega))
 exact hr
def AI(a b:Nat):Option Nat:=bZ (sm a/\sm b) (some (Nat.gcd a b))
theorem Ak{a b:Nat}(h:sm a)(k:sm b):AI a b=some (Nat.gcd a b):=bY ⟨h,k⟩ rfl
theorem xE{a:Nat}:di a 0=some (.done (Ex.da a)):=by simp[di,cN]
theorem vm{a b:Nat}(h0:b≠0)(ha:(aD a).length<=2)(hb:(aD b).length<=2)(e1:lO a=some (a:Int))(e2:lO b=some (b:Int))(e3:lN ((Nat.gcd a b:Nat):Int)=some (Nat.gcd a b)):di a b=some (.done (Ex.ret (Nat.gcd a b))):=by
 have hl:(decide (((aD b).length:Int)>0))=true:=by have:=cD h0;simp;omega
 have h3:(decide (((aD a).length:Int)<=2))=true:=by simp;omega
 have h4:(decide (((aD b).length:Int)<=2))=true:=by simp;omega
 unfold di
 rw[if_pos hl,if_pos h3,if_pos h4,e1,e2,Option.bind_some,Option.bind_some,sU,Option.bind_some,e3]
 rfl
theorem wV{a b:Nat}(h0:b≠0)(ha:a<18446744073709551616)(hb:b<18446744073709551616):di a b=some (.done (Ex.ret (Nat.gcd a b))):=
 vm h0 (iz.2 ha) (iz.2 hb) (nP ha) (nP hb) (jK (Nat.lt_of_le_of_lt (Nat.gcd_le_right _ (Nat.pos_of_ne_zero h0)) hb))
theorem wL{a b:Nat}(h0:b≠0)(hab:¬(a<18446744073709551616/\b<18446744073709551616))(ha:sm a)(hb:sm b):di a b=some (.next (b,a%b)):=by
 have hl:(decide (((aD b).length:Int)>0))=true:=by have:=cD h0;simp;omega
 unfold di
 rw[if_pos hl]
 by_cases h3:(aD a).length<=2
 ·have h4:¬(aD b).length<=2:=fun h=>hab ⟨iz.1 h3,iz.1 h⟩
  rw[if_pos (by simp;omega),if_neg (by simp;omega)]
  simp only[Option.bind_some,iP h0 ha hb]
 ·rw[if_neg (by simp;omega)]
  simp only[Option.bind_some,iP h0 ha hb]
theorem Ec(x y:Nat)(hx:sm x)(hy:sm y):m5 x y=some (Nat.gcd x y):=by
 obtain⟨r,hr,hq⟩:=bI (body:=fun(s:Nat×Nat)=>di s.1 s.2) (x,y) (fun s=>sm s.1/\sm s.2/\Nat.gcd s.1 s.2=Nat.gcd x y) (fun s=>s.2) (fun r=>r=Ex.da (Nat.gcd x y)\/r=Ex.ret (Nat.gcd x y)) ⟨hx,hy,rfl⟩ (by
  rintro⟨a,b⟩ ⟨ha,hb,hg⟩
  simp only at ha hb hg|-
  by_cases h0:b=0
  ·right
   subst h0
   rw[Nat.gcd_zero_right]at hg
   exact⟨_,xE,.inl (by rw[hg])⟩
  by_cases h2:a<18446744073709551616/\b<18446744073709551616
  ·right
   exact⟨_,wV h0 h2.1 h2.2,.inr (by rw[hg])⟩
  ·left
   exact⟨_,wL h0 h2 ha hb,⟨hb,lQ (Nat.le_of_lt (Nat.mod_lt _ (Nat.pos_of_ne_zero h0))) hb,by rw[←hg,Nat.gcd_comm a b,Nat.gcd_rec b a,Nat.gcd_comm]⟩,Nat.mod_lt _ (Nat.pos_of_ne_zero h0)⟩)
 unfold m5
 rw[hr]
 rcases hq with rfl|rfl<;>rfl
theorem FC{a b r:Nat}(h:AI a b=some r):aS PP 214 [] [aj a,aj b] [] (aj r):=by
 obtain⟨⟨h0,h1⟩,h⟩:=aw h
 injection h with h;subst h
 exact yV (Ec a b h0 h1)
def dO:Nat->Nat
 |0=>0
 |x+1=>if(dO x+1)*(dO x+1)<=x+1 then dO x+1 else dO x
theorem oK:∀x,dO x*dO x<=x
 |0=>by simp[dO]
 |x+1=>by
  have:=oK x
  simp only[dO]
  split
  ·assumption
  ·omega
theorem qX:∀x,x<(dO x+1)*(dO x+1)
 |0=>by simp[dO]
 |x+1=>by
  have h:=qX x
  simp only[dO]
  split
  ·have h2:(dO x+1+1)*(dO x+1+1)=(dO x+1)*(dO x+1)+2*(dO x+1)+1:=by
    rw[Nat.add_mul,Nat.mul_add];omega
   omega
  ·omega
theorem AL{x n:Nat}(h:n*n<=x):n<=dO x:=by
 apply Nat.le_of_lt_succ
 apply Classical.byContradiction
 intro hc
 have h1:=Nat.mul_le_mul (Nat.le_of_not_lt hc) (Nat.le_of_not_lt hc)
 have:=qX x
 simp only[Nat.succ_eq_add_one]at h1
 omega
theorem zj{a x s:Nat}(hx:0<x)(hs:s*s<=a):s<=(x+a/x)/2:=by
 rw[Nat.le_div_iff_mul_le (by omega)]
 rcases Nat.lt_or_ge (2*s) x with h|h
 ·generalize a/x=q
  omega
 ·have h1:2*s-x<=a/x:=by
   rw[Nat.le_div_iff_mul_le hx]
   refine Nat.le_trans ?_ hs
   have h2:(2*s-x)*x+x*x=2*s*x:=by rw[←Nat.add_mul,Nat.sub_add_cancel h]
   have h3:2*s*x<=s*s+x*x:=by
    rcases Nat.le_total s x with h|h
    ·obtain⟨d,rfl⟩:=Nat.exists_eq_add_of_le h
     rw[Nat.mul_add,Nat.add_mul,Nat.mul_add s,Nat.mul_add d]
     have:2*s*s=s*s+s*s:=by rw[Nat.mul_assoc];omega
     have:2*s*d=s*d+s*d:=by rw[Nat.mul_assoc];omega
     have:d*s=s*d:=Nat.mul_comm _ _
     omega
    ·obtain⟨d,rfl⟩:=Nat.exists_eq_add_of_le h
     have e1:2*(x+d)*x=x*x+x*x+(d*x+d*x):=by
      rw[Nat.mul_assoc,Nat.add_mul];omega
     have e2:(x+d)*(x+d)=x*x+x*d+(d*x+d*d):=by rw[Nat.add_mul,Nat.mul_add,Nat.mul_add]
     have e3:x*d=d*x:=Nat.mul_comm _ _
     omega
   omega
  generalize a/x=q at h1|-
  omega
theorem fY{x n:Nat}:bA x<=n↔x<2^n:=⟨nO,dI⟩
theorem oo{x y n:Nat}(h:bA x<=n)(k:bA y<=n):bA (x+y)<=n+1:=by
 rw[fY]at*
 rw[Nat.pow_succ];omega
theorem ry{a n:Nat}(h:a<n):bA (2^a)<=n:=fY.2 (Nat.pow_lt_pow_right (by omega) h)
def wD(a:Nat):Option Nat:=bZ (bA a<=2199023255552) (some (dO a))
theorem wrap_small{n:Int}(h0:-9223372036854775808<=n)(h1:n<9223372036854775808):IntKind.i64.wrap n=n:=by rw[IntKind.wrap_i64];omega
theorem AP{a k:Nat}(h:sm a)(hk:k<35184372088832):yz a (k:Int)=some (a/2^k):=bY ⟨h,by omega,by omega⟩ (by rw[Int.toNat_natCast])
theorem rn{a k:Nat}(h:sm a)(hk:k<35184372088832):sT a (k:Int)=some (a*2^k):=bY ⟨h,by omega,by omega⟩ (by rw[Int.toNat_natCast])
theorem oV{x y:Nat}(h:y<=x):fg x y>=0:=by unfold fg;rw[if_neg (by omega)];split<;>omega
theorem Cl(a:Nat)(h:bA a<=2199023255552):lC a=some (dO a):=by
 unfold lC
 by_cases h0:a=0
 ·subst h0;simp[cN,dO]
 have hl:=cD h0
 have hsa:sm a:=Nat.le_trans h (by omega)
 have hl2:¬(((aD a).length:Int)==0)=true:=by
  rw[beq_iff_eq];omega
 rw[if_neg hl2]
 have e1:lN (1:Int)=some 1:=jK (n:=1) (by omega)
 rw[e1,yO hsa]
 simp only[Option.bind_some]
 have ew:IntKind.i64.wrap (Int.tdiv (IntKind.i64.wrap ((bA a:Int)+1)) 2)=(((bA a+1)/2:Nat):Int):=by
  rw[wrap_small (n:=(bA a:Int)+1) (by omega) (by omega),Int.tdiv_eq_ediv_of_nonneg (by omega),wrap_small (by omega) (by omega)]
  omega
 rw[ew,rn (iA (by omega)) (by omega),Nat.one_mul]
 simp only[Option.bind_some]
 have hp0:0<2^((bA a+1)/2):=Nat.two_pow_pos _
 have hs0:dO a<=2^((bA a+1)/2):=by
  apply Classical.byContradiction
  intro hc
  have h1:=Nat.mul_le_mul (Nat.le_of_lt (Nat.lt_of_not_le hc)) (Nat.le_of_lt (Nat.lt_of_not_le hc))
  have h2:=oK a
  have h3:=lD a
  rw[←Nat.pow_add]at h1
  have h4:(2:Nat)^bA a<=2^((bA a+1)/2+(bA a+1)/2):=Nat.pow_le_pow_right (by omega) (by omega)
  omega
 have hb0:bA (2^((bA a+1)/2))<=1099511627778:=ry (by omega)
 generalize 2^((bA a+1)/2)=x0 at*
 obtain⟨r,hr,rfl⟩:=bI (body:=fun s=>gI a s) x0 (fun x=>0<x/\dO a<=x/\bA x<=1099511627778) id (fun r=>r=dO a) ⟨hp0,hs0,hb0⟩ (by
  intro x ⟨hx,hsx,hbx⟩
  have hsx':sm x:=Nat.le_trans hbx (by omega)
  have hbd:bA (a/x)<=2199023255552:=Nat.le_trans (cW (Nat.div_le_self _ _)) h
  have hsd:sm (a/x):=Nat.le_trans hbd (by omega)
  have hsum:sm (x+a/x):=by
   exact Nat.le_trans (oo (Nat.le_trans hbx (by omega)) hbd) (by omega)
  have hge:=zj (a:=a) hx (oK a)
  have hy:sm ((x+a/x)/2):=lQ (Nat.div_le_self _ _) hsum
  unfold gI
  rw[iP (by omega) hsa hsx']
  simp only[Option.bind_some]
  rw[oz hsx' hsd]
  simp only[Option.bind_some]
  have e2:yz (x+a/x) 1=some ((x+a/x)/2):=AP (k:=1) hsum (by omega)
  rw[e2]
  simp only[Option.bind_some]
  rw[oi hy hsx']
  simp only[Option.bind_some]
  by_cases hc:x<=(x+a/x)/2
  ·right
   refine⟨x,?_,?_⟩
   ·rw[if_pos (decide_eq_true (oV hc))]
   ·have h1:x<=a/x:=by omega
    rw[Nat.le_div_iff_mul_le hx]at h1
    exact Nat.le_antisymm (AL h1) hsx
  ·left
   refine⟨(x+a/x)/2,?_,⟨?_,hge,?_⟩,by simp only[id];omega⟩
   ·rw[if_neg]
    have:fg ((x+a/x)/2) x=-1:=by unfold fg;rw[if_pos (by omega)]
    rw[this];decide
   ·apply Nat.pos_of_ne_zero
    intro e
    have h1:dO a=0:=by omega
    have h2:=qX a
    rw[h1]at h2
    omega
   ·exact Nat.le_trans (cW (by omega)) hbx)
 rw[hr];rfl
theorem EO{a r:Nat}(h:wD a=some r):aS PP 170 [] [aj a] [] (aj r):=by
 obtain⟨h0,h⟩:=aw h
 injection h with h;subst h
 exact wU (Cl a h0)
theorem et{α:Type}{xs:List α}{n:Nat}(h:n<xs.length):ix xs (n:Int)=some xs[n]:=by
 unfold ix
 rw[if_pos (by omega),Int.toNat_natCast,List.getElem?_eq_getElem h]
theorem n6{α:Type}{xs:List α}{i:Int}(n:Nat)(hi:i=(n:Int))(h:n<xs.length):ix xs i=some xs[n]:=by rw[hi,et h]
theorem wW(a:List Int)(hl:a.length<=4398046511110):fB a=some a.reverse:=by
 unfold fB
 have e0:IntKind.i64.wrap ((a.length:Int)-1)=(a.length:Int)-1:=wrap_small (by omega) (by omega)
 rw[e0]
 obtain⟨r,hr,rfl⟩:=bI (body:=fun(s:Int×Int×(List Int))=>ee s.1 s.2.1 s.2.2) (0,((a.length:Int)-1),a)
  (fun s=>∃k:Nat,s.1=(k:Int)/\s.2.1=(a.length:Int)-1-k/\k<=a.length/\s.2.2.length=a.length/\(2*k<=a.length+1)/\∀n (h:n<a.length),s.2.2[n]?=if n<k\/a.length-1-k<n then a[a.length-1-n]?else a[n]?)
  (fun s=>(s.2.1+1).toNat) (fun r=>r=a.reverse)
  ⟨0,rfl,by simp,by omega,rfl,by omega,fun n h=>by rw[if_neg (by omega)]⟩ (by
   rintro⟨i,j,xs⟩ ⟨k,hi,hj,hk,hlen,hk2,hx⟩
   simp only at hi hj hlen hx|-
   unfold ee
   by_cases hlt:i<j
   ·left
    have h1:k<a.length-1-k:=by omega
    have hj':j=((a.length-1-k:Nat):Int):=by omega
    rw[if_pos (decide_eq_true hlt),n6 (a.length-1-k) hj' (by omega),Option.bind_some,n6 k hi (by omega),Option.bind_some]
    rw[n6 (a.length-1-k) hj' (by rw[List.length_set];omega),Option.bind_some]
    refine⟨_,rfl,⟨k+1,?_,?_,by omega,by simp[hlen],by omega,?_⟩,by simp only;rw[wrap_small (by omega) (by omega)];omega⟩
    ·simp only;rw[wrap_small (by omega) (by omega)];omega
    ·simp only;rw[wrap_small (by omega) (by omega)];omega
    ·intro n hn
     simp only
     rw[show j.toNat=a.length-1-k from by omega,show i.toNat=k from by omega]
     have ek:=hx k (by omega)
     have ej:=hx (a.length-1-k) (by omega)
     rw[if_neg (by omega)]at ek ej
     rw[List.getElem?_eq_getElem (by omega)]at ek ej
     by_cases c1:n=a.length-1-k
     ·subst c1
      rw[List.getElem?_set_self (by rw[List.length_set];omega),if_pos (by omega),ek]
      rw[show a.length-1-(a.length-1-k)=k from by omega]
     ·rw[List.getElem?_set_ne (by omega)]
      by_cases c2:n=k
      ·subst c2
       rw[List.getElem?_set_self (by omega),if_pos (by omega),ej]
      ·rw[List.getElem?_set_ne (by omega),hx n hn]
       by_cases c3:n<k\/a.length-1-k<n
       ·rw[if_pos c3,if_pos (by omega)]
       ·rw[if_neg c3,if_neg (by omega)]
   ·right
    rw[if_neg (by simpa using hlt)]
    refine⟨xs,rfl,?_⟩
    apply List.ext_getElem?
    intro n
    by_cases hn:n<a.length
    ·rw[hx n hn,List.getElem?_reverse hn]
     split
     ·rfl
     ·rw[show a.length-1-n=n from by omega]
    ·rw[List.getElem?_eq_none (by omega),List.getElem?_eq_none (by simp;omega)])
 rw[hr];rfl
def dR(x:Nat):List Int:=if h:x=0 then []else((48+x%10:Nat):Int)::dR (x/10)
termination_by x
decreasing_by exact Nat.div_lt_self (Nat.pos_of_ne_zero h) (by decide)
theorem jc:dR 0=[]:=by rw[dR];rfl
theorem l3{x:Nat}(h:x≠0):dR x=((48+x%10:Nat):Int)::dR (x/10):=by rw[dR,dif_neg h]
theorem xg:∀(n x:Nat),x<2^n->(dR x).length<=n
 |0,x,h=>by
  have:x=0:=by simp at h;exact h
  subst this;rw[jc];exact Nat.le_refl _
 |n+1,x,h=>by
  by_cases h0:x=0
  ·subst h0;rw[jc];exact Nat.zero_le _
  ·rw[l3 h0,List.length_cons]
   have:=xg n (x/10) (by rw[Nat.pow_succ]at h;omega)
   omega
def gB(x:Nat):List UInt8:=if x=0 then [48]else bytesOf (dR x).reverse
def yh(a:Nat):Option (List UInt8):=bZ (sm a) (some (gB a))
theorem BS(n:Int)(h:0<=n/\n<=255):IntKind.u8.wrap n=n:=by rw[IntKind.wrap_u8];omega
theorem u64_in{n:Int}(h0:0<=n)(h1:n<18446744073709551616):IntKind.u64.wrap n=n:=by rw[IntKind.wrap_u64];omega
theorem xC{a:Nat}{d:Int}(h:sm a)(k:1<=d/\d<4294967296):uJ a d=some (a/d.toNat,a%d.toNat):=bY ⟨h,k⟩ rfl
theorem tf{x n:Nat}(h:bA x<=n):(dR x).length<=n:=xg _ _ (nO h)
theorem zZ(tgt:List Int)(q n:Nat)(b:List Int)(hn:n<1000000000)(ht:tgt.length<=4398046511104)(hq:(aD q).length=0↔q=0)(hb:b++dR (q*1000000000+n)=tgt):
  ∃b',Loop (fun(s:Int×Int×(List Int))=>dX q s.1 s.2.1 s.2.2) ((n:Int),0,b)=some b'/\b'++dR q=tgt:=by
 refine bI (body:=fun(s:Int×Int×(List Int))=>dX q s.1 s.2.1 s.2.2) ((n:Int),0,b)
  (fun s=>∃m k:Nat,s.1=(m:Int)/\s.2.1=((9-k:Nat):Int)/\k<=9/\m<10^k/\s.2.2++dR (q*10^k+m)=tgt)
  (fun s=>(9-s.2.1).toNat) (fun r=>r++dR q=tgt) ⟨n,9,rfl,rfl,by omega,hn,hb⟩ ?_
 rintro⟨i,j,b⟩ ⟨m,k,hi,hj,hk,hm,hb⟩
 simp only at hi hj hb|-
 subst hi;subst hj
 unfold dX
 by_cases h9:k=0
 ·right
  subst h9
  rw[if_neg (by simp),Option.bind_some]
  simp only
  rw[Nat.pow_zero]at hm hb
  refine⟨b,rfl,?_⟩
  rw[show q=q*1+m from by omega];exact hb
 obtain⟨k,rfl⟩:=Nat.exists_eq_succ_of_ne_zero h9
 have hlt:((9-(k+1):Nat):Int)<9:=by omega
 rw[Nat.succ_eq_add_one,if_pos (decide_eq_true hlt)]
 by_cases hz:q=0/\m=0
 ·right
  obtain⟨rfl,rfl⟩:=hz
  rw[if_neg (by rw[hq.2 rfl];decide),if_neg (by decide),Option.bind_some]
  refine⟨b,rfl,?_⟩
  rw[Nat.zero_mul]at hb;exact hb
 ·left
  have hp:q*10^(k+1)+m≠0:=by
   intro h
   apply hz
   constructor
   ·apply Classical.byContradiction
    intro h1
    have:=Nat.mul_pos (Nat.pos_of_ne_zero h1) (show 0<10^(k+1)from Nat.pow_pos (by decide))
    omega
   ·omega
  have hgo:(if(decide (((aD q).length:Int)>0))=true then some (Ex.da ())else(if(decide ((m:Int)>0))=true then some (Ex.da ())else some (Ex.ret ())):Option (Ex Unit Unit))=some (Ex.da ()):=by
   by_cases h1:q=0
   ·rw[if_neg (by rw[hq.2 h1];decide),if_pos (decide_eq_true (by have:=fun h=>hz ⟨h1,h⟩;omega))]
   ·rw[if_pos (decide_eq_true (by have:=fun h=>h1 (hq.1 h);omega))]
  rw[hgo,Option.bind_some]
  simp only
  have hm':m<1000000000:=Nat.lt_of_lt_of_le hm (show 10^(k+1)<=10^9 from Nat.pow_le_pow_right (by decide) (by omega))
  have e1:IntKind.u8.wrap (IntKind.u64.wrap (48+Int.tmod (m:Int) 10))=((48+(q*10^(k+1)+m)%10:Nat):Int):=by
   rw[Int.tmod_eq_emod_of_nonneg (by omega),u64_in (by omega) (by omega),BS _ (by omega)]
   have:(q*10^(k+1)+m)%10=m%10:=by
    rw[Nat.pow_succ,←Nat.mul_assoc,Nat.add_comm,Nat.add_mul_mod_self_right]
   rw[this];omega
  have e2:IntKind.u64.wrap (Int.tdiv (m:Int) 10)=((m/10:Nat):Int):=by
   rw[Int.tdiv_eq_ediv_of_nonneg (by omega),u64_in (by omega) (by omega)];omega
  have e3:(q*10^(k+1)+m)/10=q*10^k+m/10:=by
   rw[Nat.pow_succ,←Nat.mul_assoc,Nat.add_comm,Nat.add_mul_div_right _ _ (by decide),Nat.add_comm]
  have e4:IntKind.i64.wrap (((9-(k+1):Nat):Int)+1)=((9-k:Nat):Int):=by rw[wrap_small (by omega) (by omega)];omega
  rw[l3 hp,e3]at hb
  rw[e1,e2,e4]
  have hbl:b.length+1<=tgt.length:=by rw[←hb,List.length_append,List.length_cons];omega
  refine⟨_,bY ⟨by simp only[List.length_cons,List.length_nil];omega,by simp only[List.length_cons,List.length_nil];omega⟩ rfl,⟨m/10,k,rfl,rfl,by omega,?_,?_⟩,by simp only;omega⟩
  ·rw[Nat.pow_succ]at hm;exact Nat.div_lt_of_lt_mul (by rw[Nat.mul_comm];exact hm)
  ·simp only;rw[←hb,List.append_assoc];rfl
theorem Dn(a:Nat)(h:sm a):Loop (fun(s:Nat×(List Int))=>dU s.1 s.2) (a,[])=some (dR a):=by
 obtain⟨r,hr,rfl⟩:=bI (body:=fun(s:Nat×(List Int))=>dU s.1 s.2) (a,[]) (fun s=>sm s.1/\s.2++dR s.1=dR a) (fun s=>s.1) (fun r=>r=dR a) ⟨h,rfl⟩ (by
  rintro⟨x,b⟩ ⟨hx,hb⟩
  simp only at hx hb|-
  unfold dU
  by_cases h0:x=0
  ·right
   subst h0
   rw[if_neg (by rw[kD.2 rfl];decide)]
   refine⟨b,rfl,?_⟩
   rw[jc,List.append_nil]at hb;exact hb
  ·left
   have hl:=cD h0
   rw[if_pos (decide_eq_true (by omega)),xC hx ⟨by decide,by decide⟩,Option.bind_some]
   simp only
   have en:(1000000000:Int).toNat=1000000000:=rfl
   rw[en]
   have hlt:x%1000000000<1000000000:=Nat.mod_lt _ (by decide)
   rw[nP (by omega),Option.bind_some]
   obtain⟨b',hb',hb2⟩:=zZ (dR a) (x/1000000000) (x%1000000000) b hlt (tf h) kD (by
    rw[show x/1000000000*1000000000+x%1000000000=x from Nat.div_add_mod' x 1000000000];exact hb)
   rw[hb']
   exact⟨_,rfl,⟨lQ (Nat.div_le_self _ _) hx,hb2⟩,Nat.div_lt_self (Nat.pos_of_ne_zero h0) (by decide)⟩)
 exact hr
theorem EP(a:Nat)(h:sm a):jg a=some (gB a):=by
 unfold jg gB
 by_cases h0:a=0
 ·subst h0;rw[if_pos (by rw[kD.2 rfl];rfl),if_pos rfl]
 ·have hl:=cD h0
  have hl2:¬(((aD a).length:Int)==0)=true:=by rw[beq_iff_eq];omega
  rw[if_neg hl2,if_neg h0,Dn a h,Option.bind_some,wW _ (Nat.le_trans (tf h) (by omega))]
  rfl
theorem DI{a:Nat}{r:List UInt8}(h:yh a=some r):aS PP 176 [] [aj a] [] (bU r):=by
 obtain⟨h0,h⟩:=aw h
 injection h with h;subst h
 exact sC (EP a h0)
end Go.Am
namespace Go.Am
open Go.RowKit
def qC(x:Rat):List D:=[.bool (decide (x.num<0)),aj x.num.natAbs,aj (x.den-1)]
def qD(x:Rat):D:=.agg (qC x)
def ak.rat:ak Rat:=⟨3,qC,fun _=>rfl,fun _=>rfl⟩
theorem nr:Le (.bool false) (.bool (decide ((0:Rat).num<0))):=.refl _
theorem nT:Le .nil (aj (0:Rat).num.natAbs):=aU
theorem nS:Le .nil (aj ((0:Rat).den-1)):=aU
def az(x:Nat):List Int:=if h:x=0 then []else((x%10000:Nat):Int)::az (x/10000)
termination_by x
decreasing_by exact Nat.div_lt_self (by omega) (by omega)
theorem cM:az 0=[]:=by rw[az];simp
theorem iK{x:Nat}(h:x≠0):az x=((x%10000:Nat):Int)::az (x/10000):=by rw[az];simp[h]
def Ey(d:Nat):D where
 p:=fun ε w S v=>∃l:List Int,(l=az d\/(d=1/\l=[]))/\(ag (ak.int .i64) l).p ε w S v
 nm:=[]
 sh:=.one
 mono:=fun⟨l,hl,h⟩ he hS=>⟨l,hl,(ag (ak.int .i64) l).mono h (fun r hr=>by cases hr) hS⟩
 i9:=fun⟨l,_,h⟩=>(ag (ak.int .i64) l).i9 h
def lU(x:Rat):List D:=[.bool (decide (x.num<0)),ag (ak.int .i64) (az x.num.natAbs),.bool false,Ey x.den]
def p8(x:Rat):D:=.agg (lU x)
def ak.rq:ak Rat:=⟨4,lU,fun _=>rfl,fun _=>rfl⟩
theorem Ad:Le .nil (ag (ak.int .i64) (az 0)):=by rw[cM];exact .jJ _
theorem DW:Le (.bool false) (.bool (decide ((0:Rat).num<0))):=.refl _
theorem DO:Le .nil (ag (ak.int .i64) (az (0:Rat).num.natAbs)):=Ad
theorem DL:Le .nil (Ey (0:Rat).den):=⟨fun ε w S v h=>⟨[],.inr ⟨rfl,rfl⟩,(Le.jJ (ak.int .i64)).1 ε w S v h⟩,fun r hr=>by cases hr⟩
def sz(x:Rat):Nat:=max (bA x.num.natAbs) (bA x.den)
def eC(x:Rat):Prop:=sz x<=400000000000
instance (x:Rat):Decidable (eC x):=inferInstanceAs (Decidable (sz x<=400000000000))
def eE(n:Int):Prop:=-9223372036854775808<=n/\n<9223372036854775808
instance (n:Int):Decidable (eE n):=inferInstanceAs (Decidable (_/\_))
def zN(x:Rat):Int:=if x<0 then-1 else if x=0 then 0 else 1
def iD(x y:Rat):Int:=if x<y then-1 else if y<x then 1 else 0
def gz(n:Int):Option Rat:=bZ (eE n) (some (n:Rat))
def B9(n d:Int):Option (Rat×Int):=bZ (eE n/\eE d) (some (if d=0 then(0,9)else((n:Rat)/(d:Rat),0)))
def lT(a b:Rat):Option Rat:=bZ (eC a/\eC b) (some (a+b))
def ky(a b:Rat):Option Rat:=bZ (eC a/\eC b) (some (a-b))
def iR(a b:Rat):Option Rat:=bZ (eC a/\eC b) (some (a*b))
def gS(a b:Rat):Option Rat:=bZ (b≠0/\eC a/\eC b) (some (a/b))
def vP(a:Rat):Option Rat:=some (-a)
def yB(a:Rat):Option Rat:=some (if a<0 then-a else a)
def mF(a b:Rat):Option Int:=bZ (eC a/\eC b) (some (iD a b))
def i_(a:Rat):Option Int:=some (zN a)
def rR(a:Rat):Option Rat:=bZ (eC a) (some (a.den:Rat))
def ox(a:Rat):Option Rat:=bZ (eC a) (some (a.floor:Rat))
def Fb(a:Rat):List UInt8:=(if a.num<0 then [45]else [])++gB a.num.natAbs++(if a.den=1 then []else 47::gB a.den)
def po(a:Rat):Option (List UInt8):=bZ (eC a) (some (Fb a))
end Go.Am
namespace Go.Am
open Go.RowKit
set_option maxRecDepth 100000
noncomputable section
def cu(a1:Bool)(a2:Nat):Option (Bool×Nat):=(if a1=true then some ((decide (((aD a2).length:Int)>0)),a2)else some (false,a2))
theorem dV{a1:Bool}{a2:Nat}{r4:Bool}{r5:Nat}(h:cu a1 a2=some (r4,r5)):aS PP 152 [] [D.bool a1,aj a2] [] (D.agg ([D.bool r4,aj r5])):=by
 unfold cu at h
 refine .of Go.Proofs.Tryz.func152 rfl (by kernel_rfl) rfl rfl rfl rfl rfl rfl (fun A w0 L b=>?_)
 show Ok PP _ [(0,D.bool a1),(1,aj a2)] [] _ _
 refine .al (.gd ([D.bool false,aj 0]) dC ⟨.refl _,aU,trivial⟩ rfl<|.nil) rfl ?_
 by_cases c3:a1=true
 ·replace h:=aa c3 h
  refine .al (.mv rfl<|.mv rfl<|.aV rfl rfl rfl c3<|.mv rfl<|.aV rfl rfl rfl c3<|.wy rfl av<|.aV rfl rfl rfl c3<|.cm rfl rfl rfl<|.bn rfl c3 rfl<|.mv rfl<|.nW ([D.bool (decide (((aD a2).length:Int)>0)),aj a2]) [(0,_,D.bool (decide (((aD a2).length:Int)>0)),[D.bool (decide (((aD a2).length:Int)>0))]),(1,_,aj a2,[aj a2])] dC fS ⟨rfl,rfl,.one rfl,rfl,rfl,rfl,.one rfl,rfl,trivial⟩ ⟨rfl,rfl,trivial⟩ ⟨.refl _,.refl _,trivial⟩<|.cH ([D.bool (decide (((aD a2).length:Int)>0)),aj a2]) rfl rfl rfl bk rfl rfl rfl<|.nil) rfl ?_
  cases h
  refine .aH (fun _ _ hb=>hb) rfl (.cons (.agg rfl rfl bk rfl) .nil) (.refl _) trivial trivial
 ·replace h:=ab c3 h
  refine .al (.mv rfl<|.mv rfl<|.aT rfl rfl rfl c3<|.aT rfl rfl rfl c3<|.aT rfl rfl rfl c3<|.bm rfl c3 rfl<|.mv rfl<|.nW ([D.bool false,aj a2]) [(0,_,D.bool false,[D.bool false]),(1,_,aj a2,[aj a2])] dC fS ⟨rfl,rfl,.one rfl,rfl,rfl,rfl,.one rfl,rfl,trivial⟩ ⟨rfl,rfl,trivial⟩ ⟨.refl _,.refl _,trivial⟩<|.cH ([D.bool false,aj a2]) rfl rfl rfl bk rfl rfl rfl<|.nil) rfl ?_
  cases h
  refine .aH (fun _ _ hb=>hb) rfl (.cons (.agg rfl rfl bk rfl) .nil) (.refl _) trivial trivial
def iy(a1:Bool)(a2:Nat):Option Int:=(if a1=true then some (-1)else(if(((aD a2).length:Int)==0)=true then some 0 else some 1))
theorem uB{a1:Bool}{a2:Nat}{r5:Int}(h:iy a1 a2=some r5):aS PP 153 [] [D.agg ([D.bool a1,aj a2])] [] (D.int .i64 r5):=by
 unfold iy at h
 refine .of Go.Proofs.Tryz.func153 rfl (by kernel_rfl) rfl rfl rfl rfl rfl rfl (fun A w0 L b=>?_)
 show Ok PP _ [(0,D.agg ([D.bool a1,aj a2]))] [] _ _
 refine .al (.ie rfl rfl<|.aq rfl<|.nil) rfl ?_
 refine .sq ?_
 refine .block ?_
 refine .al (.fa rfl aO<|.bg (D.bool a1) rfl rfl bH rfl<|.aq rfl<|.nil) rfl ?_
 by_cases c3:a1=true
 ·replace h:=aa c3 h
  refine .cj rfl c3 ?_
  refine .al (.aq rfl<|.nil) rfl ?_
  cases h
  refine .aH (fun _ _ hb=>hb) rfl (.cons (.tmp rfl) .nil) (.refl _) trivial trivial
 ·replace h:=ab c3 h
  refine .ck rfl c3 ?_
  refine .al (.fa rfl aF<|.bg (aj a2) rfl rfl aR rfl<|.wy rfl av<|.cm rfl rfl rfl<|.aq rfl<|.nil) rfl ?_
  by_cases c4:(((aD a2).length:Int)==0)=true
  ·replace h:=aa c4 h
   refine .cj rfl c4 ?_
   refine .al (.aq rfl<|.nil) rfl ?_
   cases h
   refine .aH (fun _ _ hb=>hb) rfl (.cons (.tmp rfl) .nil) (.refl _) trivial trivial
  ·replace h:=ab c4 h
   refine .ck rfl c4 ?_
   refine .skip (Ok.on ?_)
   refine .al (.aq rfl<|.nil) rfl ?_
   cases h
   refine .aH (fun _ _ hb=>hb) rfl (.cons (.tmp rfl) .nil) (.refl _) trivial trivial
def ju(a1:Bool)(a2:Nat)(a3:Bool)(a4:Nat):Option (Bool×Nat):=(if(a1==a3)=true then(tB a2 a4).bind fun v6=>(cu a1 v6).bind fun(v8,v9)=>some (v8,v9)else(sI a2 a4).bind fun v11=>(if(decide (v11>=0))=true then(wb a2 a4).bind fun v14=>(cu a1 v14).bind fun(v16,v17)=>some (v16,v17)else(wb a4 a2).bind fun v19=>(cu a3 v19).bind fun(v21,v22)=>some (v21,v22)))
theorem vj{a1:Bool}{a2:Nat}{a3:Bool}{a4:Nat}{r24:Bool}{r25:Nat}(h:ju a1 a2 a3 a4=some (r24,r25)):aS PP 180 [] [D.agg ([D.bool a1,aj a2]),D.agg ([D.bool a3,aj a4])] [] (D.agg ([D.bool r24,aj r25])):=by
 unfold ju at h
 refine .of Go.Proofs.Tryz.func180 rfl (by kernel_rfl) rfl rfl rfl rfl rfl rfl (fun A w0 L b=>?_)
 show Ok PP _ [(0,D.agg ([D.bool a1,aj a2])),(1,D.agg ([D.bool a3,aj a4]))] [] _ _
 refine .al (.ie rfl rfl<|.ie rfl rfl<|.gd ([D.bool false,aj 0]) dC ⟨.refl _,aU,trivial⟩ rfl<|.nil) rfl ?_
 refine .sq ?_
 refine .block ?_
 refine .al (.fa rfl aO<|.bg (D.bool a1) rfl rfl bH rfl<|.fa rfl aO<|.bg (D.bool a3) rfl rfl bH rfl<|.bc il rfl rfl rfl<|.aq rfl<|.nil) rfl ?_
 by_cases c5:(a1==a3)=true
 ·replace h:=aa c5 h
  refine .cj rfl c5 ?_
  obtain⟨v6,e7,h⟩:=bind_some h
  obtain⟨⟨v8,v9⟩,e10,h⟩:=bind_some h
  refine .dc cg (.fa rfl aO<|.bg (D.bool a1) rfl rfl bH rfl<|.fa rfl aF<|.bg (aj a2) rfl rfl aR rfl<|.fa rfl aF<|.bg (aj a4) rfl rfl aR rfl<|.ah (yd e7) ⟨rfl,rfl,trivial⟩ trivial trivial<|.ah (dV e10) ⟨rfl,rfl,trivial⟩ trivial trivial<|.cH ([D.bool v8,aj v9]) rfl rfl rfl bk rfl rfl rfl<|.nil) rfl (by kernel_rfl) ?_
  cases h
  refine .aH (fun _ _ hb=>hb) rfl (.cons (.agg rfl rfl bk rfl) .nil) (.refl _) trivial trivial
 ·replace h:=ab c5 h
  refine .ck rfl c5 ?_
  obtain⟨v11,e12,h⟩:=bind_some h
  refine .al (.fa rfl aF<|.bg (aj a2) rfl rfl aR rfl<|.fa rfl aF<|.bg (aj a4) rfl rfl aR rfl<|.ah (xO e12) ⟨rfl,rfl,trivial⟩ trivial trivial<|.cm rfl rfl rfl<|.aq rfl<|.nil) rfl ?_
  by_cases c13:(decide (v11>=0))=true
  ·replace h:=aa c13 h
   refine .cj rfl c13 ?_
   obtain⟨v14,e15,h⟩:=bind_some h
   obtain⟨⟨v16,v17⟩,e18,h⟩:=bind_some h
   refine .dc cg (.fa rfl aO<|.bg (D.bool a1) rfl rfl bH rfl<|.fa rfl aF<|.bg (aj a2) rfl rfl aR rfl<|.fa rfl aF<|.bg (aj a4) rfl rfl aR rfl<|.ah (BB e15) ⟨rfl,rfl,trivial⟩ trivial trivial<|.ah (dV e18) ⟨rfl,rfl,trivial⟩ trivial trivial<|.cH ([D.bool v16,aj v17]) rfl rfl rfl bk rfl rfl rfl<|.nil) rfl (by kernel_rfl) ?_
   cases h
   refine .aH (fun _ _ hb=>hb) rfl (.cons (.agg rfl rfl bk rfl) .nil) (.refl _) trivial trivial
  ·replace h:=ab c13 h
   refine .ck rfl c13 ?_
   refine .skip (Ok.on ?_)
   obtain⟨v19,e20,h⟩:=bind_some h
   obtain⟨⟨v21,v22⟩,e23,h⟩:=bind_some h
   refine .dc cg (.fa rfl aO<|.bg (D.bool a3) rfl rfl bH rfl<|.fa rfl aF<|.bg (aj a4) rfl rfl aR rfl<|.fa rfl aF<|.bg (aj a2) rfl rfl aR rfl<|.ah (BB e20) ⟨rfl,rfl,trivial⟩ trivial trivial<|.ah (dV e23) ⟨rfl,rfl,trivial⟩ trivial trivial<|.cH ([D.bool v21,aj v22]) rfl rfl rfl bk rfl rfl rfl<|.nil) rfl (by kernel_rfl) ?_
   cases h
   refine .aH (fun _ _ hb=>hb) rfl (.cons (.agg rfl rfl bk rfl) .nil) (.refl _) trivial trivial
def dQ(a1:Bool)(a2:Nat)(a3:Nat):Option (Bool×Nat):=(ow a2 a3).bind fun v4=>(cu a1 v4).bind fun(v6,v7)=>some (v6,v7)
theorem jd{a1:Bool}{a2:Nat}{a3:Nat}{r9:Bool}{r10:Nat}(h:dQ a1 a2 a3=some (r9,r10)):aS PP 177 [] [D.agg ([D.bool a1,aj a2]),aj a3] [] (D.agg ([D.bool r9,aj r10])):=by
 unfold dQ at h
 refine .of Go.Proofs.Tryz.func177 rfl (by kernel_rfl) rfl rfl rfl rfl rfl rfl (fun A w0 L b=>?_)
 show Ok PP _ [(0,D.agg ([D.bool a1,aj a2])),(1,aj a3)] [] _ _
 refine .al (.ie rfl rfl<|.gd ([D.bool false,aj 0]) dC ⟨.refl _,aU,trivial⟩ rfl<|.nil) rfl ?_
 obtain⟨v4,e5,h⟩:=bind_some h
 obtain⟨⟨v6,v7⟩,e8,h⟩:=bind_some h
 refine .dc cg (.fa rfl aO<|.bg (D.bool a1) rfl rfl bH rfl<|.fa rfl aF<|.bg (aj a2) rfl rfl aR rfl<|.mv rfl<|.ah (so e5) ⟨rfl,rfl,trivial⟩ trivial trivial<|.ah (dV e8) ⟨rfl,rfl,trivial⟩ trivial trivial<|.cH ([D.bool v6,aj v7]) rfl rfl rfl bk rfl rfl rfl<|.nil) rfl (by kernel_rfl) ?_
 cases h
 refine .aH (fun _ _ hb=>hb) rfl (.cons (.agg rfl rfl bk rfl) .nil) (.refl _) trivial trivial
def jr(a1:Bool)(a2:Nat)(a3:Bool)(a4:Nat):Option Int:=(if(!(a1==a3))=true then(if a1=true then some (-1)else some 1)else(if a1=true then(sI a4 a2).bind fun v8=>some v8 else(sI a2 a4).bind fun v10=>some v10))
theorem uN{a1:Bool}{a2:Nat}{a3:Bool}{a4:Nat}{r12:Int}(h:jr a1 a2 a3 a4=some r12):aS PP 178 [] [D.agg ([D.bool a1,aj a2]),D.agg ([D.bool a3,aj a4])] [] (D.int .i64 r12):=by
 unfold jr at h
 refine .of Go.Proofs.Tryz.func178 rfl (by kernel_rfl) rfl rfl rfl rfl rfl rfl (fun A w0 L b=>?_)
 show Ok PP _ [(0,D.agg ([D.bool a1,aj a2])),(1,D.agg ([D.bool a3,aj a4]))] [] _ _
 refine .al (.ie rfl rfl<|.ie rfl rfl<|.aq rfl<|.nil) rfl ?_
 refine .sq ?_
 refine .block ?_
 by_cases c5:(!(a1==a3))=true
 ·replace h:=aa c5 h
  refine .al (.fa rfl aO<|.bg (D.bool a1) rfl rfl bH rfl<|.fa rfl aO<|.bg (D.bool a3) rfl rfl bH rfl<|.bc il rfl rfl rfl<|.mv rfl<|.aV rfl rfl rfl c5<|.fa rfl aO<|.aV rfl rfl rfl c5<|.bg (D.bool a1) rfl rfl bH rfl<|.bn rfl c5 rfl<|.aq rfl<|.nil) rfl ?_
  by_cases c6:a1=true
  ·replace h:=aa c6 h
   refine .cj rfl c6 ?_
   refine .al (.aq rfl<|.nil) rfl ?_
   cases h
   refine .aH (fun _ _ hb=>hb) rfl (.cons (.tmp rfl) .nil) (.refl _) trivial trivial
  ·replace h:=ab c6 h
   refine .ck rfl c6 ?_
   refine .al (.fa rfl aO<|.bg (D.bool a1) rfl rfl bH rfl<|.fa rfl aO<|.bg (D.bool a3) rfl rfl bH rfl<|.bc il rfl rfl rfl<|.aq rfl<|.nil) rfl ?_
   refine .cj rfl c5 ?_
   refine .al (.aq rfl<|.nil) rfl ?_
   cases h
   refine .aH (fun _ _ hb=>hb) rfl (.cons (.tmp rfl) .nil) (.refl _) trivial trivial
 ·replace h:=ab c5 h
  refine .al (.fa rfl aO<|.bg (D.bool a1) rfl rfl bH rfl<|.fa rfl aO<|.bg (D.bool a3) rfl rfl bH rfl<|.bc il rfl rfl rfl<|.mv rfl<|.aT rfl rfl rfl c5<|.aT rfl rfl rfl c5<|.bm rfl c5 rfl<|.aq rfl<|.nil) rfl ?_
  refine .ck rfl (by decide) ?_
  refine .al (.fa rfl aO<|.bg (D.bool a1) rfl rfl bH rfl<|.fa rfl aO<|.bg (D.bool a3) rfl rfl bH rfl<|.bc il rfl rfl rfl<|.aq rfl<|.nil) rfl ?_
  refine .ck rfl c5 ?_
  refine .al (.fa rfl aO<|.bg (D.bool a1) rfl rfl bH rfl<|.aq rfl<|.nil) rfl ?_
  by_cases c7:a1=true
  ·replace h:=aa c7 h
   refine .cj rfl c7 ?_
   obtain⟨v8,e9,h⟩:=bind_some h
   refine .al (.fa rfl aF<|.bg (aj a4) rfl rfl aR rfl<|.fa rfl aF<|.bg (aj a2) rfl rfl aR rfl<|.ah (xO e9) ⟨rfl,rfl,trivial⟩ trivial trivial<|.aq rfl<|.nil) rfl ?_
   cases h
   refine .aH (fun _ _ hb=>hb) rfl (.cons (.tmp rfl) .nil) (.refl _) trivial trivial
  ·replace h:=ab c7 h
   refine .ck rfl c7 ?_
   refine .skip (Ok.on ?_)
   obtain⟨v10,e11,h⟩:=bind_some h
   refine .al (.fa rfl aF<|.bg (aj a2) rfl rfl aR rfl<|.fa rfl aF<|.bg (aj a4) rfl rfl aR rfl<|.ah (xO e11) ⟨rfl,rfl,trivial⟩ trivial trivial<|.aq rfl<|.nil) rfl ?_
   cases h
   refine .aH (fun _ _ hb=>hb) rfl (.cons (.tmp rfl) .nil) (.refl _) trivial trivial
def gF(a1:Bool)(a2:Nat)(a3:Nat):Option (Bool×Nat):=(j9 a2 a3).bind fun(v4,v5)=>((if a1=true then(if(decide (((aD v5).length:Int)>0))=true then(lN 1).bind fun v11=>(tB v4 v11).bind fun v13=>some (v13)else some (v4))else some (v4))).bind fun v15=>(cu a1 v15).bind fun(v16,v17)=>some (v16,v17)
theorem sy{a1:Bool}{a2:Nat}{a3:Nat}{r19:Bool}{r20:Nat}(h:gF a1 a2 a3=some (r19,r20)):aS PP 188 [] [D.agg ([D.bool a1,aj a2]),aj a3] [] (D.agg ([D.bool r19,aj r20])):=by
 unfold gF at h
 refine .of Go.Proofs.Tryz.func188 rfl (by kernel_rfl) rfl rfl rfl rfl rfl rfl (fun A w0 L b=>?_)
 show Ok PP _ [(0,D.agg ([D.bool a1,aj a2])),(1,aj a3)] [] _ _
 refine .al (.ie rfl rfl<|.gd ([D.bool false,aj 0]) dC ⟨.refl _,aU,trivial⟩ rfl<|.nil) rfl ?_
 obtain⟨⟨v4,v5⟩,e6,h⟩:=bind_some h
 refine .al (.fa rfl aF<|.bg (aj a2) rfl rfl aR rfl<|.mv rfl<|.ah (pM e6) ⟨rfl,rfl,trivial⟩ trivial trivial<|.mv rfl<|.ext rfl rfl<|.ext rfl rfl<|.aq rfl<|.aq rfl<|.nil) rfl ?_
 obtain⟨v15,hp8,h⟩:=bind_some h
 refine .cd (fun i=>v15=i) (fun(i:Nat)=>[(2,D.ref 2 0),(4,D.ref 4 0),(5,aj i)]) (fun(i:Nat)=>[(2,Hp.box 26 ([D.bool a1,aj a2])),(4,Hp.box 26 ([D.bool false,aj 0]))]) ?_ ?_
 ·have ho1:=h
  clear h
  have h:=hp8
  clear hp8
  by_cases c9:a1=true
  ·replace h:=aa c9 h
   refine .al (.fa rfl aO<|.bg (D.bool a1) rfl rfl bH rfl<|.mv rfl<|.aV rfl rfl rfl c9<|.mv rfl<|.aV rfl rfl rfl c9<|.wy rfl av<|.aV rfl rfl rfl c9<|.cm rfl rfl rfl<|.bn rfl c9 rfl<|.nil) rfl ?_
   by_cases c10:(decide (((aD v5).length:Int)>0))=true
   ·replace h:=aa c10 h
    refine .cj rfl c10 ?_
    obtain⟨v11,e12,h⟩:=bind_some h
    obtain⟨v13,e14,h⟩:=bind_some h
    refine .region (.mv rfl<|.ah (sA e12) ⟨rfl,trivial⟩ trivial trivial<|.ah (yd e14) ⟨rfl,rfl,trivial⟩ trivial trivial<|.aq rfl<|.nil) rfl (fun _ _ hs=>⟨v13,(Option.some.inj h).symm,hs.sub (.of rfl) (.of rfl) rfl rfl⟩)
   ·replace h:=ab c10 h
    refine .ck rfl c10 ?_
    refine .skip (fun _ _ hs=>⟨v4,(Option.some.inj h).symm,hs.sub (.of rfl) (.of rfl) rfl rfl⟩)
  ·replace h:=ab c9 h
   refine .al (.fa rfl aO<|.bg (D.bool a1) rfl rfl bH rfl<|.mv rfl<|.aT rfl rfl rfl c9<|.aT rfl rfl rfl c9<|.aT rfl rfl rfl c9<|.bm rfl c9 rfl<|.nil) rfl ?_
   refine .ck rfl (by decide) ?_
   refine .skip (fun _ _ hs=>⟨v4,(Option.some.inj h).symm,hs.sub (.of rfl) (.of rfl) rfl rfl⟩)
 ·rintro _ rfl
  try dsimp only
  obtain⟨⟨v16,v17⟩,e18,h⟩:=bind_some h
  refine .al (.fa rfl aO<|.bg (D.bool a1) rfl rfl bH rfl<|.mv rfl<|.ah (dV e18) ⟨rfl,rfl,trivial⟩ trivial trivial<|.cH ([D.bool v16,aj v17]) rfl rfl rfl bk rfl rfl rfl<|.nil) rfl ?_
  cases h
  refine .aH (fun _ _ hb=>hb) rfl (.cons (.agg rfl rfl bk rfl) .nil) (.refl _) trivial trivial
def eX(a1:Bool)(a2:Nat)(a3:Nat):Option Nat:=(lN 1).bind fun v4=>(tB a3 v4).bind fun v6=>some v6
theorem gM{a1:Bool}{a2:Nat}{a3:Nat}{r8:Nat}(h:eX a1 a2 a3=some r8):aS PP 168 [] [D.agg ([D.bool a1,aj a2,aj a3])] [] (aj r8):=by
 unfold eX at h
 refine .of Go.Proofs.Tryz.func168 rfl (by kernel_rfl) rfl rfl rfl rfl rfl rfl (fun A w0 L b=>?_)
 show Ok PP _ [(0,D.agg ([D.bool a1,aj a2,aj a3]))] [] _ _
 refine .al (.ie rfl rfl<|.aq rfl<|.nil) rfl ?_
 obtain⟨v4,e5,h⟩:=bind_some h
 obtain⟨v6,e7,h⟩:=bind_some h
 refine .dc cg (.fa rfl kv<|.bg (aj a3) rfl rfl aR rfl<|.ah (sA e5) ⟨rfl,trivial⟩ trivial trivial<|.ah (yd e7) ⟨rfl,rfl,trivial⟩ trivial trivial<|.aq rfl<|.nil) rfl (by kernel_rfl) ?_
 cases h
 refine .aH (fun _ _ hb=>hb) rfl (.cons (.tmp rfl) .nil) (.refl _) trivial trivial
def ec(a1:Bool)(a2:Nat)(a3:Nat):Option ((Bool×Nat)×Nat):=((AI a2 a3).bind fun v6=>(if(((aD v6).length:Int) !=1)=true then(j9 a2 v6).bind fun(v9,v10)=>(j9 a3 v6).bind fun(v12,v13)=>some ((v12,v9))else(ix (aD v6) 0).bind fun v15=>(if((v15:Int) !=1)=true then(j9 a2 v6).bind fun(v18,v19)=>(j9 a3 v6).bind fun(v21,v22)=>some ((v21,v18))else some ((a3,a2))))).bind fun(v24,v25)=>(cu a1 v25).bind fun(v26,v27)=>(lN 1).bind fun v29=>(wb v24 v29).bind fun v31=>some ((v26,v27),v31)
theorem j3{a1:Bool}{a2:Nat}{a3:Nat}{r33:Bool}{r34:Nat}{r35:Nat}(h:ec a1 a2 a3=some ((r33,r34),r35)):aS PP 151 [] [D.agg ([D.bool a1,aj a2]),aj a3] [] (D.agg ([D.bool r33,aj r34,aj r35])):=by
 unfold ec at h
 refine .of Go.Proofs.Tryz.func151 rfl (by kernel_rfl) rfl rfl rfl rfl rfl rfl (fun A w0 L b=>?_)
 show Ok PP _ [(0,D.agg ([D.bool a1,aj a2])),(1,aj a3)] [] _ _
 refine .al (.ie rfl rfl<|.gd ([D.bool false,aj 0,aj 0]) aJ ⟨.refl _,aU,aU,trivial⟩ rfl<|.nil) rfl ?_
 obtain⟨o4,hp5,h⟩:=bind_some h
 refine .cd (fun i=>o4=i) (fun(i:Nat×Nat)=>[(1,aj i.1),(2,D.ref 2 0),(4,D.ref 4 0)]) (fun(i:Nat×Nat)=>[(2,Hp.box 26 ([D.bool a1,aj i.2])),(4,Hp.box 28 ([D.bool false,aj 0,aj 0]))]) ?_ ?_
 ·have ho1:=h
  clear h
  have h:=hp5
  clear hp5
  obtain⟨v6,e7,h⟩:=bind_some h
  refine .al (.fa rfl aF<|.bg (aj a2) rfl rfl aR rfl<|.mv rfl<|.ah (FC e7) ⟨rfl,rfl,trivial⟩ trivial trivial<|.aq rfl<|.nil) rfl ?_
  by_cases c8:(((aD v6).length:Int) !=1)=true
  ·replace h:=aa c8 h
   refine .al (.mv rfl<|.wy rfl av<|.cm rfl rfl rfl<|.mv rfl<|.eQ rfl rfl rfl c8<|.eQ rfl rfl rfl c8<|.eQ rfl rfl rfl c8<|.eQ rfl rfl rfl c8<|.bn rfl c8 rfl<|.nil) rfl ?_
   refine .cj rfl rfl ?_
   obtain⟨⟨v9,v10⟩,e11,h⟩:=bind_some h
   refine .al (.fa rfl aF<|.bg (aj a2) rfl rfl aR rfl<|.mv rfl<|.ah (pM e11) ⟨rfl,rfl,trivial⟩ trivial trivial<|.mv rfl<|.ext rfl rfl<|.ext rfl rfl<|.fa rfl aF<|.w8 ([D.bool a1,aj v9]) rfl rfl rfl aR rfl rfl rfl<|.nil) rfl ?_
   obtain⟨⟨v12,v13⟩,e14,h⟩:=bind_some h
   refine .region (.mv rfl<|.mv rfl<|.ah (pM e14) ⟨rfl,rfl,trivial⟩ trivial trivial<|.mv rfl<|.ext rfl rfl<|.ext rfl rfl<|.aq rfl<|.nil) rfl (fun _ _ hs=>⟨(v12,v9),(Option.some.inj h).symm,hs.sub (.of rfl) (.of rfl) rfl rfl⟩)
  ·replace h:=ab c8 h
   obtain⟨v15,e16,h⟩:=bind_some h
   refine .al (.mv rfl<|.wy rfl av<|.cm rfl rfl rfl<|.mv rfl<|.dn rfl rfl rfl c8<|.mv rfl<|.dn rfl rfl rfl c8<|.FW rfl rfl ay e16<|.dn rfl rfl rfl c8<|.gC rfl aN<|.dn rfl rfl rfl c8<|.cm rfl rfl rfl<|.bm rfl c8 rfl<|.nil) rfl ?_
   by_cases c17:((v15:Int) !=1)=true
   ·replace h:=aa c17 h
    refine .cj rfl c17 ?_
    obtain⟨⟨v18,v19⟩,e20,h⟩:=bind_some h
    refine .al (.fa rfl aF<|.bg (aj a2) rfl rfl aR rfl<|.mv rfl<|.ah (pM e20) ⟨rfl,rfl,trivial⟩ trivial trivial<|.mv rfl<|.ext rfl rfl<|.ext rfl rfl<|.fa rfl aF<|.w8 ([D.bool a1,aj v18]) rfl rfl rfl aR rfl rfl rfl<|.nil) rfl ?_
    obtain⟨⟨v21,v22⟩,e23,h⟩:=bind_some h
    refine .region (.mv rfl<|.mv rfl<|.ah (pM e23) ⟨rfl,rfl,trivial⟩ trivial trivial<|.mv rfl<|.ext rfl rfl<|.ext rfl rfl<|.aq rfl<|.nil) rfl (fun _ _ hs=>⟨(v21,v18),(Option.some.inj h).symm,hs.sub (.of rfl) (.of rfl) rfl rfl⟩)
   ·replace h:=ab c17 h
    refine .ck rfl c17 ?_
    refine .skip (fun _ _ hs=>⟨(a3,a2),(Option.some.inj h).symm,hs.sub (.of rfl) (.of rfl) rfl rfl⟩)
 ·rintro⟨v24,v25⟩ rfl
  try dsimp only
  obtain⟨⟨v26,v27⟩,e28,h⟩:=bind_some h
  obtain⟨v29,e30,h⟩:=bind_some h
  obtain⟨v31,e32,h⟩:=bind_some h
  refine .al (.fa rfl aO<|.bg (D.bool a1) rfl rfl bH rfl<|.fa rfl aF<|.bg (aj v25) rfl rfl aR rfl<|.ah (dV e28) ⟨rfl,rfl,trivial⟩ trivial trivial<|.mv rfl<|.ah (sA e30) ⟨rfl,trivial⟩ trivial trivial<|.ah (BB e32) ⟨rfl,rfl,trivial⟩ trivial trivial<|.nW ([D.bool v26,aj v27,aj v31]) [(0,_,D.agg ([D.bool v26,aj v27]),[D.bool v26,aj v27]),(2,_,aj v31,[aj v31])] aJ cR ⟨rfl,rfl,.agg _,rfl,rfl,rfl,.one rfl,rfl,trivial⟩ ⟨rfl,rfl,trivial⟩ ⟨.refl _,.refl _,.refl _,trivial⟩<|.cH ([D.bool v26,aj v27,aj v31]) rfl rfl rfl ae rfl rfl rfl<|.nil) rfl ?_
  cases h
  refine .aH (fun _ _ hb=>hb) rfl (.cons (.agg rfl rfl ae rfl) .nil) (.refl _) trivial trivial
def sE(a1:Bool)(a2:Nat):Option ((Bool×Nat)×Nat):=some ((a1,a2),0)
theorem AD{a1:Bool}{a2:Nat}{r3:Bool}{r4:Nat}{r5:Nat}(h:sE a1 a2=some ((r3,r4),r5)):aS PP 169 [] [D.agg ([D.bool a1,aj a2])] [] (D.agg ([D.bool r3,aj r4,aj r5])):=by
 unfold sE at h
 refine .of Go.Proofs.Tryz.func169 rfl (by kernel_rfl) rfl rfl rfl rfl rfl rfl (fun A w0 L b=>?_)
 show Ok PP _ [(0,D.agg ([D.bool a1,aj a2]))] [] _ _
 refine .al (.ie rfl rfl<|.gd ([D.bool false,aj 0,aj 0]) aJ ⟨.refl _,aU,aU,trivial⟩ rfl<|.nil) rfl ?_
 refine .al (.b_ ([D.bool a1,aj a2]) rfl rfl bk rfl rfl<|.nW ([D.bool a1,aj a2,aj 0]) [(0,_,D.agg ([D.bool a1,aj a2]),[D.bool a1,aj a2])] aJ cR ⟨rfl,rfl,.agg _,rfl,trivial⟩ ⟨rfl,trivial⟩ ⟨.refl _,.refl _,aU,trivial⟩<|.cH ([D.bool a1,aj a2,aj 0]) rfl rfl rfl ae rfl rfl rfl<|.nil) rfl ?_
 cases h
 refine .aH (fun _ _ hb=>hb) rfl (.cons (.agg rfl rfl ae rfl) .nil) (.refl _) trivial trivial
def ga(a1:Int):Option Nat:=(if(decide (a1<0))=true then(lN (IntKind.u64.wrap (0-(IntKind.u64.wrap a1)))).bind fun v3=>some v3 else(lN (IntKind.u64.wrap a1)).bind fun v5=>some v5)
theorem mw{a1:Int}{r7:Nat}(h:ga a1=some r7):aS PP 179 [] [D.int .i64 a1] [] (aj r7):=by
 unfold ga at h
 refine .of Go.Proofs.Tryz.func179 rfl (by kernel_rfl) rfl rfl rfl rfl rfl rfl (fun A w0 L b=>?_)
 show Ok PP _ [(0,D.int .i64 a1)] [] _ _
 refine .al (.aq rfl<|.nil) rfl ?_
 refine .sq ?_
 refine .al (.mv rfl<|.cm rfl rfl rfl<|.nil) rfl ?_
 by_cases c2:(decide (a1<0))=true
 ·replace h:=aa c2 h
  refine .cj rfl c2 ?_
  obtain⟨v3,e4,h⟩:=bind_some h
  refine .al (.mv rfl<|.cv rfl lP rfl<|.neg rfl rfl<|.ah (sA e4) ⟨rfl,trivial⟩ trivial trivial<|.aq rfl<|.nil) rfl ?_
  cases h
  refine .aH (fun _ _ hb=>hb) rfl (.cons (.tmp rfl) .nil) (.refl _) trivial trivial
 ·replace h:=ab c2 h
  refine .ck rfl c2 ?_
  refine .skip (Ok.on ?_)
  obtain⟨v5,e6,h⟩:=bind_some h
  refine .al (.mv rfl<|.cv rfl lP rfl<|.ah (sA e6) ⟨rfl,trivial⟩ trivial trivial<|.aq rfl<|.nil) rfl ?_
  cases h
  refine .aH (fun _ _ hb=>hb) rfl (.cons (.tmp rfl) .nil) (.refl _) trivial trivial
def x_(a1:Int):Option ((Bool×Nat)×Nat):=(ga a1).bind fun v2=>(cu (decide (a1<0)) v2).bind fun(v4,v5)=>(sE v4 v5).bind fun((v7,v8),v9)=>some ((v7,v8),v9)
theorem Fy{a1:Int}{r11:Bool}{r12:Nat}{r13:Nat}(h:x_ a1=some ((r11,r12),r13)):aS PP 40 [] [D.int .i64 a1] [] (D.agg ([D.bool r11,aj r12,aj r13])):=by
 unfold x_ at h
 refine .of Go.Proofs.Tryz.func40 rfl (by kernel_rfl) rfl rfl rfl rfl rfl rfl (fun A w0 L b=>?_)
 show Ok PP _ [(0,D.int .i64 a1)] [] _ _
 refine .al (.gd ([D.bool false,aj 0,aj 0]) aJ ⟨.refl _,aU,aU,trivial⟩ rfl<|.nil) rfl ?_
 obtain⟨v2,e3,h⟩:=bind_some h
 obtain⟨⟨v4,v5⟩,e6,h⟩:=bind_some h
 obtain⟨⟨⟨v7,v8⟩,v9⟩,e10,h⟩:=bind_some h
 refine .al (.mv rfl<|.cm rfl rfl rfl<|.mv rfl<|.ah (mw e3) ⟨rfl,trivial⟩ trivial trivial<|.ah (dV e6) ⟨rfl,rfl,trivial⟩ trivial trivial<|.ah (AD e10) ⟨rfl,trivial⟩ trivial trivial<|.cH ([D.bool v7,aj v8,aj v9]) rfl rfl rfl ae rfl rfl rfl<|.nil) rfl ?_
 cases h
 refine .aH (fun _ _ hb=>hb) rfl (.cons (.agg rfl rfl ae rfl) .nil) (.refl _) trivial trivial
def Cg(a1:Int)(a2:Int):Option (((Bool×Nat)×Nat)×Int):=(if(a2==0)=true then some (((false,0),0),9)else(ga a1).bind fun v4=>(cu (!((decide (a1<0))==(decide (a2<0)))) v4).bind fun(v6,v7)=>(ga a2).bind fun v9=>(ec v6 v7 v9).bind fun((v11,v12),v13)=>some (((v11,v12),v13),0))
theorem FF{a1:Int}{a2:Int}{r15:Bool}{r16:Nat}{r17:Nat}{r18:Int}(h:Cg a1 a2=some (((r15,r16),r17),r18)):aS PP 36 [] [D.int .i64 a1,D.int .i64 a2] [] (D.iC [D.agg ([D.bool r15,aj r16,aj r17]),D.int .i64 r18]):=by
 unfold Cg at h
 refine .of Go.Proofs.Tryz.func36 rfl (by kernel_rfl) rfl rfl rfl rfl rfl rfl (fun A w0 L b=>?_)
 show Ok PP _ [(0,D.int .i64 a1),(1,D.int .i64 a2)] [] _ _
 refine .al (.gd ([D.bool false,aj 0,aj 0]) aJ ⟨.refl _,aU,aU,trivial⟩ rfl<|.aq rfl<|.nil) rfl ?_
 refine .sq ?_
 refine .al (.mv rfl<|.cm rfl rfl rfl<|.nil) rfl ?_
 by_cases c3:(a2==0)=true
 ·replace h:=aa c3 h
  refine .cj rfl c3 ?_
  refine .al (.nW ([D.bool false,aj 0,aj 0]) [] aJ cR trivial trivial ⟨.refl _,aU,aU,trivial⟩<|.cH ([D.bool false,aj 0,aj 0]) rfl rfl rfl ae rfl rfl rfl<|.aq rfl<|.nil) rfl ?_
  cases h
  refine .aH (fun _ _ hb=>hb) rfl (.cons (.agg rfl rfl ae rfl) (.cons (.tmp rfl) .nil)) (.refl _) trivial trivial
 ·replace h:=ab c3 h
  refine .ck rfl c3 ?_
  refine .skip (Ok.on ?_)
  obtain⟨v4,e5,h⟩:=bind_some h
  obtain⟨⟨v6,v7⟩,e8,h⟩:=bind_some h
  obtain⟨v9,e10,h⟩:=bind_some h
  obtain⟨⟨⟨v11,v12⟩,v13⟩,e14,h⟩:=bind_some h
  refine .al (.mv rfl<|.cm rfl rfl rfl<|.mv rfl<|.cm rfl rfl rfl<|.bc il rfl rfl rfl<|.mv rfl<|.ah (mw e5) ⟨rfl,trivial⟩ trivial trivial<|.ah (dV e8) ⟨rfl,rfl,trivial⟩ trivial trivial<|.mv rfl<|.ah (mw e10) ⟨rfl,trivial⟩ trivial trivial<|.ah (j3 e14) ⟨rfl,rfl,trivial⟩ trivial trivial<|.cH ([D.bool v11,aj v12,aj v13]) rfl rfl rfl ae rfl rfl rfl<|.aq rfl<|.nil) rfl ?_
  cases h
  refine .aH (fun _ _ hb=>hb) rfl (.cons (.agg rfl rfl ae rfl) (.cons (.tmp rfl) .nil)) (.refl _) trivial trivial
def oM(a1:Bool)(a2:Nat)(a3:Nat):Option (List UInt8):=(yh a2).bind fun v4=>((if a1=true then bZ (([45]:List UInt8).length+v4.length<=9223372036854775807) (some ((([45]:List UInt8)++v4)))else some (v4))).bind fun v10=>((if(decide (((aD a3).length:Int)>0))=true then(eX a1 a2 a3).bind fun v14=>(yh v14).bind fun v16=>bZ (([47]:List UInt8).length+v16.length<=9223372036854775807) (bZ (v10.length+(([47]:List UInt8)++v16).length<=9223372036854775807) (some ((v10++(([47]:List UInt8)++v16)))))else some (v10))).bind fun v20=>some v20
theorem BH{a1:Bool}{a2:Nat}{a3:Nat}{r21:List UInt8}(h:oM a1 a2 a3=some r21):aS PP 33 [] [D.agg ([D.bool a1,aj a2,aj a3])] [] (bU r21):=by
 unfold oM at h
 refine .of Go.Proofs.Tryz.func33 rfl (by kernel_rfl) rfl rfl rfl rfl rfl rfl (fun A w0 L b=>?_)
 show Ok PP _ [(0,D.agg ([D.bool a1,aj a2,aj a3]))] [] _ _
 refine .al (.ie rfl rfl<|.aq rfl<|.nil) rfl ?_
 obtain⟨v4,e5,h⟩:=bind_some h
 refine .al (.fa rfl bS<|.fa rfl aF<|.bg (aj a2) rfl rfl aR rfl<|.ah (DI e5) ⟨rfl,trivial⟩ trivial trivial<|.aq rfl<|.nil) rfl ?_
 obtain⟨v10,hp7,h⟩:=bind_some h
 refine .cd (fun i=>v10=i) (fun(i:(List UInt8))=>[(1,D.ref 1 0),(3,bU i)]) (fun(i:(List UInt8))=>[(1,Hp.box 28 ([D.bool a1,aj a2,aj a3]))]) ?_ ?_
 ·have ho1:=h
  clear h
  have h:=hp7
  clear hp7
  refine .al (.fa rfl bS<|.fa rfl aO<|.bg (D.bool a1) rfl rfl bH rfl<|.nil) rfl ?_
  by_cases c8:a1=true
  ·replace h:=aa c8 h
   refine .cj rfl c8 ?_
   obtain⟨k9,h⟩:=aw h
   refine .region (.mv rfl<|.vF rfl rfl k9<|.aq rfl<|.nil) rfl (fun _ _ hs=>⟨(([45]:List UInt8)++v4),(Option.some.inj h).symm,hs.sub (.of rfl) (.of rfl) rfl rfl⟩)
  ·replace h:=ab c8 h
   refine .ck rfl c8 ?_
   refine .skip (fun _ _ hs=>⟨v4,(Option.some.inj h).symm,hs.sub (.of rfl) (.of rfl) rfl rfl⟩)
 ·rintro _ rfl
  try dsimp only
  obtain⟨v20,hp12,h⟩:=bind_some h
  refine .cd (fun i=>v20=i) (fun(i:(List UInt8))=>[(3,bU i)]) (fun(i:(List UInt8))=>[]) ?_ ?_
  ·have ho1:=h
   clear h
   have h:=hp12
   clear hp12
   refine .al (.fa rfl kv<|.bg (aj a3) rfl rfl aR rfl<|.wy rfl av<|.cm rfl rfl rfl<|.nil) rfl ?_
   by_cases c13:(decide (((aD a3).length:Int)>0))=true
   ·replace h:=aa c13 h
    refine .cj rfl c13 ?_
    obtain⟨v14,e15,h⟩:=bind_some h
    obtain⟨v16,e17,h⟩:=bind_some h
    obtain⟨k18,h⟩:=aw h
    obtain⟨k19,h⟩:=aw h
    refine .region (.mv rfl<|.b_ ([D.bool a1,aj a2,aj a3]) rfl rfl ae rfl rfl<|.ah (gM e15) ⟨rfl,trivial⟩ trivial trivial<|.ah (DI e17) ⟨rfl,trivial⟩ trivial trivial<|.vF rfl rfl k18<|.vF rfl rfl k19<|.aq rfl<|.nil) rfl (fun _ _ hs=>⟨(v10++(([47]:List UInt8)++v16)),(Option.some.inj h).symm,hs.sub (.of rfl) trivial rfl rfl⟩)
   ·replace h:=ab c13 h
    refine .ck rfl c13 ?_
    refine .skip (fun _ _ hs=>⟨v10,(Option.some.inj h).symm,hs.sub (.of rfl) trivial rfl rfl⟩)
  ·rintro _ rfl
   try dsimp only
   refine .al (.mv rfl<|.aq rfl<|.nil) rfl ?_
   cases h
   refine .aH (fun _ _ hb=>hb) rfl (.cons (.tmp rfl) .nil) (.refl _) trivial trivial
def oT(a1:Bool)(a2:Nat)(a3:Nat)(a4:Bool)(a5:Nat)(a6:Nat):Option ((Bool×Nat)×Nat):=(eX a1 a2 a3).bind fun v7=>(eX a4 a5 a6).bind fun v9=>(dQ a1 a2 v9).bind fun(v11,v12)=>(dQ a4 a5 v7).bind fun(v14,v15)=>(ju v11 v12 v14 v15).bind fun(v17,v18)=>(ow v7 v9).bind fun v20=>(ec v17 v18 v20).bind fun((v22,v23),v24)=>some ((v22,v23),v24)
theorem xH{a1:Bool}{a2:Nat}{a3:Nat}{a4:Bool}{a5:Nat}{a6:Nat}{r26:Bool}{r27:Nat}{r28:Nat}(h:oT a1 a2 a3 a4 a5 a6=some ((r26,r27),r28)):aS PP 42 [] [D.agg ([D.bool a1,aj a2,aj a3]),D.agg ([D.bool a4,aj a5,aj a6])] [] (D.agg ([D.bool r26,aj r27,aj r28])):=by
 unfold oT at h
 refine .of Go.Proofs.Tryz.func42 rfl (by kernel_rfl) rfl rfl rfl rfl rfl rfl (fun A w0 L b=>?_)
 show Ok PP _ [(0,D.agg ([D.bool a1,aj a2,aj a3])),(1,D.agg ([D.bool a4,aj a5,aj a6]))] [] _ _
 refine .al (.ie rfl rfl<|.ie rfl rfl<|.gd ([D.bool false,aj 0,aj 0]) aJ ⟨.refl _,aU,aU,trivial⟩ rfl<|.nil) rfl ?_
 obtain⟨v7,e8,h⟩:=bind_some h
 obtain⟨v9,e10,h⟩:=bind_some h
 refine .dc cg (.b_ ([D.bool a1,aj a2,aj a3]) rfl rfl ae rfl rfl<|.ah (gM e8) ⟨rfl,trivial⟩ trivial trivial<|.b_ ([D.bool a4,aj a5,aj a6]) rfl rfl ae rfl rfl<|.ah (gM e10) ⟨rfl,trivial⟩ trivial trivial<|.aq rfl<|.aq rfl<|.nil) rfl (by kernel_rfl) ?_
 obtain⟨⟨v11,v12⟩,e13,h⟩:=bind_some h
 obtain⟨⟨v14,v15⟩,e16,h⟩:=bind_some h
 obtain⟨⟨v17,v18⟩,e19,h⟩:=bind_some h
 obtain⟨v20,e21,h⟩:=bind_some h
 obtain⟨⟨⟨v22,v23⟩,v24⟩,e25,h⟩:=bind_some h
 refine .dc cg (.fa rfl bS<|.b_ ([D.bool a1,aj a2]) rfl rfl bk rfl rfl<|.mv rfl<|.ah (jd e13) ⟨rfl,rfl,trivial⟩ trivial trivial<|.fa rfl bS<|.b_ ([D.bool a4,aj a5]) rfl rfl bk rfl rfl<|.mv rfl<|.ah (jd e16) ⟨rfl,rfl,trivial⟩ trivial trivial<|.ah (vj e19) ⟨rfl,rfl,trivial⟩ trivial trivial<|.mv rfl<|.mv rfl<|.ah (so e21) ⟨rfl,rfl,trivial⟩ trivial trivial<|.ah (j3 e25) ⟨rfl,rfl,trivial⟩ trivial trivial<|.cH ([D.bool v22,aj v23,aj v24]) rfl rfl rfl ae rfl rfl rfl<|.nil) rfl (by kernel_rfl) ?_
 cases h
 refine .aH (fun _ _ hb=>hb) rfl (.cons (.agg rfl rfl ae rfl) .nil) (.refl _) trivial trivial
def oR(a1:Bool)(a2:Nat)(a3:Nat):Option ((Bool×Nat)×Nat):=(cu (!a1) a2).bind fun(v4,v5)=>some ((v4,v5),a3)
theorem xJ{a1:Bool}{a2:Nat}{a3:Nat}{r7:Bool}{r8:Nat}{r9:Nat}(h:oR a1 a2 a3=some ((r7,r8),r9)):aS PP 48 [] [D.agg ([D.bool a1,aj a2,aj a3])] [] (D.agg ([D.bool r7,aj r8,aj r9])):=by
 unfold oR at h
 refine .of Go.Proofs.Tryz.func48 rfl (by kernel_rfl) rfl rfl rfl rfl rfl rfl (fun A w0 L b=>?_)
 show Ok PP _ [(0,D.agg ([D.bool a1,aj a2,aj a3]))] [] _ _
 refine .al (.ie rfl rfl<|.gd ([D.bool false,aj 0,aj 0]) aJ ⟨.refl _,aU,aU,trivial⟩ rfl<|.nil) rfl ?_
 obtain⟨⟨v4,v5⟩,e6,h⟩:=bind_some h
 refine .dc cg (.fa rfl bS<|.fa rfl aO<|.bg (D.bool a1) rfl rfl bH rfl<|.not rfl<|.fa rfl bS<|.fa rfl aF<|.bg (aj a2) rfl rfl aR rfl<|.ah (dV e6) ⟨rfl,rfl,trivial⟩ trivial trivial<|.fa rfl kv<|.bg (aj a3) rfl rfl aR rfl<|.nW ([D.bool v4,aj v5,aj a3]) [(0,_,D.agg ([D.bool v4,aj v5]),[D.bool v4,aj v5]),(2,_,aj a3,[aj a3])] aJ cR ⟨rfl,rfl,.agg _,rfl,rfl,rfl,.one rfl,rfl,trivial⟩ ⟨rfl,rfl,trivial⟩ ⟨.refl _,.refl _,.refl _,trivial⟩<|.cH ([D.bool v4,aj v5,aj a3]) rfl rfl rfl ae rfl rfl rfl<|.nil) rfl (by kernel_rfl) ?_
 cases h
 refine .aH (fun _ _ hb=>hb) rfl (.cons (.agg rfl rfl ae rfl) .nil) (.refl _) trivial trivial
def qj(a1:Bool)(a2:Nat)(a3:Nat)(a4:Bool)(a5:Nat)(a6:Nat):Option ((Bool×Nat)×Nat):=(oR a4 a5 a6).bind fun((v7,v8),v9)=>(oT a1 a2 a3 v7 v8 v9).bind fun((v11,v12),v13)=>some ((v11,v12),v13)
theorem Dw{a1:Bool}{a2:Nat}{a3:Nat}{a4:Bool}{a5:Nat}{a6:Nat}{r15:Bool}{r16:Nat}{r17:Nat}(h:qj a1 a2 a3 a4 a5 a6=some ((r15,r16),r17)):aS PP 44 [] [D.agg ([D.bool a1,aj a2,aj a3]),D.agg ([D.bool a4,aj a5,aj a6])] [] (D.agg ([D.bool r15,aj r16,aj r17])):=by
 unfold qj at h
 refine .of Go.Proofs.Tryz.func44 rfl (by kernel_rfl) rfl rfl rfl rfl rfl rfl (fun A w0 L b=>?_)
 show Ok PP _ [(0,D.agg ([D.bool a1,aj a2,aj a3])),(1,D.agg ([D.bool a4,aj a5,aj a6]))] [] _ _
 refine .al (.ie rfl rfl<|.ie rfl rfl<|.gd ([D.bool false,aj 0,aj 0]) aJ ⟨.refl _,aU,aU,trivial⟩ rfl<|.nil) rfl ?_
 obtain⟨⟨⟨v7,v8⟩,v9⟩,e10,h⟩:=bind_some h
 obtain⟨⟨⟨v11,v12⟩,v13⟩,e14,h⟩:=bind_some h
 refine .dc cg (.b_ ([D.bool a1,aj a2,aj a3]) rfl rfl ae rfl rfl<|.b_ ([D.bool a4,aj a5,aj a6]) rfl rfl ae rfl rfl<|.ah (xJ e10) ⟨rfl,trivial⟩ trivial trivial<|.ah (xH e14) ⟨rfl,rfl,trivial⟩ trivial trivial<|.cH ([D.bool v11,aj v12,aj v13]) rfl rfl rfl ae rfl rfl rfl<|.nil) rfl (by kernel_rfl) ?_
 cases h
 refine .aH (fun _ _ hb=>hb) rfl (.cons (.agg rfl rfl ae rfl) .nil) (.refl _) trivial trivial
def qB(a1:Bool)(a2:Nat)(a3:Nat)(a4:Bool)(a5:Nat)(a6:Nat):Option ((Bool×Nat)×Nat):=(ow a2 a5).bind fun v7=>(cu (!(a1==a4)) v7).bind fun(v9,v10)=>(eX a1 a2 a3).bind fun v12=>(eX a4 a5 a6).bind fun v14=>(ow v12 v14).bind fun v16=>(ec v9 v10 v16).bind fun((v18,v19),v20)=>some ((v18,v19),v20)
theorem CA{a1:Bool}{a2:Nat}{a3:Nat}{a4:Bool}{a5:Nat}{a6:Nat}{r22:Bool}{r23:Nat}{r24:Nat}(h:qB a1 a2 a3 a4 a5 a6=some ((r22,r23),r24)):aS PP 46 [] [D.agg ([D.bool a1,aj a2,aj a3]),D.agg ([D.bool a4,aj a5,aj a6])] [] (D.agg ([D.bool r22,aj r23,aj r24])):=by
 unfold qB at h
 refine .of Go.Proofs.Tryz.func46 rfl (by kernel_rfl) rfl rfl rfl rfl rfl rfl (fun A w0 L b=>?_)
 show Ok PP _ [(0,D.agg ([D.bool a1,aj a2,aj a3])),(1,D.agg ([D.bool a4,aj a5,aj a6]))] [] _ _
 refine .al (.ie rfl rfl<|.ie rfl rfl<|.gd ([D.bool false,aj 0,aj 0]) aJ ⟨.refl _,aU,aU,trivial⟩ rfl<|.nil) rfl ?_
 obtain⟨v7,e8,h⟩:=bind_some h
 obtain⟨⟨v9,v10⟩,e11,h⟩:=bind_some h
 obtain⟨v12,e13,h⟩:=bind_some h
 obtain⟨v14,e15,h⟩:=bind_some h
 obtain⟨v16,e17,h⟩:=bind_some h
 obtain⟨⟨⟨v18,v19⟩,v20⟩,e21,h⟩:=bind_some h
 refine .dc cg (.fa rfl bS<|.fa rfl aO<|.bg (D.bool a1) rfl rfl bH rfl<|.fa rfl bS<|.fa rfl aO<|.bg (D.bool a4) rfl rfl bH rfl<|.bc il rfl rfl rfl<|.fa rfl bS<|.fa rfl aF<|.bg (aj a2) rfl rfl aR rfl<|.fa rfl bS<|.fa rfl aF<|.bg (aj a5) rfl rfl aR rfl<|.ah (so e8) ⟨rfl,rfl,trivial⟩ trivial trivial<|.ah (dV e11) ⟨rfl,rfl,trivial⟩ trivial trivial<|.b_ ([D.bool a1,aj a2,aj a3]) rfl rfl ae rfl rfl<|.ah (gM e13) ⟨rfl,trivial⟩ trivial trivial<|.b_ ([D.bool a4,aj a5,aj a6]) rfl rfl ae rfl rfl<|.ah (gM e15) ⟨rfl,trivial⟩ trivial trivial<|.ah (so e17) ⟨rfl,rfl,trivial⟩ trivial trivial<|.ah (j3 e21) ⟨rfl,rfl,trivial⟩ trivial trivial<|.cH ([D.bool v18,aj v19,aj v20]) rfl rfl rfl ae rfl rfl rfl<|.nil) rfl (by kernel_rfl) ?_
 cases h
 refine .aH (fun _ _ hb=>hb) rfl (.cons (.agg rfl rfl ae rfl) .nil) (.refl _) trivial trivial
def kL(a1:Bool)(a2:Nat)(a3:Nat)(a4:Bool)(a5:Nat)(a6:Nat):Option ((Bool×Nat)×Nat):=(eX a4 a5 a6).bind fun v7=>(ow a2 v7).bind fun v9=>(cu (!(a1==a4)) v9).bind fun(v11,v12)=>(eX a1 a2 a3).bind fun v14=>(ow v14 a5).bind fun v16=>(ec v11 v12 v16).bind fun((v18,v19),v20)=>some ((v18,v19),v20)
theorem wk{a1:Bool}{a2:Nat}{a3:Nat}{a4:Bool}{a5:Nat}{a6:Nat}{r22:Bool}{r23:Nat}{r24:Nat}(h:kL a1 a2 a3 a4 a5 a6=some ((r22,r23),r24)):aS PP 164 [] [D.agg ([D.bool a1,aj a2,aj a3]),D.agg ([D.bool a4,aj a5,aj a6])] [] (D.agg ([D.bool r22,aj r23,aj r24])):=by
 unfold kL at h
 refine .of Go.Proofs.Tryz.func164 rfl (by kernel_rfl) rfl rfl rfl rfl rfl rfl (fun A w0 L b=>?_)
 show Ok PP _ [(0,D.agg ([D.bool a1,aj a2,aj a3])),(1,D.agg ([D.bool a4,aj a5,aj a6]))] [] _ _
 refine .al (.ie rfl rfl<|.ie rfl rfl<|.gd ([D.bool false,aj 0,aj 0]) aJ ⟨.refl _,aU,aU,trivial⟩ rfl<|.nil) rfl ?_
 obtain⟨v7,e8,h⟩:=bind_some h
 obtain⟨v9,e10,h⟩:=bind_some h
 obtain⟨⟨v11,v12⟩,e13,h⟩:=bind_some h
 obtain⟨v14,e15,h⟩:=bind_some h
 obtain⟨v16,e17,h⟩:=bind_some h
 obtain⟨⟨⟨v18,v19⟩,v20⟩,e21,h⟩:=bind_some h
 refine .dc cg (.fa rfl bS<|.fa rfl aO<|.bg (D.bool a1) rfl rfl bH rfl<|.fa rfl bS<|.fa rfl aO<|.bg (D.bool a4) rfl rfl bH rfl<|.bc il rfl rfl rfl<|.fa rfl bS<|.fa rfl aF<|.bg (aj a2) rfl rfl aR rfl<|.b_ ([D.bool a4,aj a5,aj a6]) rfl rfl ae rfl rfl<|.ah (gM e8) ⟨rfl,trivial⟩ trivial trivial<|.ah (so e10) ⟨rfl,rfl,trivial⟩ trivial trivial<|.ah (dV e13) ⟨rfl,rfl,trivial⟩ trivial trivial<|.b_ ([D.bool a1,aj a2,aj a3]) rfl rfl ae rfl rfl<|.ah (gM e15) ⟨rfl,trivial⟩ trivial trivial<|.fa rfl bS<|.fa rfl aF<|.bg (aj a5) rfl rfl aR rfl<|.ah (so e17) ⟨rfl,rfl,trivial⟩ trivial trivial<|.ah (j3 e21) ⟨rfl,rfl,trivial⟩ trivial trivial<|.cH ([D.bool v18,aj v19,aj v20]) rfl rfl rfl ae rfl rfl rfl<|.nil) rfl (by kernel_rfl) ?_
 cases h
 refine .aH (fun _ _ hb=>hb) rfl (.cons (.agg rfl rfl ae rfl) .nil) (.refl _) trivial trivial
def ml(a1:Bool)(a2:Nat)(a3:Nat):Option Int:=(iy a1 a2).bind fun v4=>some v4
theorem vu{a1:Bool}{a2:Nat}{a3:Nat}{r6:Int}(h:ml a1 a2 a3=some r6):aS PP 24 [] [D.agg ([D.bool a1,aj a2,aj a3])] [] (D.int .i64 r6):=by
 unfold ml at h
 refine .of Go.Proofs.Tryz.func24 rfl (by kernel_rfl) rfl rfl rfl rfl rfl rfl (fun A w0 L b=>?_)
 show Ok PP _ [(0,D.agg ([D.bool a1,aj a2,aj a3]))] [] _ _
 refine .al (.ie rfl rfl<|.aq rfl<|.nil) rfl ?_
 obtain⟨v4,e5,h⟩:=bind_some h
 refine .al (.fa rfl bS<|.b_ ([D.bool a1,aj a2]) rfl rfl bk rfl rfl<|.ah (uB e5) ⟨rfl,trivial⟩ trivial trivial<|.aq rfl<|.nil) rfl ?_
 cases h
 refine .aH (fun _ _ hb=>hb) rfl (.cons (.tmp rfl) .nil) (.refl _) trivial trivial
def qO(a1:Bool)(a2:Nat)(a3:Nat):Option ((Bool×Nat)×Nat):=(cu false a2).bind fun(v4,v5)=>some ((v4,v5),a3)
theorem C2{a1:Bool}{a2:Nat}{a3:Nat}{r7:Bool}{r8:Nat}{r9:Nat}(h:qO a1 a2 a3=some ((r7,r8),r9)):aS PP 50 [] [D.agg ([D.bool a1,aj a2,aj a3])] [] (D.agg ([D.bool r7,aj r8,aj r9])):=by
 unfold qO at h
 refine .of Go.Proofs.Tryz.func50 rfl (by kernel_rfl) rfl rfl rfl rfl rfl rfl (fun A w0 L b=>?_)
 show Ok PP _ [(0,D.agg ([D.bool a1,aj a2,aj a3]))] [] _ _
 refine .al (.ie rfl rfl<|.gd ([D.bool false,aj 0,aj 0]) aJ ⟨.refl _,aU,aU,trivial⟩ rfl<|.nil) rfl ?_
 obtain⟨⟨v4,v5⟩,e6,h⟩:=bind_some h
 refine .dc cg (.fa rfl bS<|.fa rfl aF<|.bg (aj a2) rfl rfl aR rfl<|.ah (dV e6) ⟨rfl,rfl,trivial⟩ trivial trivial<|.fa rfl kv<|.bg (aj a3) rfl rfl aR rfl<|.nW ([D.bool v4,aj v5,aj a3]) [(0,_,D.agg ([D.bool v4,aj v5]),[D.bool v4,aj v5]),(2,_,aj a3,[aj a3])] aJ cR ⟨rfl,rfl,.agg _,rfl,rfl,rfl,.one rfl,rfl,trivial⟩ ⟨rfl,rfl,trivial⟩ ⟨.refl _,.refl _,.refl _,trivial⟩<|.cH ([D.bool v4,aj v5,aj a3]) rfl rfl rfl ae rfl rfl rfl<|.nil) rfl (by kernel_rfl) ?_
 cases h
 refine .aH (fun _ _ hb=>hb) rfl (.cons (.agg rfl rfl ae rfl) .nil) (.refl _) trivial trivial
def qF(a1:Bool)(a2:Nat)(a3:Nat)(a4:Bool)(a5:Nat)(a6:Nat):Option Int:=(eX a4 a5 a6).bind fun v7=>(dQ a1 a2 v7).bind fun(v9,v10)=>(eX a1 a2 a3).bind fun v12=>(dQ a4 a5 v12).bind fun(v14,v15)=>(jr v9 v10 v14 v15).bind fun v17=>some v17
theorem Cj{a1:Bool}{a2:Nat}{a3:Nat}{a4:Bool}{a5:Nat}{a6:Nat}{r19:Int}(h:qF a1 a2 a3 a4 a5 a6=some r19):aS PP 35 [] [D.agg ([D.bool a1,aj a2,aj a3]),D.agg ([D.bool a4,aj a5,aj a6])] [] (D.int .i64 r19):=by
 unfold qF at h
 refine .of Go.Proofs.Tryz.func35 rfl (by kernel_rfl) rfl rfl rfl rfl rfl rfl (fun A w0 L b=>?_)
 show Ok PP _ [(0,D.agg ([D.bool a1,aj a2,aj a3])),(1,D.agg ([D.bool a4,aj a5,aj a6]))] [] _ _
 refine .al (.ie rfl rfl<|.ie rfl rfl<|.aq rfl<|.nil) rfl ?_
 obtain⟨v7,e8,h⟩:=bind_some h
 obtain⟨⟨v9,v10⟩,e11,h⟩:=bind_some h
 obtain⟨v12,e13,h⟩:=bind_some h
 obtain⟨⟨v14,v15⟩,e16,h⟩:=bind_some h
 obtain⟨v17,e18,h⟩:=bind_some h
 refine .dc cg (.fa rfl bS<|.b_ ([D.bool a1,aj a2]) rfl rfl bk rfl rfl<|.b_ ([D.bool a4,aj a5,aj a6]) rfl rfl ae rfl rfl<|.ah (gM e8) ⟨rfl,trivial⟩ trivial trivial<|.ah (jd e11) ⟨rfl,rfl,trivial⟩ trivial trivial<|.fa rfl bS<|.b_ ([D.bool a4,aj a5]) rfl rfl bk rfl rfl<|.b_ ([D.bool a1,aj a2,aj a3]) rfl rfl ae rfl rfl<|.ah (gM e13) ⟨rfl,trivial⟩ trivial trivial<|.ah (jd e16) ⟨rfl,rfl,trivial⟩ trivial trivial<|.ah (uN e18) ⟨rfl,rfl,trivial⟩ trivial trivial<|.aq rfl<|.nil) rfl (by kernel_rfl) ?_
 cases h
 refine .aH (fun _ _ hb=>hb) rfl (.cons (.tmp rfl) .nil) (.refl _) trivial trivial
def qo(a1:Bool)(a2:Nat)(a3:Nat):Option ((Bool×Nat)×Nat):=(eX a1 a2 a3).bind fun v4=>(sE false v4).bind fun((v6,v7),v8)=>some ((v6,v7),v8)
theorem CL{a1:Bool}{a2:Nat}{a3:Nat}{r10:Bool}{r11:Nat}{r12:Nat}(h:qo a1 a2 a3=some ((r10,r11),r12)):aS PP 76 [] [D.agg ([D.bool a1,aj a2,aj a3])] [] (D.agg ([D.bool r10,aj r11,aj r12])):=by
 unfold qo at h
 refine .of Go.Proofs.Tryz.func76 rfl (by kernel_rfl) rfl rfl rfl rfl rfl rfl (fun A w0 L b=>?_)
 show Ok PP _ [(0,D.agg ([D.bool a1,aj a2,aj a3]))] [] _ _
 refine .al (.ie rfl rfl<|.gd ([D.bool false,aj 0,aj 0]) aJ ⟨.refl _,aU,aU,trivial⟩ rfl<|.nil) rfl ?_
 obtain⟨v4,e5,h⟩:=bind_some h
 obtain⟨⟨⟨v6,v7⟩,v8⟩,e9,h⟩:=bind_some h
 refine .al (.b_ ([D.bool a1,aj a2,aj a3]) rfl rfl ae rfl rfl<|.ah (gM e5) ⟨rfl,trivial⟩ trivial trivial<|.nW ([D.bool false,aj v4]) [(1,_,aj v4,[aj v4])] dC fS ⟨rfl,rfl,.one rfl,rfl,trivial⟩ ⟨rfl,trivial⟩ ⟨.refl _,.refl _,trivial⟩<|.ah (AD e9) ⟨rfl,trivial⟩ trivial trivial<|.cH ([D.bool v6,aj v7,aj v8]) rfl rfl rfl ae rfl rfl rfl<|.nil) rfl ?_
 cases h
 refine .aH (fun _ _ hb=>hb) rfl (.cons (.agg rfl rfl ae rfl) .nil) (.refl _) trivial trivial
def mU(a1:Bool)(a2:Nat)(a3:Nat):Option ((Bool×Nat)×Nat):=(eX a1 a2 a3).bind fun v4=>(gF a1 a2 v4).bind fun(v6,v7)=>(sE v6 v7).bind fun((v9,v10),v11)=>some ((v9,v10),v11)
theorem yP{a1:Bool}{a2:Nat}{a3:Nat}{r13:Bool}{r14:Nat}{r15:Nat}(h:mU a1 a2 a3=some ((r13,r14),r15)):aS PP 78 [] [D.agg ([D.bool a1,aj a2,aj a3])] [] (D.agg ([D.bool r13,aj r14,aj r15])):=by
 unfold mU at h
 refine .of Go.Proofs.Tryz.func78 rfl (by kernel_rfl) rfl rfl rfl rfl rfl rfl (fun A w0 L b=>?_)
 show Ok PP _ [(0,D.agg ([D.bool a1,aj a2,aj a3]))] [] _ _
 refine .al (.ie rfl rfl<|.gd ([D.bool false,aj 0,aj 0]) aJ ⟨.refl _,aU,aU,trivial⟩ rfl<|.nil) rfl ?_
 obtain⟨v4,e5,h⟩:=bind_some h
 obtain⟨⟨v6,v7⟩,e8,h⟩:=bind_some h
 obtain⟨⟨⟨v9,v10⟩,v11⟩,e12,h⟩:=bind_some h
 refine .dc cg (.fa rfl bS<|.b_ ([D.bool a1,aj a2]) rfl rfl bk rfl rfl<|.b_ ([D.bool a1,aj a2,aj a3]) rfl rfl ae rfl rfl<|.ah (gM e5) ⟨rfl,trivial⟩ trivial trivial<|.ah (sy e8) ⟨rfl,rfl,trivial⟩ trivial trivial<|.ah (AD e12) ⟨rfl,trivial⟩ trivial trivial<|.cH ([D.bool v9,aj v10,aj v11]) rfl rfl rfl ae rfl rfl rfl<|.nil) rfl (by kernel_rfl) ?_
 cases h
 refine .aH (fun _ _ hb=>hb) rfl (.cons (.agg rfl rfl ae rfl) .nil) (.refl _) trivial trivial
def pr(a1:Int):Option ((Bool×Nat)×Nat):=(lN 1).bind fun v2=>(sT v2 a1).bind fun v4=>(sE false v4).bind fun((v6,v7),v8)=>some ((v6,v7),v8)
theorem E0{a1:Int}{r10:Bool}{r11:Nat}{r12:Nat}(h:pr a1=some ((r10,r11),r12)):aS PP 171 [] [D.int .i64 a1] [] (D.agg ([D.bool r10,aj r11,aj r12])):=by
 unfold pr at h
 refine .of Go.Proofs.Tryz.func171 rfl (by kernel_rfl) rfl rfl rfl rfl rfl rfl (fun A w0 L b=>?_)
 show Ok PP _ [(0,D.int .i64 a1)] [] _ _
 refine .al (.gd ([D.bool false,aj 0,aj 0]) aJ ⟨.refl _,aU,aU,trivial⟩ rfl<|.nil) rfl ?_
 obtain⟨v2,e3,h⟩:=bind_some h
 obtain⟨v4,e5,h⟩:=bind_some h
 obtain⟨⟨⟨v6,v7⟩,v8⟩,e9,h⟩:=bind_some h
 refine .al (.ah (sA e3) ⟨rfl,trivial⟩ trivial trivial<|.mv rfl<|.ah (Bx e5) ⟨rfl,rfl,trivial⟩ trivial trivial<|.nW ([D.bool false,aj v4]) [(1,_,aj v4,[aj v4])] dC fS ⟨rfl,rfl,.one rfl,rfl,trivial⟩ ⟨rfl,trivial⟩ ⟨.refl _,.refl _,trivial⟩<|.ah (AD e9) ⟨rfl,trivial⟩ trivial trivial<|.cH ([D.bool v6,aj v7,aj v8]) rfl rfl rfl ae rfl rfl rfl<|.nil) rfl ?_
 cases h
 refine .aH (fun _ _ hb=>hb) rfl (.cons (.agg rfl rfl ae rfl) .nil) (.refl _) trivial trivial
def oh(a1:Bool)(a2:Nat)(a3:Nat)(a4:Int):Option (((Bool×Nat)×Nat)×Int):=(if(decide (a4<0))=true then some (((false,0),0),3)else(if(decide (a4>64))=true then some (((false,0),0),3)else(ml a1 a2 a3).bind fun v7=>(if(decide (v7<0))=true then some (((false,0),0),8)else(sT a2 (IntKind.i64.wrap (2*a4))).bind fun v10=>(eX a1 a2 a3).bind fun v12=>(j9 v10 v12).bind fun(v14,v15)=>(wD v14).bind fun v17=>(sE false v17).bind fun((v19,v20),v21)=>(pr a4).bind fun((v23,v24),v25)=>(kL v19 v20 v21 v23 v24 v25).bind fun((v27,v28),v29)=>some (((v27,v28),v29),0))))
theorem rK{a1:Bool}{a2:Nat}{a3:Nat}{a4:Int}{r31:Bool}{r32:Nat}{r33:Nat}{r34:Int}(h:oh a1 a2 a3 a4=some (((r31,r32),r33),r34)):aS PP 29 [] [D.agg ([D.bool a1,aj a2,aj a3]),D.int .i64 a4] [] (D.iC [D.agg ([D.bool r31,aj r32,aj r33]),D.int .i64 r34]):=by
 unfold oh at h
 refine .of Go.Proofs.Tryz.func29 rfl (by kernel_rfl) rfl rfl rfl rfl rfl rfl (fun A w0 L b=>?_)
 show Ok PP _ [(0,D.agg ([D.bool a1,aj a2,aj a3])),(1,D.int .i64 a4)] [] _ _
 refine .al (.ie rfl rfl<|.gd ([D.bool false,aj 0,aj 0]) aJ ⟨.refl _,aU,aU,trivial⟩ rfl<|.aq rfl<|.nil) rfl ?_
 refine .sq ?_
 refine .block ?_
 by_cases c5:(decide (a4<0))=true
 ·replace h:=aa c5 h
  refine .al (.mv rfl<|.cm rfl rfl rfl<|.mv rfl<|.eQ rfl rfl rfl c5<|.eQ rfl rfl rfl c5<|.bn rfl c5 rfl<|.aq rfl<|.nil) rfl ?_
  refine .cj rfl rfl ?_
  refine .al (.nW ([D.bool false,aj 0,aj 0]) [] aJ cR trivial trivial ⟨.refl _,aU,aU,trivial⟩<|.cH ([D.bool false,aj 0,aj 0]) rfl rfl rfl ae rfl rfl rfl<|.aq rfl<|.nil) rfl ?_
  cases h
  refine .aH (fun _ _ hb=>hb) rfl (.cons (.agg rfl rfl ae rfl) (.cons (.tmp rfl) .nil)) (.refl _) trivial trivial
 ·replace h:=ab c5 h
  refine .al (.mv rfl<|.cm rfl rfl rfl<|.mv rfl<|.dn rfl rfl rfl c5<|.mv rfl<|.dn rfl rfl rfl c5<|.cm rfl rfl rfl<|.bm rfl c5 rfl<|.aq rfl<|.nil) rfl ?_
  by_cases c6:(decide (a4>64))=true
  ·replace h:=aa c6 h
   refine .cj rfl c6 ?_
   refine .al (.nW ([D.bool false,aj 0,aj 0]) [] aJ cR trivial trivial ⟨.refl _,aU,aU,trivial⟩<|.cH ([D.bool false,aj 0,aj 0]) rfl rfl rfl ae rfl rfl rfl<|.aq rfl<|.nil) rfl ?_
   cases h
   refine .aH (fun _ _ hb=>hb) rfl (.cons (.agg rfl rfl ae rfl) (.cons (.tmp rfl) .nil)) (.refl _) trivial trivial
  ·replace h:=ab c6 h
   refine .ck rfl c6 ?_
   obtain⟨v7,e8,h⟩:=bind_some h
   refine .al (.b_ ([D.bool a1,aj a2,aj a3]) rfl rfl ae rfl rfl<|.ah (vu e8) ⟨rfl,trivial⟩ trivial trivial<|.cm rfl rfl rfl<|.aq rfl<|.nil) rfl ?_
   by_cases c9:(decide (v7<0))=true
   ·replace h:=aa c9 h
    refine .cj rfl c9 ?_
    refine .al (.nW ([D.bool false,aj 0,aj 0]) [] aJ cR trivial trivial ⟨.refl _,aU,aU,trivial⟩<|.cH ([D.bool false,aj 0,aj 0]) rfl rfl rfl ae rfl rfl rfl<|.aq rfl<|.nil) rfl ?_
    cases h
    refine .aH (fun _ _ hb=>hb) rfl (.cons (.agg rfl rfl ae rfl) (.cons (.tmp rfl) .nil)) (.refl _) trivial trivial
   ·replace h:=ab c9 h
    refine .ck rfl c9 ?_
    refine .skip (Ok.on ?_)
    obtain⟨v10,e11,h⟩:=bind_some h
    obtain⟨v12,e13,h⟩:=bind_some h
    obtain⟨⟨v14,v15⟩,e16,h⟩:=bind_some h
    refine .dc cg (.fa rfl bS<|.fa rfl aF<|.bg (aj a2) rfl rfl aR rfl<|.mv rfl<|.ar rfl rfl rfl<|.ah (Bx e11) ⟨rfl,rfl,trivial⟩ trivial trivial<|.b_ ([D.bool a1,aj a2,aj a3]) rfl rfl ae rfl rfl<|.ah (gM e13) ⟨rfl,trivial⟩ trivial trivial<|.ah (pM e16) ⟨rfl,rfl,trivial⟩ trivial trivial<|.mv rfl<|.ext rfl rfl<|.ext rfl rfl<|.aq rfl<|.aq rfl<|.nil) rfl (by kernel_rfl) ?_
    obtain⟨v17,e18,h⟩:=bind_some h
    obtain⟨⟨⟨v19,v20⟩,v21⟩,e22,h⟩:=bind_some h
    obtain⟨⟨⟨v23,v24⟩,v25⟩,e26,h⟩:=bind_some h
    obtain⟨⟨⟨v27,v28⟩,v29⟩,e30,h⟩:=bind_some h
    refine .al (.mv rfl<|.ah (EO e18) ⟨rfl,trivial⟩ trivial trivial<|.nW ([D.bool false,aj v17]) [(1,_,aj v17,[aj v17])] dC fS ⟨rfl,rfl,.one rfl,rfl,trivial⟩ ⟨rfl,trivial⟩ ⟨.refl _,.refl _,trivial⟩<|.ah (AD e22) ⟨rfl,trivial⟩ trivial trivial<|.mv rfl<|.ah (E0 e26) ⟨rfl,trivial⟩ trivial trivial<|.ah (wk e30) ⟨rfl,rfl,trivial⟩ trivial trivial<|.cH ([D.bool v27,aj v28,aj v29]) rfl rfl rfl ae rfl rfl rfl<|.aq rfl<|.nil) rfl ?_
    cases h
    refine .aH (fun _ _ hb=>hb) rfl (.cons (.agg rfl rfl ae rfl) (.cons (.tmp rfl) .nil)) (.refl _) trivial trivial
end
end Go.Am
namespace Go.Am
open Go.RowKit
theorem cA{x y m n:Nat}(h:bA x<=m)(k:bA y<=n):bA (x*y)<=m+n:=by
 rw[fY]at*
 rw[Nat.pow_add]
 exact Nat.mul_lt_mul'' h k
theorem jC{x y:Int}{n:Nat}(h:bA x.natAbs<=n)(k:bA y.natAbs<=n):bA (x+y).natAbs<=n+1:=
 Nat.le_trans (cW (Int.natAbs_add_le x y)) (oo h k)
def sg(neg:Bool)(n:Nat):Int:=if neg then-(n:Int)else n
theorem CH(z:Int):sg (decide (z<0)) z.natAbs=z:=by
 unfold sg
 by_cases h:z<0
 ·rw[decide_eq_true h,if_pos rfl];omega
 ·rw[decide_eq_false h,if_neg (by decide)];omega
theorem mu(neg:Bool)(n:Nat):(sg neg n).natAbs=n:=by unfold sg;split<;>omega
theorem xF(z w:Int):sg (!(decide (z<0)==decide (w<0))) (z.natAbs*w.natAbs)=z*w:=by
 unfold sg
 rcases Int.lt_or_le z 0 with h|h<;>rcases Int.lt_or_le w 0 with k|k
 ·rw[decide_eq_true h,decide_eq_true k,if_neg (by decide)]
  rw[Int.natCast_mul,Int.ofNat_natAbs_of_nonpos (Int.le_of_lt h),Int.ofNat_natAbs_of_nonpos (Int.le_of_lt k),Int.neg_mul_neg]
 ·rw[decide_eq_true h,decide_eq_false (by omega),if_pos (by decide)]
  rw[Int.natCast_mul,Int.ofNat_natAbs_of_nonpos (Int.le_of_lt h),Int.natAbs_of_nonneg k,Int.neg_mul,Int.neg_neg]
 ·rw[decide_eq_false (by omega),decide_eq_true k,if_pos (by decide)]
  rw[Int.natCast_mul,Int.natAbs_of_nonneg h,Int.ofNat_natAbs_of_nonpos (Int.le_of_lt k),Int.mul_neg,Int.neg_neg]
 ·rw[decide_eq_false (by omega),decide_eq_false (by omega),if_neg (by decide)]
  rw[Int.natCast_mul,Int.natAbs_of_nonneg h,Int.natAbs_of_nonneg k]
theorem Dj(z:Int)(d:Nat):sg (decide (z<0)) (z.natAbs*d)=z*d:=by
 have:=xF z d
 rw[show decide ((d:Int)<0)=false from decide_eq_false (by omega)]at this
 rw[←this]
 cases decide (z<0)<;>rfl
theorem Bp(z:Int):sg (!decide (z<0)) z.natAbs=-z:=by
 unfold sg
 by_cases h:z<0
 ·rw[decide_eq_true h,if_neg (by decide)];omega
 ·rw[decide_eq_false h,if_pos (by decide)];omega
theorem l6(n:Nat):decide (((aD n).length:Int)>0)=decide (n≠0):=by
 by_cases h:n=0
 ·subst h;rw[cN];rfl
 ·have:=cD h
  rw[decide_eq_true (by omega),decide_eq_true h]
theorem oA(n:Nat):(((aD n).length:Int)==0)=decide (n=0):=by
 by_cases h:n=0
 ·subst h;rw[cN];rfl
 ·have:=cD h
  rw[decide_eq_false h,beq_eq_false_iff_ne];omega
theorem du(neg:Bool)(n:Nat):cu neg n=some (decide (sg neg n<0),(sg neg n).natAbs):=by
 unfold cu
 rw[mu,l6]
 cases neg
 ·rw[if_neg (by decide)];unfold sg;rw[if_neg (by decide),decide_eq_false (by omega)]
 ·rw[if_pos rfl];unfold sg;rw[if_pos rfl]
  by_cases h:n=0
  ·subst h;rfl
  ·rw[decide_eq_true h,decide_eq_true (by omega)]
theorem sx(z:Int):iy (decide (z<0)) z.natAbs=some (if z<0 then-1 else if z=0 then 0 else 1):=by
 unfold iy
 rw[oA]
 by_cases h:z<0
 ·rw[if_pos (decide_eq_true h),if_pos h]
 ·rw[if_neg (by simpa using h),if_neg h]
  by_cases h0:z=0
  ·subst h0;rfl
  ·rw[if_neg (by simpa using h0),if_neg h0]
theorem tR(z w:Int)(hz:sm z.natAbs)(hw:sm w.natAbs):ju (decide (z<0)) z.natAbs (decide (w<0)) w.natAbs=some (decide (z+w<0),(z+w).natAbs):=by
 unfold ju
 have e1:∀(neg:Bool) (n:Nat),sg neg n=z+w->cu neg n=some (decide (z+w<0),(z+w).natAbs):=fun neg n h=>by rw[du,h]
 by_cases hs:(decide (z<0)==decide (w<0))=true
 ·rw[if_pos hs,oz hz hw,Option.bind_some,e1]
  ·rfl
  ·unfold sg
   rw[beq_iff_eq]at hs
   by_cases h:z<0
   ·rw[decide_eq_true h]at*
    have hs:=of_decide_eq_true hs.symm
    rw[if_pos rfl];omega
   ·rw[decide_eq_false h]at*
    have hs:=of_decide_eq_false hs.symm
    rw[if_neg (by decide)];omega
 ·rw[if_neg hs,oi hz hw,Option.bind_some]
  have hs2:(z<0/\0<=w)\/(0<=z/\w<0):=by
   rw[beq_iff_eq]at hs
   by_cases h:z<0<;>by_cases k:w<0
   ·rw[decide_eq_true h,decide_eq_true k]at hs;exact absurd rfl hs
   ·left;omega
   ·right;omega
   ·rw[decide_eq_false h,decide_eq_false k]at hs;exact absurd rfl hs
  by_cases hc:w.natAbs<=z.natAbs
  ·rw[if_pos (decide_eq_true (oV hc)),sa hc hz,Option.bind_some,e1]
   ·rfl
   ·unfold sg;split<;>rename_i h<;>simp only[decide_eq_true_eq]at h<;>omega
  ·have:fg z.natAbs w.natAbs=-1:=by unfold fg;rw[if_pos (by omega)]
   rw[this,if_neg (by decide),sa (by omega) hw,Option.bind_some,e1]
   ·rfl
   ·unfold sg;split<;>rename_i h<;>simp only[decide_eq_true_eq]at h<;>omega
theorem iO(z:Int)(d:Nat)(hz:sm z.natAbs)(hd:sm d):dQ (decide (z<0)) z.natAbs d=some (decide (z*d<0),(z*d).natAbs):=by
 unfold dQ
 rw[jZ hz hd,Option.bind_some,du,Dj];rfl
def Da(z w:Int):Int:=if z<w then-1 else if w<z then 1 else 0
theorem tP(z w:Int)(hz:sm z.natAbs)(hw:sm w.natAbs):jr (decide (z<0)) z.natAbs (decide (w<0)) w.natAbs=some (Da z w):=by
 unfold jr Da
 by_cases h:z<0<;>by_cases k:w<0
 ·rw[decide_eq_true h,decide_eq_true k,if_neg (by decide),if_pos rfl,oi hw hz]
  simp only[Option.bind_some,fg];congr 1;split<;>split<;>(try split)<;>(try split)<;>omega
 ·rw[decide_eq_true h,decide_eq_false k,if_pos (by decide),if_pos rfl,if_pos (by omega)]
 ·rw[decide_eq_false h,decide_eq_true k,if_pos (by decide),if_neg (by decide),if_neg (by omega),if_pos (by omega)]
 ·rw[decide_eq_false h,decide_eq_false k,if_neg (by decide),if_neg (by decide),oi hz hw]
  simp only[Option.bind_some,fg];congr 1;split<;>split<;>(try split)<;>(try split)<;>omega
theorem rC(z:Int)(d:Nat)(h0:d≠0)(hz:sm z.natAbs)(hd:sm d):gF (decide (z<0)) z.natAbs d=some (decide (z/d<0),(z/d).natAbs):=by
 unfold gF
 rw[iP h0 hz hd,Option.bind_some]
 simp only
 have hm:=Nat.div_add_mod z.natAbs d
 have hlt:=Nat.mod_lt z.natAbs (Nat.pos_of_ne_zero h0)
 have hq:sm (z.natAbs/d):=lQ (Nat.div_le_self _ _) hz
 have e1:lN (1:Int)=some 1:=jK (n:=1) (by omega)
 rw[e1,l6]
 have hsm1:sm 1:=iA (by omega)
 by_cases h:z<0
 ·rw[decide_eq_true h,if_pos rfl]
  by_cases hr:z.natAbs%d=0
  ·rw[if_neg (by simpa using hr),Option.bind_some,du]
   have:sg true (z.natAbs/d)=z/d:=by
    unfold sg;rw[if_pos rfl]
    symm;apply Int.ediv_eq_of_eq_mul_left (by omega)
    rw[Int.neg_mul,←Int.natCast_mul,Nat.mul_comm];omega
   rw[this];rfl
  ·rw[if_pos (by simpa using hr),Option.bind_some,oz hq hsm1,Option.bind_some,Option.bind_some,du]
   have:sg true (z.natAbs/d+1)=z/d:=by
    unfold sg;rw[if_pos rfl]
    symm
    have e:z=(((d-z.natAbs%d:Nat)):Int)+(d:Int)*(-((z.natAbs/d+1:Nat):Int)):=by
     have:((d*(z.natAbs/d):Nat):Int)=(d:Int)*((z.natAbs/d:Nat):Int):=Int.natCast_mul _ _
     rw[Int.mul_neg,Int.natCast_add,Int.mul_add];omega
    rw[e,Int.add_mul_ediv_left _ _ (by omega),Int.ediv_eq_zero_of_lt (by omega) (by omega)]
    rw[←e];omega
   rw[this];rfl
 ·rw[decide_eq_false h,if_neg (by decide),Option.bind_some,du]
  have:sg false (z.natAbs/d)=z/d:=by
   unfold sg;rw[if_neg (by decide),Int.natCast_ediv];congr 1;omega
  rw[this];rfl
theorem lB(n:Int)(h:eE n):ga n=some n.natAbs:=by
 unfold ga
 obtain⟨h0,h1⟩:=h
 by_cases hn:n<0
 ·have e1:IntKind.u64.wrap (0-IntKind.u64.wrap n)=((n.natAbs:Nat):Int):=by
   rw[IntKind.wrap_u64,IntKind.wrap_u64];omega
  rw[if_pos (decide_eq_true hn),e1,jK (by omega)];rfl
 ·have e1:IntKind.u64.wrap n=((n.natAbs:Nat):Int):=by rw[IntKind.wrap_u64];omega
  rw[if_neg (by simpa using hn),e1,jK (by omega)];rfl
end Go.Am
namespace Go.Am
open Go.RowKit
abbrev rp(x:Rat):(Bool×Nat)×Nat:=((decide (x.num<0),x.num.natAbs),x.den-1)
theorem BK{g:Nat}(h:g≠0):ix (aD g) 0=some (g%4294967296):=by
 rw[j7 h];rfl
theorem ru(z:Int)(d:Nat)(hd:d≠0):(mkRat z d).num=z/((Nat.gcd z.natAbs d:Nat):Int)/\(mkRat z d).den=d/Nat.gcd z.natAbs d:=by
 rw[Rat.num_mkRat,Rat.den_mkRat,if_neg hd,if_neg hd,Nat.gcd_comm];exact⟨rfl,rfl⟩
theorem Al(z:Int)(g:Nat)(hg:g∣z.natAbs):sg (decide (z<0)) (z.natAbs/g)=z/(g:Int):=by
 obtain⟨k,hk⟩:=hg
 rcases Nat.eq_zero_or_pos g with h0|h0
 ·subst h0;rw[Nat.zero_mul]at hk;have:z=0:=by omega
  subst this;rfl
 rw[hk,Nat.mul_div_cancel_left _ h0]
 unfold sg
 by_cases h:z<0
 ·rw[decide_eq_true h,if_pos rfl]
  symm;apply Int.ediv_eq_of_eq_mul_right (by omega)
  rw[Int.mul_neg,←Int.natCast_mul];omega
 ·rw[decide_eq_false h,if_neg (by decide)]
  symm;apply Int.ediv_eq_of_eq_mul_right (by omega)
  rw[←Int.natCast_mul];omega
theorem jo(z:Int)(d:Nat)(hd:d≠0)(hz:sm z.natAbs)(hs:sm d):ec (decide (z<0)) z.natAbs d=some (rp (mkRat z d)):=by
 obtain⟨e1,e2⟩:=ru z d hd
 unfold ec rp
 rw[Ak hz hs,Option.bind_some,e1,e2]
 have hg0:Nat.gcd z.natAbs d≠0:=fun h=>hd (Nat.eq_zero_of_gcd_eq_zero_right h)
 have hgd:Nat.gcd z.natAbs d∣d:=Nat.gcd_dvd_right _ _
 have hgs:sm (Nat.gcd z.natAbs d):=lQ (Nat.le_of_dvd (Nat.pos_of_ne_zero hd) hgd) hs
 have hsg:=Al z _ (Nat.gcd_dvd_left z.natAbs d)
 have hq1:d/Nat.gcd z.natAbs d≠0:=Nat.pos_iff_ne_zero.1 (Nat.div_pos (Nat.le_of_dvd (Nat.pos_of_ne_zero hd) hgd) (Nat.pos_of_ne_zero hg0))
 have hq2:sm (d/Nat.gcd z.natAbs d):=lQ (Nat.div_le_self _ _) hs
 generalize Nat.gcd z.natAbs d=g at*
 have dt:(if(((aD g).length:Int) !=1)=true then(j9 z.natAbs g).bind fun(v9,v10)=>(j9 d g).bind fun(v12,v13)=>some ((v12,v9))else(ix (aD g) 0).bind fun v15=>(if((v15:Int) !=1)=true then(j9 z.natAbs g).bind fun(v18,v19)=>(j9 d g).bind fun(v21,v22)=>some ((v21,v18))else some ((d,z.natAbs))))=some (d/g,z.natAbs/g):=by
  by_cases h1:(((aD g).length:Int) !=1)=true
  ·rw[if_pos h1,iP hg0 hz hgs,Option.bind_some];dsimp only;rw[iP hg0 hs hgs,Option.bind_some]
  ·rw[if_neg h1,BK hg0,Option.bind_some]
   by_cases h2:(((g%4294967296:Nat):Int) !=1)=true
   ·rw[if_pos h2,iP hg0 hz hgs,Option.bind_some];dsimp only;rw[iP hg0 hs hgs,Option.bind_some]
   ·rw[if_neg h2]
    have h3:(aD g).length=1:=by
     have:((aD g).length:Int)=1:=by simpa using h1
     omega
    have:=kt (x:=g)
    rw[h3]at this
    have h4:g%4294967296=1:=by simp at h2;omega
    have:g=1:=by omega
    subst this
    rw[Nat.div_one,Nat.div_one]
 rw[dt,Option.bind_some]
 simp only
 rw[du,hsg,Option.bind_some]
 simp only
 have e3:lN (1:Int)=some 1:=jK (n:=1) (by omega)
 rw[e3,Option.bind_some,sa (by omega) hq2];rfl
def qw(x:Rat):Prop:=sz x<=2000000000000
theorem jk{x:Rat}(h:eC x):qw x:=Nat.le_trans h (by omega)
theorem nZ{x:Rat}(h:qw x):bA x.num.natAbs<=2000000000000:=Nat.le_trans (Nat.le_max_left _ _) h
theorem nV{x:Rat}(h:qw x):bA x.den<=2000000000000:=Nat.le_trans (Nat.le_max_right _ _) h
theorem fL{x n:Nat}(h:bA x<=n)(k:n<=4398046511104):sm x:=Nat.le_trans h k
theorem fK{x:Rat}(h:qw x):sm x.num.natAbs:=fL (nZ h) (by omega)
theorem d_{x:Rat}(h:qw x):sm x.den:=fL (nV h) (by omega)
theorem l4{a b:Rat}(h:qw a)(k:qw b):bA (a.num*b.den).natAbs<=4000000000000:=by
 rw[Int.natAbs_mul];exact Nat.le_trans (cA (nZ h) (nV k)) (by omega)
theorem xU{a b:Rat}(h:qw a)(k:qw b):bA (a.den*b.den)<=4000000000000:=Nat.le_trans (cA (nV h) (nV k)) (by omega)
theorem DV{a b:Rat}(h:qw a)(k:qw b):bA (a.num*b.num).natAbs<=4000000000000:=by
 rw[Int.natAbs_mul];exact Nat.le_trans (cA (nZ h) (nZ k)) (by omega)
theorem fD(a:Rat)(neg:Bool)(n:Nat)(h:qw a):eX neg n (a.den-1)=some a.den:=by
 unfold eX
 have e3:lN (1:Int)=some 1:=jK (n:=1) (by omega)
 have:=a.den_pos
 rw[e3,Option.bind_some,oz (lQ (Nat.sub_le _ _) (d_ h)) (iA (by omega)),Nat.sub_add_cancel this];rfl
theorem vr(a b:Rat)(h:qw a)(k:qw b):oT (decide (a.num<0)) a.num.natAbs (a.den-1) (decide (b.num<0)) b.num.natAbs (b.den-1)=some (rp (a+b)):=by
 unfold oT
 rw[fD a _ _ h,Option.bind_some,fD b _ _ k,Option.bind_some,iO _ _ (fK h) (d_ k),Option.bind_some]
 simp only
 rw[iO _ _ (fK k) (d_ h),Option.bind_some]
 simp only
 rw[tR _ _ (fL (l4 h k) (by omega)) (fL (l4 k h) (by omega)),Option.bind_some]
 simp only
 rw[jZ (d_ h) (d_ k),Option.bind_some,jo _ _ (Nat.mul_ne_zero a.den_nz b.den_nz) (fL (jC (l4 h k) (l4 k h)) (by omega)) (fL (xU h k) (by omega)),←Rat.add_def']
 rfl
theorem vh(a:Rat):oR (decide (a.num<0)) a.num.natAbs (a.den-1)=some (rp (-a)):=by
 unfold oR rp
 rw[du,Bp,Rat.neg_num,Rat.neg_den];rfl
theorem A8(a:Rat):qw (-a)=qw a:=by unfold qw sz;rw[Rat.neg_num,Rat.neg_den,Int.natAbs_neg]
theorem BP(a b:Rat)(h:qw a)(k:qw b):qj (decide (a.num<0)) a.num.natAbs (a.den-1) (decide (b.num<0)) b.num.natAbs (b.den-1)=some (rp (a-b)):=by
 unfold qj
 rw[vh,Option.bind_some]
 simp only
 rw[vr a (-b) h (by rw[A8];exact k),←Rat.sub_eq_add_neg];rfl
theorem A7(a b:Rat)(h:qw a)(k:qw b):qB (decide (a.num<0)) a.num.natAbs (a.den-1) (decide (b.num<0)) b.num.natAbs (b.den-1)=some (rp (a*b)):=by
 unfold qB
 rw[jZ (fK h) (fK k),Option.bind_some,du,xF,Option.bind_some]
 simp only
 rw[fD a _ _ h,Option.bind_some,fD b _ _ k,Option.bind_some,jZ (d_ h) (d_ k),Option.bind_some,jo _ _ (Nat.mul_ne_zero a.den_nz b.den_nz) (fL (DV h k) (by omega)) (fL (xU h k) (by omega)),←Rat.mul_def']
 rfl
theorem xA(a b:Rat)(hb:b≠0):a/b=mkRat (sg (!(decide (a.num<0)==decide (b.num<0))) (a.num.natAbs*b.den)) (a.den*b.num.natAbs):=by
 have hn:b.num≠0:=fun h=>hb (Rat.num_eq_zero.1 h)
 have e:a/b=Rat.divInt (a.num*b.den) (a.den*b.num):=by
  have ea:=Rat.num_divInt_den a
  rw[Rat.div_def,Rat.inv_def]
  conv=>lhs;rw[←ea]
  rw[Rat.divInt_mul_divInt]
 rw[e]
 have hden:((a.den*b.num.natAbs:Nat):Int)=(a.den:Int)*(b.num.natAbs:Int):=Int.natCast_mul _ _
 rw[←Rat.divInt_ofNat,hden]
 have hnum:((a.num.natAbs*b.den:Nat):Int)=(a.num.natAbs:Int)*(b.den:Int):=Int.natCast_mul _ _
 rcases Int.lt_or_le b.num 0 with h|h
 ·have h1:(b.num.natAbs:Int)=-b.num:=Int.ofNat_natAbs_of_nonpos (Int.le_of_lt h)
  rw[h1,Int.mul_neg,Rat.divInt_neg']
  congr 1
  unfold sg
  rw[decide_eq_true h]
  rcases Int.lt_or_le a.num 0 with k|k
  ·rw[decide_eq_true k,if_neg (by decide),hnum,Int.ofNat_natAbs_of_nonpos (Int.le_of_lt k),Int.neg_mul,Int.neg_neg]
  ·rw[decide_eq_false (by omega),if_pos (by decide),hnum,Int.natAbs_of_nonneg k,Int.neg_neg]
 ·have h1:(b.num.natAbs:Int)=b.num:=Int.natAbs_of_nonneg h
  rw[h1]
  congr 1
  unfold sg
  rw[decide_eq_false (p:=b.num<0) (by omega)]
  rcases Int.lt_or_le a.num 0 with k|k
  ·rw[decide_eq_true k,if_pos (by decide),hnum,Int.ofNat_natAbs_of_nonpos (Int.le_of_lt k),Int.neg_mul,Int.neg_neg]
  ·rw[decide_eq_false (by omega),if_neg (by decide),hnum,Int.natAbs_of_nonneg k]
theorem tC(a b:Rat)(hb:b≠0)(h:qw a)(k:qw b):kL (decide (a.num<0)) a.num.natAbs (a.den-1) (decide (b.num<0)) b.num.natAbs (b.den-1)=some (rp (a/b)):=by
 have hn:b.num.natAbs≠0:=fun h=>hb (Rat.num_eq_zero.1 (by omega))
 unfold kL
 rw[fD b _ _ k,Option.bind_some,jZ (fK h) (d_ k),Option.bind_some,du,Option.bind_some]
 simp only
 rw[fD a _ _ h,Option.bind_some,jZ (d_ h) (fK k),Option.bind_some,jo _ _ (Nat.mul_ne_zero a.den_nz hn) (by rw[mu];exact fL (cA (nZ h) (nV k)) (by omega)) (fL (cA (nV h) (nZ k)) (by omega)),←xA a b hb]
 rfl
theorem yg(a:Rat):(if a.num<0 then(-1:Int)else if a.num=0 then 0 else 1)=zN a:=by
 unfold zN
 have h1:a.num<0↔a<0:=by
  rw[Rat.lt_iff];simp
 have h2:a.num=0↔a=0:=Rat.num_eq_zero
 simp only[h1,h2]
theorem s6(a:Rat)(d:Nat):ml (decide (a.num<0)) a.num.natAbs d=some (zN a):=by
 unfold ml;rw[sx,yg];rfl
theorem Bz(a:Rat):qO (decide (a.num<0)) a.num.natAbs (a.den-1)=some (rp (if a<0 then-a else a)):=by
 have h1:a.num<0↔a<0:=by rw[Rat.lt_iff];simp
 unfold qO rp
 rw[du,Option.bind_some]
 have e1:decide (sg false a.num.natAbs<0)=false:=by unfold sg;rw[if_neg (by decide)];exact decide_eq_false (by omega)
 rw[e1,mu]
 by_cases h:a<0
 ·have:=h1.2 h
  rw[if_pos h,Rat.neg_num,Rat.neg_den,Int.natAbs_neg,decide_eq_false (p:=-a.num<0) (by omega)]
 ·have:=fun k=>h (h1.1 k)
  rw[if_neg h,decide_eq_false (p:=a.num<0) this]
theorem Cb(a b:Rat):Da (a.num*b.den) (b.num*a.den)=iD a b:=by
 unfold Da iD;simp only[Rat.lt_iff]
theorem z_(a b:Rat)(h:qw a)(k:qw b):qF (decide (a.num<0)) a.num.natAbs (a.den-1) (decide (b.num<0)) b.num.natAbs (b.den-1)=some (iD a b):=by
 unfold qF
 rw[fD b _ _ k,Option.bind_some,iO _ _ (fK h) (d_ k),Option.bind_some]
 simp only
 rw[fD a _ _ h,Option.bind_some,iO _ _ (fK k) (d_ h),Option.bind_some]
 simp only
 rw[tP _ _ (fL (l4 h k) (by omega)) (fL (l4 k h) (by omega)),Cb];rfl
theorem EZ(z:Int):rp (z:Rat)=((decide (z<0),z.natAbs),0):=by
 unfold rp;rw[Rat.num_intCast,Rat.den_intCast]
theorem AA(z:Int):sE (decide (z<0)) z.natAbs=some (rp (z:Rat)):=by rw[EZ];rfl
theorem w7(n:Nat):sE false n=some (rp (n:Rat)):=by
 have:=AA n
 rw[decide_eq_false (by omega)]at this
 exact this
theorem BO(a:Rat)(neg:Bool)(n:Nat)(h:qw a):qo neg n (a.den-1)=some (rp (a.den:Rat)):=by
 unfold qo;rw[fD a _ _ h,Option.bind_some,w7];rfl
theorem xv(a:Rat)(h:qw a):mU (decide (a.num<0)) a.num.natAbs (a.den-1)=some (rp (a.floor:Rat)):=by
 unfold mU
 rw[fD a _ _ h,Option.bind_some,rC _ _ a.den_nz (fK h) (d_ h),Option.bind_some]
 simp only
 rw[AA,Rat.floor_def];rfl
end Go.Am
namespace Go.Am
open Go.RowKit
theorem B7:lN (1:Int)=some 1:=jK (n:=1) (by omega)
theorem E_(n:Int)(h:eE n):x_ n=some (rp (n:Rat)):=by
 unfold x_
 rw[lB n h,Option.bind_some,du,CH,Option.bind_some]
 dsimp only
 rw[AA];rfl
theorem tV{n:Int}(h:eE n):sm n.natAbs:=iA (by unfold eE at h;omega)
theorem Cc(a b:Int)(hb:b≠0):(a:Rat)/(b:Rat)=mkRat (sg (!(decide (a<0)==decide (b<0))) a.natAbs) b.natAbs:=by
 have h1:(b:Rat)≠0:=fun h=>hb (by rw[←Rat.intCast_zero,Rat.intCast_inj]at h;exact h)
 have:=xA a b h1
 rw[Rat.num_intCast,Rat.num_intCast,Rat.den_intCast,Rat.den_intCast,Nat.mul_one,Nat.one_mul]at this
 exact this
theorem Fw(n d:Int)(h:eE n)(k:eE d):Cg n d=some (if d=0 then(rp 0,9)else(rp ((n:Rat)/(d:Rat)),0)):=by
 unfold Cg
 by_cases h0:d=0
 ·subst h0;rfl
 ·rw[if_neg (by rw[beq_iff_eq];exact h0),if_neg h0,lB n h,Option.bind_some,du,Option.bind_some]
  dsimp only
  rw[lB d k,Option.bind_some,jo _ _ (by omega) (by rw[mu];exact tV h) (tV k),←Cc n d h0]
  rfl
theorem mZ(z:Int)(d:Nat):(mkRat z d).num.natAbs<=z.natAbs:=by
 rw[Rat.num_mkRat]
 split
 ·exact Nat.zero_le _
 ·rename_i h
  rw[Int.natAbs_ediv_of_dvd]
  ·exact Nat.div_le_self _ _
  ·rw[Int.ofNat_dvd_left];exact Nat.gcd_dvd_right _ _
theorem i5(z:Int)(d:Nat)(h:d≠0):(mkRat z d).den<=d:=by
 rw[Rat.den_mkRat,if_neg h];exact Nat.div_le_self _ _
theorem gA{x:Rat}{n:Nat}:sz x<=n↔bA x.num.natAbs<=n/\bA x.den<=n:=Nat.max_le
theorem mf:bA 1=1:=rfl
theorem rX(a b:Rat):sz (a+b)<=sz a+sz b+1:=by
 rw[Rat.add_def']
 have ha:=gA.1 (Nat.le_refl (sz a));have hb:=gA.1 (Nat.le_refl (sz b))
 refine gA.2 ⟨Nat.le_trans (cW (mZ _ _)) (jC ?_ ?_),Nat.le_trans (cW (i5 _ _ (Nat.mul_ne_zero a.den_nz b.den_nz))) ?_⟩
 ·rw[Int.natAbs_mul];exact cA ha.1 hb.2
 ·rw[Int.natAbs_mul,Nat.add_comm];exact cA hb.1 ha.2
 ·exact Nat.le_trans (cA ha.2 hb.2) (by omega)
theorem uw(a:Rat):sz (-a)=sz a:=by unfold sz;rw[Rat.neg_num,Rat.neg_den,Int.natAbs_neg]
theorem qW(a b:Rat):sz (a-b)<=sz a+sz b+1:=by
 rw[Rat.sub_eq_add_neg,←uw b];exact rX a (-b)
theorem lZ(a b:Rat):sz (a*b)<=sz a+sz b:=by
 rw[Rat.mul_def']
 have ha:=gA.1 (Nat.le_refl (sz a));have hb:=gA.1 (Nat.le_refl (sz b))
 refine gA.2 ⟨Nat.le_trans (cW (mZ _ _)) ?_,Nat.le_trans (cW (i5 _ _ (Nat.mul_ne_zero a.den_nz b.den_nz))) ?_⟩
 ·rw[Int.natAbs_mul];exact cA ha.1 hb.1
 ·exact cA ha.2 hb.2
theorem ET(a b:Rat)(h:b≠0):sz (a/b)<=sz a+sz b:=by
 rw[xA a b h]
 have hn:b.num.natAbs≠0:=fun h'=>h (Rat.num_eq_zero.1 (by omega))
 have ha:=gA.1 (Nat.le_refl (sz a));have hb:=gA.1 (Nat.le_refl (sz b))
 refine gA.2 ⟨Nat.le_trans (cW (mZ _ _)) ?_,Nat.le_trans (cW (i5 _ _ (Nat.mul_ne_zero a.den_nz hn))) ?_⟩
 ·rw[mu];exact cA ha.1 hb.2
 ·exact cA ha.2 hb.1
theorem ph(z:Int):sz (z:Rat)<=bA z.natAbs+1:=by
 rw[gA,Rat.num_intCast,Rat.den_intCast,mf];omega
theorem wq(a:Rat):sz (a.floor:Rat)<=sz a+1:=by
 have ha:=gA.1 (Nat.le_refl (sz a))
 refine Nat.le_trans (ph _) (Nat.succ_le_succ (Nat.le_trans (cW ?_) ha.1))
 rw[Rat.floor_def]
 exact Int.natAbs_ediv_le_natAbs _ _
theorem EU(a:Rat):sz (if a<0 then-a else a)=sz a:=by split<;>simp[uw]
theorem wN(a:Rat):sz (a.den:Rat)<=sz a+1:=by
 have ha:=gA.1 (Nat.le_refl (sz a))
 have:=ph (a.den:Int)
 rw[Int.natAbs_natCast]at this
 exact Nat.le_trans this (by omega)
end Go.Am
namespace Go.Am
open Go.RowKit
theorem vS(a:Rat):decide (((aD (a.den-1)).length:Int)>0)=decide (a.den≠1):=by
 have:=a.den_pos
 rw[l6]
 by_cases h:a.den=1
 ·rw[decide_eq_false (by omega),decide_eq_false (by omega)]
 ·rw[decide_eq_true (by omega),decide_eq_true h]
theorem mn{x n:Nat}(h:bA x<=n):(gB x).length<=n+1:=by
 unfold gB
 split
 ·simp
 ·unfold bytesOf
  rw[List.length_map,List.length_reverse]
  exact Nat.le_trans (xg n x (nO h)) (by omega)
theorem vw{a:Nat}(h:sm a):yh a=some (gB a):=bY h rfl
theorem CP(a:Rat)(h:eC a):oM (decide (a.num<0)) a.num.natAbs (a.den-1)=some (Fb a):=by
 have h1:(gB a.num.natAbs).length<=400000000001:=mn (gA.1 h).1
 have h2:(gB a.den).length<=400000000001:=mn (gA.1 h).2
 unfold oM Fb
 rw[vw (fK (jk h)),Option.bind_some,vS]
 have e1:(if decide (a.num<0)=true then bZ (([45]:List UInt8).length+(gB a.num.natAbs).length<=9223372036854775807) (some ((([45]:List UInt8)++gB a.num.natAbs)))else some (gB a.num.natAbs))=some ((if a.num<0 then [45]else [])++gB a.num.natAbs):=by
  by_cases h:a.num<0
  ·rw[if_pos (decide_eq_true h),if_pos h];exact bY (by simp only[List.length_cons,List.length_nil];omega) rfl
  ·rw[if_neg (by simpa using h),if_neg h];rfl
 rw[e1,Option.bind_some]
 have h3:((if a.num<0 then [45]else [])++gB a.num.natAbs:List UInt8).length<=400000000002:=by
  rw[List.length_append];split<;>simp only[List.length_cons,List.length_nil]<;>omega
 generalize ((if a.num<0 then [45]else [])++gB a.num.natAbs:List UInt8)=t at*
 by_cases hd:a.den=1
 ·rw[if_neg (by simpa using hd),if_pos hd,List.append_nil];rfl
 ·rw[if_pos (decide_eq_true hd),if_neg hd,fD a _ _ (jk h),Option.bind_some,vw (d_ (jk h)),Option.bind_some]
  rw[aQ (by simp only[List.length_cons,List.length_nil];omega),aQ (by simp only[List.length_append,List.length_cons,List.length_nil];omega)]
  rfl
theorem x5(k:Nat):((2^k:Nat):Rat)=2^k:=by rw[Rat.natCast_pow];rfl
theorem Cx(k:Int)(h:0<=k/\k<=100000):pr k=some (rp ((2:Rat)^k.toNat)):=by
 obtain⟨n,rfl⟩:∃n:Nat,k=n:=⟨k.toNat,by omega⟩
 unfold pr
 rw[B7,Option.bind_some,rn (iA (by omega)) (by omega),Option.bind_some,Nat.one_mul,w7,Int.toNat_natCast,x5]
 rfl
theorem wQ{x m:Nat}(h:bA x<=2*m):bA (dO x)<=m:=by
 rw[fY]at*
 apply Classical.byContradiction
 intro hc
 have h1:=Nat.mul_le_mul (Nat.le_of_not_lt hc) (Nat.le_of_not_lt hc)
 have h2:=oK x
 rw[←Nat.pow_add,show m+m=2*m from by omega]at h1
 omega
def DB(a:Rat)(k:Nat):Rat:=((dO (a.num.natAbs*2^(2*k)/a.den):Nat):Rat)/2^k
def B1(a:Rat)(k:Int):Option (Rat×Int):=bZ (eC a/\eE k) (some (if k<0\/64<k then(0,3)else if a<0 then(0,8)else(DB a k.toNat,0)))
theorem El(k:Nat):sz ((2:Rat)^k)<=k+1:=by
 rw[←x5,gA,Rat.num_natCast,Rat.den_natCast,Int.natAbs_natCast,mf]
 exact⟨ry (Nat.lt_succ_self k),by omega⟩
theorem ED(k:Nat)(h:k<=100000):qw ((2:Rat)^k):=by
 have:=El k
 unfold qw
 generalize sz ((2:Rat)^k)=t at*
 omega
theorem Eu(k:Nat):(2:Rat)^k≠0:=by
 have:(0:Rat)<2^k:=Rat.pow_pos (by decide)
 intro h;rw[h]at this;exact Rat.lt_irrefl this
theorem Dt{x n:Nat}(hx:bA x<=400000000000)(hn:n<=64):bA (x*2^(2*n))<=400000000129:=by
 have h1:2*n<129:=by omega
 exact Nat.le_trans (cA hx (ry h1)) (by decide)
theorem zw(N d n:Nat)(hn:n<=64)(hd:d≠0)(hN:sm N)(hsd:sm d)(hb:bA (N*2^(2*n))<=400000000129)(hq:bA (N*2^(2*n)/d)<=400000000130):
  (sT N (IntKind.i64.wrap (2*(n:Int)))).bind (fun v10=>(j9 v10 d).bind fun(v14,_)=>wD v14)=some (dO (N*2^(2*n)/d)):=by
 have ew:IntKind.i64.wrap (2*(n:Int))=((2*n:Nat):Int):=by rw[wrap_small (by omega) (by omega)];omega
 have hk:2*n<35184372088832:=by omega
 rw[ew,rn hN hk,Option.bind_some]
 generalize N*2^(2*n)=X at*
 rw[iP hd (fL hb (by omega)) hsd,Option.bind_some]
 dsimp only
 exact bY (Nat.le_trans hq (by omega)) rfl
theorem Cz(X:Nat)(h:bA X<=400000000130):qw ((dO X:Nat):Rat):=by
 have h2:bA (dO X)<=200000000065:=wQ h
 refine gA.2 ⟨?_,by rw[Rat.den_natCast,mf];omega⟩
 rw[Rat.num_natCast,Int.natAbs_natCast]
 exact Nat.le_trans h2 (by omega)
theorem B6(X n:Nat)(hn:n<=64)(hq:bA X<=400000000130):((sE false (dO X)).bind fun((v19,v20),v21)=>(pr (n:Int)).bind fun((v23,v24),v25)=>(kL v19 v20 v21 v23 v24 v25).bind fun((v27,v28),v29)=>some (((v27,v28),v29),(0:Int)))=some (rp (((dO X:Nat):Rat)/2^n),0):=by
 have hf:=Cx (n:Int) ⟨by omega,by omega⟩
 have hw:=ED n (by omega)
 have hne:=Eu n
 rw[Int.toNat_natCast]at hf
 rw[hf,w7]
 simp only[Option.bind_some,rp]
 rw[tC _ _ hne (Cz _ hq) hw]
 rfl
theorem CB(a:Rat)(k:Int)(h:eC a):oh (decide (a.num<0)) a.num.natAbs (a.den-1) k=some (if k<0\/64<k then(rp 0,3)else if a<0 then(rp 0,8)else(rp (DB a k.toNat),0)):=by
 unfold oh
 by_cases h0:k<0
 ·rw[if_pos (decide_eq_true h0),if_pos (.inl h0)];rfl
 rw[if_neg (by simpa using h0)]
 by_cases h1:64<k
 ·rw[if_pos (decide_eq_true h1),if_pos (.inr h1)];rfl
 obtain⟨n,rfl⟩:∃n:Nat,k=n:=⟨k.toNat,by omega⟩
 have hn64:n<=64:=by omega
 rw[if_neg (by simpa using h1),if_neg (by omega),s6,Option.bind_some]
 by_cases hn:a<0
 ·rw[if_pos (by unfold zN;rw[if_pos hn];decide),if_pos hn];rfl
 rw[if_neg (by unfold zN;rw[if_neg hn];split<;>decide),if_neg hn]
 have hb:=Dt (gA.1 h).1 hn64
 have hq:=Nat.le_trans (Nat.le_trans (cW (Nat.div_le_self (a.num.natAbs*2^(2*n)) a.den)) hb) (show 400000000129<=400000000130 by decide)
 have hc:=zw a.num.natAbs a.den n hn64 a.den_nz (fK (jk h)) (d_ (jk h)) hb hq
 obtain⟨v10,e10,hc⟩:=bind_some hc
 obtain⟨⟨v14,v15⟩,e14,hc⟩:=bind_some hc
 rw[e10,Option.bind_some,fD a _ _ (jk h),Option.bind_some,e14,Option.bind_some]
 dsimp only at hc|-
 rw[hc,Option.bind_some]
 exact B6 _ n hn64 hq
theorem kX{a1:Int}{r2:Rat}(h:gz a1=some r2):aS PP 40 [] [D.int .i64 a1] [] (qD r2):=by
 obtain⟨h0,h⟩:=aw h
 injection h with h;subst h
 exact Fy (E_ a1 h0)
theorem F7{a1:Int}{a2:Int}{r3:Rat}{r4:Int}(h:B9 a1 a2=some (r3,r4)):aS PP 36 [] [D.int .i64 a1,D.int .i64 a2] [] (D.iC [qD r3,D.int .i64 r4]):=by
 obtain⟨h0,h⟩:=aw h
 have e:=Fw a1 a2 h0.1 h0.2
 injection h with h
 by_cases hd:a2=0
 ·rw[if_pos hd]at h e;injection h with h1 h2;subst h1;subst h2
  exact FF e
 ·rw[if_neg hd]at h e;injection h with h1 h2;subst h1;subst h2
  exact FF e
theorem pQ{a1:Rat}{a2:Rat}{r3:Rat}(h:lT a1 a2=some r3):aS PP 42 [] [qD a1,qD a2] [] (qD r3):=by
 obtain⟨h0,h⟩:=aw h
 injection h with h;subst h
 exact xH (vr a1 a2 (jk h0.1) (jk h0.2))
theorem sN{a1:Rat}{a2:Rat}{r3:Rat}(h:ky a1 a2=some r3):aS PP 44 [] [qD a1,qD a2] [] (qD r3):=by
 obtain⟨h0,h⟩:=aw h
 injection h with h;subst h
 exact Dw (BP a1 a2 (jk h0.1) (jk h0.2))
theorem oN{a1:Rat}{a2:Rat}{r3:Rat}(h:iR a1 a2=some r3):aS PP 46 [] [qD a1,qD a2] [] (qD r3):=by
 obtain⟨h0,h⟩:=aw h
 injection h with h;subst h
 exact CA (A7 a1 a2 (jk h0.1) (jk h0.2))
theorem nH{a1:Rat}{a2:Rat}{r3:Rat}(h:gS a1 a2=some r3):aS PP 164 [] [qD a1,qD a2] [] (qD r3):=by
 obtain⟨h0,h⟩:=aw h
 injection h with h;subst h
 exact wk (tC a1 a2 h0.1 (jk h0.2.1) (jk h0.2.2))
theorem FJ{a1:Rat}{r2:Rat}(h:vP a1=some r2):aS PP 48 [] [qD a1] [] (qD r2):=by
 injection h with h;subst h
 exact xJ (vh a1)
theorem DX{a1:Rat}{r2:Rat}(h:yB a1=some r2):aS PP 50 [] [qD a1] [] (qD r2):=by
 injection h with h;subst h
 exact C2 (Bz a1)
theorem ve{a1:Rat}{a2:Rat}{r3:Int}(h:mF a1 a2=some r3):aS PP 35 [] [qD a1,qD a2] [] (D.int .i64 r3):=by
 obtain⟨h0,h⟩:=aw h
 injection h with h;subst h
 exact Cj (z_ a1 a2 (jk h0.1) (jk h0.2))
theorem wA{a1:Rat}{r2:Int}(h:i_ a1=some r2):aS PP 24 [] [qD a1] [] (D.int .i64 r2):=by
 injection h with h;subst h
 exact vu (s6 a1 _)
theorem Aa{a1:Rat}{r2:Rat}(h:rR a1=some r2):aS PP 76 [] [qD a1] [] (qD r2):=by
 obtain⟨h0,h⟩:=aw h
 injection h with h;subst h
 exact CL (BO a1 _ _ (jk h0))
theorem yA{a1:Rat}{r2:Rat}(h:ox a1=some r2):aS PP 78 [] [qD a1] [] (qD r2):=by
 obtain⟨h0,h⟩:=aw h
 injection h with h;subst h
 exact yP (xv a1 (jk h0))
theorem Bq{a1:Rat}{r2:List UInt8}(h:po a1=some r2):aS PP 33 [] [qD a1] [] (bU r2):=by
 obtain⟨h0,h⟩:=aw h
 exact BH ((CP a1 h0).trans h)
theorem EL{a1:Rat}{a2:Int}{r3:Rat}{r4:Int}(h:B1 a1 a2=some (r3,r4)):aS PP 29 [] [qD a1,D.int .i64 a2] [] (D.iC [qD r3,D.int .i64 r4]):=by
 obtain⟨h0,h⟩:=aw h
 have e:=CB a1 a2 h0.1
 injection h with h
 by_cases hd:a2<0\/64<a2
 ·rw[if_pos hd]at h e;injection h with h1 h2;subst h1;subst h2
  exact rK e
 ·rw[if_neg hd]at h e
  by_cases hn:a1<0
  ·rw[if_pos hn]at h e;injection h with h1 h2;subst h1;subst h2
   exact rK e
  ·rw[if_neg hn]at h e;injection h with h1 h2;subst h1;subst h2
   exact rK e
end Go.Am
