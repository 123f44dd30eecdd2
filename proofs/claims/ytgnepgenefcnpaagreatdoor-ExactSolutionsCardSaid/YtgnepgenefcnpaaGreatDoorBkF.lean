/- Part 6 of 7 of what the laws of layer 1 share: contracts of functions of the program, each for every argument of its description; no condition beyond it. -/
import Derived.Test.YtgnepgenefcnpaaGreatDoorBkE
import Derived.Lib.SmallJoins
import Derived.JoinedOf
import Derived.SevenTiedAt
import Derived.KernelRfl
import Derived.SizedLaws
import Derived.ShutString
import Derived.Carry
set_option linter.unusedVariables false
set_option linter.unusedSimpArgs false
namespace Go.Am
set_option maxRecDepth 100000
open Go.RowKit Go.ChangeShapes Go.WideShapes Go.ChangeAt Go.Deep
theorem laidOut:laidOutB PP=true:=by kernel_rfl
theorem Fh:mapsRowed PP=true:=by kernel_rfl
theorem GI:false=PP.looks []:=by kernel_rfl
theorem mainIs:PP.mainIs=some (true,("8bda451d2dc9f473a89e44847a5b0bd84339d99a2acb6b2f94f1282031d25d93").toList):=by kernel_rfl
theorem G9:ownKnob PP.godebug=none:=by kernel_rfl
theorem Dz:PP.cellsOf 2=1:=by kernel_rfl
theorem EP:PP.cellsOf 5=1:=by kernel_rfl
theorem tS:PP.cellsOf 43=3:=by kernel_rfl
theorem wf_i64{n:Int}(h:(Lit.int .i64 n).wf=true):eM n:=by
 simp only[Lit.wf,Bool.and_eq_true,decide_eq_true_eq]at h;have h1:IntKind.i64.min=-9223372036854775808:=by decide
 have h2:IntKind.i64.max=9223372036854775807:=by decide
 rw[h1,h2]at h;unfold eM;omega
theorem wf_u8{n:Int}(h:(Lit.int .u8 n).wf=true):0<=n/\n<=255:=by
 simp only[Lit.wf,Bool.and_eq_true,decide_eq_true_eq]at h;have h1:IntKind.u8.min=0:=by decide
 have h2:IntKind.u8.max=255:=by decide
 rw[h1,h2]at h;omega
section
variable {H:Type} {enc:TypeId×Value->H} {w:World} {base:Nat} {spare:Nat->Bool} {held:Bool} {fuel:Nat}
theorem tM{cs:List Value}{x:DataW H×List MemPlace}(h:DataW.trod enc PP w base spare held fuel 43 cs=some x):
  ∃a b c:Int,cs=[.int .i64 a,.int .i64 b,.int .u8 c]/\eM a/\eM b/\0<=c/\c<=255:=by
 obtain⟨y0,y1,y2,n,_,hl,h0,h1,h2⟩:=trod_struct3 Go.Proofs.Tryz.underlying43 h;rw[tS]at hl
 match cs,hl with
 |[v0,v1,v2],_=>
  dsimp only at h0 h1 h2;rw[Dz]at h0 h1;rw[EP]at h2;obtain⟨a,e0,_,w0⟩:=DataW.trod_int Go.Proofs.Tryz.underlying2 h0;obtain⟨b,e1,_,w1⟩:=DataW.trod_int Go.Proofs.Tryz.underlying2 h1;obtain⟨c,e2,_,w2⟩:=DataW.trod_int Go.Proofs.Tryz.underlying5 h2;simp at e0 e1 e2;subst e0;subst e1;subst e2;exact⟨a,b,c,rfl,wf_i64 w0,wf_i64 w1,wf_u8 w2⟩
theorem EB{t:TypeId}{fs:Array Field}{r:Reach}{b0:Nat}{v:Value}{d:DataW H}{p:List MemPlace}(hs:PP.underlying t=some (.struct fs))(hv:Value.okWide PP w r b0 t v)(h:DataW.Trod enc PP w base spare held t v d p):
  ∃cs:Array Value,v=.agg cs/\∃n,DataW.trod enc PP w base spare held n t cs.toList=some (d,p):=by
 obtain⟨cs,rfl,_⟩:=okWide_struct hs hv;obtain⟨n,hn⟩:=h;exact⟨cs,rfl,n,by simpa [Value.cells]using hn⟩
theorem IN{ε:Env}{S:ck}{l:List (IntKind×Int)}{cs:Array Value}(h:cs.toList=l.map fun x=>.int x.1 x.2):(D.agg (l.map fun x=>D.int x.1 x.2)).p ε w S (.agg cs):=by
 refine⟨cs.toList,by simp,?_,?_⟩
 ·rw[h];intro u hu;obtain⟨x,_,rfl⟩:=List.mem_map.1 hu
  rfl
 ·rw[h];clear h
  induction l with
  |nil=>trivial
  |cons x l ih=>exact⟨rfl,ih⟩
end
end Go.Am
