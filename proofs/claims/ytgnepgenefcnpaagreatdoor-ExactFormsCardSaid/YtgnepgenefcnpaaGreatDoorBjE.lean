/- Part 5 of 6 of what the laws of layer 1 share: contracts of functions of the program, each for every argument of its description; no condition beyond it. -/
import Derived.Test.YtgnepgenefcnpaaGreatDoorBjD
import Derived.Lib.SmallJoins
import Derived.JoinedOf
import Derived.SevenTiedAt
import Derived.KernelRfl
import Derived.SizedLaws
import Derived.ShutString
import Derived.Carry
set_option linter.unusedVariables false
set_option linter.unusedSimpArgs false
namespace Go.Am
set_option maxRecDepth 100000
open Go.RowKit Go.ChangeShapes Go.WideShapes Go.ChangeAt Go.Deep
theorem laidOut:laidOutB PP=true:=by kernel_rfl
theorem A5:mapsRowed PP=true:=by kernel_rfl
theorem DG:false=PP.looks []:=by kernel_rfl
theorem mainIs:PP.mainIs=some (true,("8bda451d2dc9f473a89e44847a5b0bd84339d99a2acb6b2f94f1282031d25d93").toList):=by kernel_rfl
theorem Dh:ownKnob PP.godebug=none:=by kernel_rfl
theorem Ax:PP.cellsOf 2=1:=by kernel_rfl
theorem BY:PP.cellsOf 5=1:=by kernel_rfl
theorem vm:PP.cellsOf 43=3:=by kernel_rfl
theorem wf_i64{n:Int}(h:(Lit.int .i64 n).wf=true):eh n:=by
 simp only[Lit.wf,Bool.and_eq_true,decide_eq_true_eq]at h;have h1:IntKind.i64.min=-9223372036854775808:=by decide
 have h2:IntKind.i64.max=9223372036854775807:=by decide
 rw[h1,h2]at h;unfold eh;omega
theorem wf_u8{n:Int}(h:(Lit.int .u8 n).wf=true):0<=n/\n<=255:=by
 simp only[Lit.wf,Bool.and_eq_true,decide_eq_true_eq]at h;have h1:IntKind.u8.min=0:=by decide
 have h2:IntKind.u8.max=255:=by decide
 rw[h1,h2]at h;omega
section
variable {H:Type} {enc:TypeId×Value->H} {w:World} {base:Nat} {spare:Nat->Bool} {held:Bool} {fuel:Nat}
theorem yU{cs:List Value}{x:DataW H×List MemPlace}(h:DataW.trod enc PP w base spare held fuel 43 cs=some x):
  ∃a b c:Int,cs=[.int .i64 a,.int .i64 b,.int .u8 c]/\eh a/\eh b/\0<=c/\c<=255:=by
 obtain⟨y0,y1,y2,n,_,hl,h0,h1,h2⟩:=trod_struct3 Go.Proofs.Tryz.underlying43 h;rw[vm]at hl
 match cs,hl with
 |[v0,v1,v2],_=>
  dsimp only at h0 h1 h2;rw[Ax]at h0 h1;rw[BY]at h2;obtain⟨a,e0,_,w0⟩:=DataW.trod_int Go.Proofs.Tryz.underlying2 h0;obtain⟨b,e1,_,w1⟩:=DataW.trod_int Go.Proofs.Tryz.underlying2 h1;obtain⟨c,e2,_,w2⟩:=DataW.trod_int Go.Proofs.Tryz.underlying5 h2;simp at e0 e1 e2;subst e0;subst e1;subst e2;exact⟨a,b,c,rfl,wf_i64 w0,wf_i64 w1,wf_u8 w2⟩
end
end Go.Am
