/- Part 5 of 5 of what the laws of layer 1 share: contracts of functions of the program, each for every argument of its description; no condition beyond it. -/
import Derived.Test.YtgnepgenefcnpaaGreatDoorBiD
import Derived.Lib.SmallJoins
import Derived.JoinedOf
import Derived.SevenTiedAt
import Derived.KernelRfl
import Derived.SizedLaws
import Derived.ShutString
import Derived.Carry
set_option linter.unusedVariables false
set_option linter.unusedSimpArgs false
namespace Go.Am
set_option maxRecDepth 100000
open Go.RowKit Go.ChangeShapes Go.WideShapes Go.ChangeAt Go.Deep
theorem laidOut:laidOutB PP=true:=by kernel_rfl
theorem y4:mapsRowed PP=true:=by kernel_rfl
theorem A8:false=PP.looks []:=by kernel_rfl
theorem mainIs:PP.mainIs=some (true,("8bda451d2dc9f473a89e44847a5b0bd84339d99a2acb6b2f94f1282031d25d93").toList):=by kernel_rfl
theorem A_:ownKnob PP.godebug=none:=by kernel_rfl
section
variable {H:Type} {enc:TypeId×Value->H} {w:World} {base:Nat} {spare:Nat->Bool} {held:Bool} {fuel:Nat}
end
end Go.Am
