/- ExactNames: the walk of the law, and its plain law: it returns true for every input. No condition. -/
import Derived.Test.YtgnepgenefcnpaaGreatDoorBiE
set_option linter.unusedVariables false
set_option linter.unusedSimpArgs false
namespace Go.Am
set_option maxRecDepth 100000
theorem zE:jh=some true:=by decide+kernel
theorem ui:fz=some true:=nj.h _ zE
end Go.Am
