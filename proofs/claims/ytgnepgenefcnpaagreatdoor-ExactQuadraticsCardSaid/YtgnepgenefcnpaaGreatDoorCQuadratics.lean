/- ExactQuadratics: the walk of the law, and its plain law: it returns true for every input. No condition. -/
import Derived.Test.YtgnepgenefcnpaaGreatDoorBeH
set_option linter.unusedVariables false
set_option linter.unusedSimpArgs false
