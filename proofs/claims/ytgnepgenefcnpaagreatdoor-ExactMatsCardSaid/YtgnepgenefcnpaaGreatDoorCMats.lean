/- ExactMats: the walk of the law, and its plain law: it returns true for every input. No condition. -/
import Derived.Test.YtgnepgenefcnpaaGreatDoorBfI
set_option linter.unusedVariables false
set_option linter.unusedSimpArgs false
