/- Of an op and its contrary just one tells true: the law, its tables beside it. -/
import Derived.Test.YtkocimfdgdegfaaGreatDoorEContrary
import Derived.Test.YtkocimfdgdegfaaGreatDoorETabx
import Derived.Test.YtkocimfdgdegfaaGreatDoorERng
set_option linter.unusedSimpArgs false
set_option linter.unusedVariables false
