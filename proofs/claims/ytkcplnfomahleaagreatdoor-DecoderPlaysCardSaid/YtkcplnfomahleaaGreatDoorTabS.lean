/- Part of the proofs that wellspringlaw14's laws answer true whatever the input reads, and leave it as it was; no condition. -/
import Derived.Test.YtkcplnfomahleaaGreatDoorTabA
import Derived.Test.YtkcplnfomahleaaGreatDoorTabB
import Derived.Test.YtkcplnfomahleaaGreatDoorTabC
set_option linter.unusedVariables false
set_option linter.unusedSimpArgs false

