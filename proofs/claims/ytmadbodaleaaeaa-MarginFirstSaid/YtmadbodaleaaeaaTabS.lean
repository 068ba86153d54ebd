/- Part of the proofs that wellspringlaw27's laws answer true whatever the input reads, and leave it as it was; no condition. -/
import Derived.Test.YtmadbodaleaaeaaTabA
import Derived.Test.YtmadbodaleaaeaaTabB
set_option linter.unusedVariables false
set_option linter.unusedSimpArgs false

