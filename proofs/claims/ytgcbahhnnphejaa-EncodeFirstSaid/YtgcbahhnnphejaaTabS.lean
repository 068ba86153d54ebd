/- Part of the proofs that wellspringlaw11's laws answer true whatever the input reads, and leave it as it was; no condition. -/
import Derived.Test.YtgcbahhnnphejaaTabA
import Derived.Test.YtgcbahhnnphejaaTabB
set_option linter.unusedVariables false
set_option linter.unusedSimpArgs false

