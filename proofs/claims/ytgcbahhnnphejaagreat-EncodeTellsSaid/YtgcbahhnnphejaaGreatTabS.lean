/- Part of the proof that wellspringlaw11's EncodeTells answers true whatever the input reads, and leaves it as it was; no condition. -/
import Derived.Test.YtgcbahhnnphejaaGreatTabA
import Derived.Test.YtgcbahhnnphejaaGreatTabB
import Derived.Test.YtgcbahhnnphejaaGreatTabC
set_option linter.unusedVariables false
set_option linter.unusedSimpArgs false

