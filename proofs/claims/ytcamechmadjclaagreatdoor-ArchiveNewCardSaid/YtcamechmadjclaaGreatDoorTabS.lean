/- Part of the proofs that the laws of this seat answer true whatever the input reads, and leave it as it was; no condition. -/
import Derived.Test.YtcamechmadjclaaGreatDoorTabA
import Derived.Test.YtcamechmadjclaaGreatDoorTabB
import Derived.Test.YtcamechmadjclaaGreatDoorTabC
set_option linter.unusedVariables false
set_option linter.unusedSimpArgs false
