/- Part of the proofs that the laws of this seat answer true whatever the input reads, and leave it as it was; no condition. -/
import Derived.Test.YtdhamoojccmbdaaGreatDoorTabA
import Derived.Test.YtdhamoojccmbdaaGreatDoorTabB
import Derived.Test.YtdhamoojccmbdaaGreatDoorTabC
import Derived.Test.YtdhamoojccmbdaaGreatDoorTabD
import Derived.Test.YtdhamoojccmbdaaGreatDoorTabE
import Derived.Test.YtdhamoojccmbdaaGreatDoorTabF
set_option linter.unusedVariables false
set_option linter.unusedSimpArgs false
