/- Part of the proofs that the laws of this seat answer true whatever the input reads, and leave it as it was; no condition. -/
import Derived.Test.YtkciobclldnoiaaGreatDoorTabA
import Derived.Test.YtkciobclldnoiaaGreatDoorTabB
import Derived.Test.YtkciobclldnoiaaGreatDoorTabC
import Derived.Test.YtkciobclldnoiaaGreatDoorTabD
import Derived.Test.YtkciobclldnoiaaGreatDoorTabE
import Derived.Test.YtkciobclldnoiaaGreatDoorTabF
import Derived.Test.YtkciobclldnoiaaGreatDoorTabG
set_option linter.unusedVariables false
set_option linter.unusedSimpArgs false
