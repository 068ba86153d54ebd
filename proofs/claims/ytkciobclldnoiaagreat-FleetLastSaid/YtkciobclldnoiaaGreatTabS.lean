/- Part of the proofs that the laws of this seat answer true whatever the input reads, and leave it as it was; no condition. -/
import Derived.Test.YtkciobclldnoiaaGreatTabA
import Derived.Test.YtkciobclldnoiaaGreatTabB
import Derived.Test.YtkciobclldnoiaaGreatTabC
import Derived.Test.YtkciobclldnoiaaGreatTabD
import Derived.Test.YtkciobclldnoiaaGreatTabE
import Derived.Test.YtkciobclldnoiaaGreatTabF
set_option linter.unusedVariables false
set_option linter.unusedSimpArgs false
