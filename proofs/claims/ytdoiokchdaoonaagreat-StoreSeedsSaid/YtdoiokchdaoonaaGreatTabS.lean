/- Part of the proofs that the laws of this seat answer true whatever the input reads, and leave it as it was; no condition. -/
import Derived.Test.YtdoiokchdaoonaaGreatTabA
import Derived.Test.YtdoiokchdaoonaaGreatTabB
import Derived.Test.YtdoiokchdaoonaaGreatTabC
import Derived.Test.YtdoiokchdaoonaaGreatTabD
import Derived.Test.YtdoiokchdaoonaaGreatTabE
import Derived.Test.YtdoiokchdaoonaaGreatTabF
set_option linter.unusedVariables false
set_option linter.unusedSimpArgs false
