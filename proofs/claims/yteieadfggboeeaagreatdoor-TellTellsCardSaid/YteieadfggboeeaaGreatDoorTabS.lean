/- Part of the proofs that the laws of this seat answer true whatever the input reads, and leave it as it was; no condition. -/
import Derived.Test.YteieadfggboeeaaGreatDoorTabA
import Derived.Test.YteieadfggboeeaaGreatDoorTabB
import Derived.Test.YteieadfggboeeaaGreatDoorTabC
import Derived.Test.YteieadfggboeeaaGreatDoorTabD
import Derived.Test.YteieadfggboeeaaGreatDoorTabE
import Derived.Test.YteieadfggboeeaaGreatDoorTabF
import Derived.Test.YteieadfggboeeaaGreatDoorTabG
import Derived.Test.YteieadfggboeeaaGreatDoorTabH
set_option linter.unusedVariables false
set_option linter.unusedSimpArgs false
