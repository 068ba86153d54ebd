/- Lemmas for the proof of the law; no condition. -/
import Derived.Test.YtdibhfbogjngkaaGreatDoorTabB
import Derived.Test.YtdibhfbogjngkaaGreatDoorTabC
import Derived.Test.YtdibhfbogjngkaaGreatDoorTabD
import Derived.Test.YtdibhfbogjngkaaGreatDoorTabE
set_option linter.unusedVariables false
