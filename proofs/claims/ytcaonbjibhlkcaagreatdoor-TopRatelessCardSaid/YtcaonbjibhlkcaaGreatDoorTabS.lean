/- Lemmas for the proof of the law; no condition. -/
import Derived.Test.YtcaonbjibhlkcaaGreatDoorTabB
import Derived.Test.YtcaonbjibhlkcaaGreatDoorTabC
import Derived.Test.YtcaonbjibhlkcaaGreatDoorTabD
import Derived.Test.YtcaonbjibhlkcaaGreatDoorTabE
import Derived.Test.YtcaonbjibhlkcaaGreatDoorTabF
import Derived.Test.YtcaonbjibhlkcaaGreatDoorTabG
set_option linter.unusedVariables false
