/- Lemmas for the proof of the law; no condition. -/
import Derived.Test.YtbhpnfilcomonaaGreatDoorTabB
import Derived.Test.YtbhpnfilcomonaaGreatDoorTabC
import Derived.Test.YtbhpnfilcomonaaGreatDoorTabD
import Derived.Test.YtbhpnfilcomonaaGreatDoorTabE
set_option linter.unusedVariables false
