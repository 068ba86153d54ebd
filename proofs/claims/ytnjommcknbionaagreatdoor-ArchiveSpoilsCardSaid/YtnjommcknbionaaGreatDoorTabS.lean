/- Lemmas for the proof of the law; no condition. -/
import Derived.Test.YtnjommcknbionaaGreatDoorTabB
import Derived.Test.YtnjommcknbionaaGreatDoorTabC
import Derived.Test.YtnjommcknbionaaGreatDoorTabD
import Derived.Test.YtnjommcknbionaaGreatDoorTabE
import Derived.Test.YtnjommcknbionaaGreatDoorTabF
set_option linter.unusedVariables false
