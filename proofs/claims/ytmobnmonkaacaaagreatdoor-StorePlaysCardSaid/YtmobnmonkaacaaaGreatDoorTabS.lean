/- Lemmas for the proof of the law; no condition. -/
import Derived.Test.YtmobnmonkaacaaaGreatDoorTabB
set_option linter.unusedVariables false
