/- Lemmas for the proof of the law; no condition. -/
import Derived.Test.YtdibhfbogjngkaaGreatDoorPlK
import Derived.Handed
import Derived.HandedShaped
import Derived.ChangeMaps5
set_option linter.unusedVariables false
set_option linter.unusedSimpArgs false
namespace Go
section
variable {H:Type} {enc:TypeId×Value->H}
end
end Go
