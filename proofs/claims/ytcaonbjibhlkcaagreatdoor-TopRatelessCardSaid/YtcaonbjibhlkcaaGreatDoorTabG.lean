/- Lemmas for the proof of the law; no condition. -/
import Derived.Test.YtcaonbjibhlkcaaGreatDoorTabA
set_option linter.unusedVariables false
set_option maxRecDepth 1000000
namespace Go.Qw
open Go Go.Vc Go.Proofs
variable {R:Cu} {h:Heap}
end Go.Qw
