/- Part of the proofs that the laws of this seat answer true whatever the input reads, and leave it as it was; no condition. -/
import Derived.Test.YtdhamoojccmbdaaGreatDoorFinA
import Derived.Test.YtdhamoojccmbdaaGreatDoorCards
set_option linter.unusedVariables false
set_option linter.unusedSimpArgs false
namespace Go.Proofs.YtdhamoojccmbdaaGreatDoor
open Go Go.Vc Go.Proofs Go.ChangeShapes Go.WideShapes Go.ChangeAt Go.RowKit
theorem NO:joinedFacts Tryz.checked.prog 5 Tryz.f5 Rows.storeMapSpec Rows.storeMapRow=true:=by kernel_rfl
end Go.Proofs.YtdhamoojccmbdaaGreatDoor
