/- Lemmas for the proof of the law; no condition. -/
import Derived.Test.YtnjommcknbionaaGreatDoorFinA
import Derived.Test.YtnjommcknbionaaGreatDoorCards
set_option linter.unusedVariables false
namespace Go.Proofs.YtnjommcknbionaaGreatDoor
open Go Go.Vc Go.Proofs Go.ChangeShapes Go.WideShapes Go.ChangeAt Go.RowKit
theorem CX:false=Rows.archiveSpoilsRow.goesBy Tryz.pinned.checked.prog:=by kernel_rfl
end Go.Proofs.YtnjommcknbionaaGreatDoor
