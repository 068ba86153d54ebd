/- Lemmas for the proof of the law; no condition. -/
import Derived.Test.YtbhpnfilcomonaaGreatDoorFinA
import Derived.Test.YtbhpnfilcomonaaGreatDoorCards
set_option linter.unusedVariables false
namespace Go.Proofs.YtbhpnfilcomonaaGreatDoor
open Go Go.Vc Go.Proofs Go.ChangeShapes Go.WideShapes Go.ChangeAt Go.RowKit
theorem Jq:false=Rows.openNewestRow.goesBy Tryz.pinned.checked.prog:=by kernel_rfl
end Go.Proofs.YtbhpnfilcomonaaGreatDoor
