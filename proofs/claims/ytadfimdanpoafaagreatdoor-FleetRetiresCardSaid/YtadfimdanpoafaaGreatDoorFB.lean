/- Lemmas. -/
import Derived.Test.YtadfimdanpoafaaGreatDoorFinA
import Derived.Test.YtadfimdanpoafaaGreatDoorCards
set_option linter.unusedVariables false
namespace Go.Proofs.YtadfimdanpoafaaGreatDoor
open Go Go.Vc Go.Proofs Go.ChangeShapes Go.WideShapes Go.ChangeAt Go.RowKit
theorem Mj:false=Rows.fleetRetiresRow.goesBy Tryz.pinned.checked.prog:=by kernel_rfl
end Go.Proofs.YtadfimdanpoafaaGreatDoor
