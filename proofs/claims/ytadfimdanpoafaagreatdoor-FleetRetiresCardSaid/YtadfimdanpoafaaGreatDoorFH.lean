/- Lemmas. -/
import Derived.Test.YtadfimdanpoafaaGreatDoorFinA
import Derived.Test.YtadfimdanpoafaaGreatDoorCards
set_option linter.unusedVariables false
namespace Go.Proofs.YtadfimdanpoafaaGreatDoor
open Go Go.Vc Go.Proofs Go.ChangeShapes Go.WideShapes Go.ChangeAt Go.RowKit
theorem Mf:(Rows.fleetRetiresRow.inPlace==Tryz.checked.prog.inPlace 3)=true:=by kernel_rfl
theorem Mg:(Rows.fleetRetiresRow.unfollowed==Tryz.checked.prog.unfollowed 3)=true:=by kernel_rfl
theorem Mh:(Rows.fleetRetiresRow.recurses==Tryz.checked.prog.recurses 3)=true:=by kernel_rfl
theorem Mi:(Rows.fleetRetiresRow.named==Tryz.checked.prog.varsNamed 3)=true:=by kernel_rfl
end Go.Proofs.YtadfimdanpoafaaGreatDoor
