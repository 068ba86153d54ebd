/- Lemmas for the proof of the law; no condition. -/
import Derived.Test.YtbhpnfilcomonaaGreatDoorFinA
import Derived.Test.YtbhpnfilcomonaaGreatDoorCards
set_option linter.unusedVariables false
namespace Go.Proofs.YtbhpnfilcomonaaGreatDoor
open Go Go.Vc Go.Proofs Go.ChangeShapes Go.WideShapes Go.ChangeAt Go.RowKit
theorem Jm:(Rows.openNewestRow.inPlace==Tryz.checked.prog.inPlace 3)=true:=by kernel_rfl
theorem Jn:(Rows.openNewestRow.unfollowed==Tryz.checked.prog.unfollowed 3)=true:=by kernel_rfl
theorem Jo:(Rows.openNewestRow.recurses==Tryz.checked.prog.recurses 3)=true:=by kernel_rfl
theorem Jp:(Rows.openNewestRow.named==Tryz.checked.prog.varsNamed 3)=true:=by kernel_rfl
end Go.Proofs.YtbhpnfilcomonaaGreatDoor
