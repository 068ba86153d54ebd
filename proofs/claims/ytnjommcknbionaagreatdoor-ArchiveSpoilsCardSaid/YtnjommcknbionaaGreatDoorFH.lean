/- Lemmas for the proof of the law; no condition. -/
import Derived.Test.YtnjommcknbionaaGreatDoorFinA
import Derived.Test.YtnjommcknbionaaGreatDoorCards
set_option linter.unusedVariables false
namespace Go.Proofs.YtnjommcknbionaaGreatDoor
open Go Go.Vc Go.Proofs Go.ChangeShapes Go.WideShapes Go.ChangeAt Go.RowKit
theorem CT:(Rows.archiveSpoilsRow.inPlace==Tryz.checked.prog.inPlace 3)=true:=by kernel_rfl
theorem CU:(Rows.archiveSpoilsRow.unfollowed==Tryz.checked.prog.unfollowed 3)=true:=by kernel_rfl
theorem CV:(Rows.archiveSpoilsRow.recurses==Tryz.checked.prog.recurses 3)=true:=by kernel_rfl
theorem CW:(Rows.archiveSpoilsRow.named==Tryz.checked.prog.varsNamed 3)=true:=by kernel_rfl
end Go.Proofs.YtnjommcknbionaaGreatDoor
