/- Lemmas for the proof of the law; no condition. -/
import Derived.Test.YtcaonbjibhlkcaaGreatDoorFinA
import Derived.Test.YtcaonbjibhlkcaaGreatDoorCards
set_option linter.unusedVariables false
namespace Go.Proofs.YtcaonbjibhlkcaaGreatDoor
open Go Go.Vc Go.Proofs Go.ChangeShapes Go.WideShapes Go.ChangeAt Go.RowKit
theorem MH:(Rows.topRatelessRow.inPlace==Tryz.checked.prog.inPlace 3)=true:=by kernel_rfl
theorem MI:(Rows.topRatelessRow.unfollowed==Tryz.checked.prog.unfollowed 3)=true:=by kernel_rfl
theorem MJ:(Rows.topRatelessRow.recurses==Tryz.checked.prog.recurses 3)=true:=by kernel_rfl
theorem MK:(Rows.topRatelessRow.named==Tryz.checked.prog.varsNamed 3)=true:=by kernel_rfl
end Go.Proofs.YtcaonbjibhlkcaaGreatDoor
