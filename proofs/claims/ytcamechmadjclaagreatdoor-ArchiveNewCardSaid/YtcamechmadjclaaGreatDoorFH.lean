/- Part of the proofs that the laws of this seat answer true whatever the input reads, and leave it as it was; no condition. -/
import Derived.Test.YtcamechmadjclaaGreatDoorFinA
import Derived.Test.YtcamechmadjclaaGreatDoorCards
set_option linter.unusedVariables false
set_option linter.unusedSimpArgs false
namespace Go.Proofs.YtcamechmadjclaaGreatDoor
open Go Go.Vc Go.Proofs Go.ChangeShapes Go.WideShapes Go.ChangeAt Go.RowKit
theorem re:(Rows.archiveNewRow.inPlace==Tryz.checked.prog.inPlace 3)=true:=by kernel_rfl
theorem rf:(Rows.archiveNewRow.unfollowed==Tryz.checked.prog.unfollowed 3)=true:=by kernel_rfl
theorem rg:(Rows.archiveNewRow.recurses==Tryz.checked.prog.recurses 3)=true:=by kernel_rfl
theorem rh:(Rows.archiveNewRow.named==Tryz.checked.prog.varsNamed 3)=true:=by kernel_rfl
end Go.Proofs.YtcamechmadjclaaGreatDoor
