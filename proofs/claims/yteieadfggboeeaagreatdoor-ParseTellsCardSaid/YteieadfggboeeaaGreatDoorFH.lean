/- Part of the proofs that the laws of this seat answer true whatever the input reads, and leave it as it was; no condition. -/
import Derived.Test.YteieadfggboeeaaGreatDoorFinA
import Derived.Test.YteieadfggboeeaaGreatDoorCards
set_option linter.unusedVariables false
set_option linter.unusedSimpArgs false
namespace Go.Proofs.YteieadfggboeeaaGreatDoor
open Go Go.Vc Go.Proofs Go.ChangeShapes Go.WideShapes Go.ChangeAt Go.RowKit
theorem ra:(Rows.parseTellsRow.inPlace==Tryz.checked.prog.inPlace 3)=true:=by kernel_rfl
theorem rb:(Rows.parseTellsRow.unfollowed==Tryz.checked.prog.unfollowed 3)=true:=by kernel_rfl
theorem rc:(Rows.parseTellsRow.recurses==Tryz.checked.prog.recurses 3)=true:=by kernel_rfl
theorem re:(Rows.parseTellsRow.named==Tryz.checked.prog.varsNamed 3)=true:=by kernel_rfl
end Go.Proofs.YteieadfggboeeaaGreatDoor
