/- Part of the proofs that the laws of this seat answer true whatever the input reads, and leave it as it was; no condition. -/
import Derived.Test.YteieadfggboeeaaGreatDoorFinA
import Derived.Test.YteieadfggboeeaaGreatDoorCards
set_option linter.unusedVariables false
set_option linter.unusedSimpArgs false
namespace Go.Proofs.YteieadfggboeeaaGreatDoor
open Go Go.Vc Go.Proofs Go.ChangeShapes Go.WideShapes Go.ChangeAt Go.RowKit
theorem sp:(Rows.tellTellsRow.inPlace==Tryz.checked.prog.inPlace 4)=true:=by kernel_rfl
theorem sr:(Rows.tellTellsRow.unfollowed==Tryz.checked.prog.unfollowed 4)=true:=by kernel_rfl
theorem ss:(Rows.tellTellsRow.recurses==Tryz.checked.prog.recurses 4)=true:=by kernel_rfl
theorem su:(Rows.tellTellsRow.named==Tryz.checked.prog.varsNamed 4)=true:=by kernel_rfl
end Go.Proofs.YteieadfggboeeaaGreatDoor
