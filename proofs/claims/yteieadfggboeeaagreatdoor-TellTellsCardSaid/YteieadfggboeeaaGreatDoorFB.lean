/- Part of the proofs that the laws of this seat answer true whatever the input reads, and leave it as it was; no condition. -/
import Derived.Test.YteieadfggboeeaaGreatDoorPlP
import Derived.Test.YteieadfggboeeaaGreatDoorFinA
import Derived.Test.YteieadfggboeeaaGreatDoorCards
set_option linter.unusedVariables false
set_option linter.unusedSimpArgs false
namespace Go.Proofs.YteieadfggboeeaaGreatDoor
open Go Go.Vc Go.Proofs Go.ChangeShapes Go.WideShapes Go.ChangeAt Go.RowKit
theorem Tryz.yK:Tryz.pinned.checked.prog.funcs.any Func.goes=false:=by kernel_rfl
theorem sv:false=Rows.tellTellsRow.goesBy Tryz.pinned.checked.prog:=(sB Tryz.yK).symm
end Go.Proofs.YteieadfggboeeaaGreatDoor
