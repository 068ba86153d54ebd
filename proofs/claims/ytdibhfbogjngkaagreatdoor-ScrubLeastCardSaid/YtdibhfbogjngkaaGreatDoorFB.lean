/- Lemmas for the proof of the law; no condition. -/
import Derived.Test.YtdibhfbogjngkaaGreatDoorFinA
import Derived.Test.YtdibhfbogjngkaaGreatDoorCards
set_option linter.unusedVariables false
namespace Go.Proofs.YtdibhfbogjngkaaGreatDoor
open Go Go.Vc Go.Proofs Go.ChangeShapes Go.WideShapes Go.ChangeAt Go.RowKit
theorem Tryz.aie:Tryz.pinned.checked.prog.funcs.any Func.goes=false:=l0
theorem Rm:false=Rows.scrubLeastRow.goesBy Tryz.pinned.checked.prog:=(US Tryz.aie).symm
end Go.Proofs.YtdibhfbogjngkaaGreatDoor
