/- Lemmas for the proof of the law; no condition. -/
import Derived.Test.YtdibhfbogjngkaaGreatDoorFinA
import Derived.Test.YtdibhfbogjngkaaGreatDoorCards
set_option linter.unusedVariables false
namespace Go.Proofs.YtdibhfbogjngkaaGreatDoor
open Go Go.Vc Go.Proofs Go.ChangeShapes Go.WideShapes Go.ChangeAt Go.RowKit
theorem Tryz.aiE:Tryz.pinned.checked.prog.funcs.any Func.goes=false:=j4
theorem RV:false=Rows.scrubMendsRow.goesBy Tryz.pinned.checked.prog:=(Vy Tryz.aiE).symm
end Go.Proofs.YtdibhfbogjngkaaGreatDoor
