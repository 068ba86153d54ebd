/- Lemmas for the proof of the law; no condition. -/
import Derived.Test.YtahcfjokgnjinaaGreatDoorFinA
import Derived.Test.YtahcfjokgnjinaaGreatDoorCards
set_option linter.unusedVariables false
namespace Go.Proofs.YtahcfjokgnjinaaGreatDoor
open Go Go.Vc Go.Proofs Go.ChangeShapes Go.WideShapes Go.ChangeAt Go.RowKit
theorem Tryz.ajS:Tryz.pinned.checked.prog.funcs.any Func.goes=false:=j3
theorem We:false=Rows.auditLessRow.goesBy Tryz.pinned.checked.prog:=(Wu Tryz.ajS).symm
end Go.Proofs.YtahcfjokgnjinaaGreatDoor
