/- Lemmas for the proof of the law; no condition. -/
import Derived.Test.YtahcfjokgnjinaaGreatDoorFinA
import Derived.Test.YtahcfjokgnjinaaGreatDoorCards
set_option linter.unusedVariables false
namespace Go.Proofs.YtahcfjokgnjinaaGreatDoor
open Go Go.Vc Go.Proofs Go.ChangeShapes Go.WideShapes Go.ChangeAt Go.RowKit
theorem Tryz.afP:Tryz.pinned.checked.prog.funcs.any Func.goes=false:=j1
theorem NX:false=Rows.scrubKeepsRow.goesBy Tryz.pinned.checked.prog:=(RU Tryz.afP).symm
end Go.Proofs.YtahcfjokgnjinaaGreatDoor
