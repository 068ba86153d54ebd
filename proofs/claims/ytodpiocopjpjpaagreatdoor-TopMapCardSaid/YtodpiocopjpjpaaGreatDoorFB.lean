/- Lemmas for the proof of the law; no condition. -/
import Derived.Test.YtodpiocopjpjpaaGreatDoorFinA
import Derived.Test.YtodpiocopjpjpaaGreatDoorCards
set_option linter.unusedVariables false
namespace Go.Proofs.YtodpiocopjpjpaaGreatDoor
open Go Go.Qw Go.Proofs Go.ChangeShapes Go.WideShapes Go.ChangeAt Go.RowKit
theorem Tryz.aiG:Tryz.pinned.checked.prog.funcs.any Func.goes=false:=j6
theorem abc:false=Rows.topMapRow.goesBy Tryz.pinned.checked.prog:=(RS Tryz.aiG).symm
end Go.Proofs.YtodpiocopjpjpaaGreatDoor
