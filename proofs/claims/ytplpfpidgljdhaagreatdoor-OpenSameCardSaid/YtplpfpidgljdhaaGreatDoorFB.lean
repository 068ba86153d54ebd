/- Lemmas for the proof of the law; no condition. -/
import Derived.Test.YtplpfpidgljdhaaGreatDoorFinA
import Derived.Test.YtplpfpidgljdhaaGreatDoorCards
set_option linter.unusedVariables false
namespace Go.Proofs.YtplpfpidgljdhaaGreatDoor
open Go Go.Qw Go.Proofs Go.ChangeShapes Go.WideShapes Go.ChangeAt Go.RowKit
theorem Tryz.agy:Tryz.pinned.checked.prog.funcs.any Func.goes=false:=j4
theorem Sf:false=Rows.openSameRow.goesBy Tryz.pinned.checked.prog:=(Qs Tryz.agy).symm
end Go.Proofs.YtplpfpidgljdhaaGreatDoor
