/- Lemmas for the proof of the law; no condition. -/
import Derived.Test.YtplpfpidgljdhaaGreatDoorFinA
import Derived.Test.YtplpfpidgljdhaaGreatDoorCards
set_option linter.unusedVariables false
namespace Go.Proofs.YtplpfpidgljdhaaGreatDoor
open Go Go.Qw Go.Proofs Go.ChangeShapes Go.WideShapes Go.ChangeAt Go.RowKit
theorem Tryz.afC:Tryz.pinned.checked.prog.funcs.any Func.goes=false:=j3
theorem Pz:false=Rows.openTwiceRow.goesBy Tryz.pinned.checked.prog:=(PM Tryz.afC).symm
end Go.Proofs.YtplpfpidgljdhaaGreatDoor
