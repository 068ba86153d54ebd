/- Lemmas for the proof of the law; no condition. -/
import Derived.Test.YtcjnjifdphcijaaGreatDoorTFinA
import Derived.Test.YtcjnjifdphcijaaGreatDoorCards
set_option linter.unusedVariables false
namespace Go.Proofs.YtcjnjifdphcijaaGreatDoor
open Go Go.Qw Go.Proofs Go.ChangeShapes Go.WideShapes Go.ChangeAt Go.RowKit
theorem Tryz.aeF:Tryz.pinned.checked.prog.funcs.any Func.goes=false:=j3
theorem Qf:false=Rows.topNeverRow.goesBy Tryz.pinned.checked.prog:=(OG Tryz.aeF).symm
end Go.Proofs.YtcjnjifdphcijaaGreatDoor
