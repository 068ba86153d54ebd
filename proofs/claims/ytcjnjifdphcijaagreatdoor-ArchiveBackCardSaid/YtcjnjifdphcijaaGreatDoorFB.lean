/- Lemmas for the proof of the law; no condition. -/
import Derived.Test.YtcjnjifdphcijaaGreatDoorFinA
import Derived.Test.YtcjnjifdphcijaaGreatDoorCards
set_option linter.unusedVariables false
namespace Go.Proofs.YtcjnjifdphcijaaGreatDoor
open Go Go.Qw Go.Proofs Go.ChangeShapes Go.WideShapes Go.ChangeAt Go.RowKit
theorem Tryz.aiu:Tryz.pinned.checked.prog.funcs.any Func.goes=false:=js
theorem Lz:false=Rows.archiveBackRow.goesBy Tryz.pinned.checked.prog:=(RH Tryz.aiu).symm
end Go.Proofs.YtcjnjifdphcijaaGreatDoor
