/- Lemmas for the proof of the law; no condition. -/
import Derived.Test.YtmobnmonkaacaaaGreatDoorFinA
import Derived.Test.YtmobnmonkaacaaaGreatDoorCards
set_option linter.unusedVariables false
namespace Go.Proofs.YtmobnmonkaacaaaGreatDoor
open Go Go.Qw Go.Proofs Go.ChangeShapes Go.WideShapes Go.ChangeAt Go.RowKit
theorem Tryz.acJ:Tryz.pinned.checked.prog.funcs.any Func.goes=false:=o5
theorem KL:false=Rows.storePlaysRow.goesBy Tryz.pinned.checked.prog:=(Od Tryz.acJ).symm
end Go.Proofs.YtmobnmonkaacaaaGreatDoor
