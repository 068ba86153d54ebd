/- Lemmas for the proof of the law; no condition. -/
import Derived.Test.YtmobnmonkaacaaaGreatDoorDFinA
import Derived.Test.YtmobnmonkaacaaaGreatDoorCards
set_option linter.unusedVariables false
namespace Go.Proofs.YtmobnmonkaacaaaGreatDoor
open Go Go.Qw Go.Proofs Go.ChangeShapes Go.WideShapes Go.ChangeAt Go.RowKit
theorem Tryz.adK:Tryz.pinned.checked.prog.funcs.any Func.goes=false:=n9
theorem Ou:false=Rows.storeDownRow.goesBy Tryz.pinned.checked.prog:=(OG Tryz.adK).symm
end Go.Proofs.YtmobnmonkaacaaaGreatDoor
