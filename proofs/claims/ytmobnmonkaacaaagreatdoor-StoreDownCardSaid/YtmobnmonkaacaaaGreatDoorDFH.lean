/- Lemmas for the proof of the law; no condition. -/
import Derived.Test.YtmobnmonkaacaaaGreatDoorDFinA
import Derived.Test.YtmobnmonkaacaaaGreatDoorCards
set_option linter.unusedVariables false
namespace Go.Proofs.YtmobnmonkaacaaaGreatDoor
open Go Go.Qw Go.Proofs Go.ChangeShapes Go.WideShapes Go.ChangeAt Go.RowKit
theorem On:(Rows.storeDownRow.inPlace==Tryz.checked.prog.inPlace 5)=true:=n9
theorem Oo:(Rows.storeDownRow.unfollowed==Tryz.checked.prog.unfollowed 5)=true:=n9
theorem Oq:(Rows.storeDownRow.recurses==Tryz.checked.prog.recurses 5)=true:=n9
theorem Ot:(Rows.storeDownRow.named==Tryz.checked.prog.varsNamed 5)=true:=n9
end Go.Proofs.YtmobnmonkaacaaaGreatDoor
