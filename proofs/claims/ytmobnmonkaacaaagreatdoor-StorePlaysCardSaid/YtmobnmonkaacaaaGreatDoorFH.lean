/- Lemmas for the proof of the law; no condition. -/
import Derived.Test.YtmobnmonkaacaaaGreatDoorFinA
import Derived.Test.YtmobnmonkaacaaaGreatDoorCards
set_option linter.unusedVariables false
namespace Go.Proofs.YtmobnmonkaacaaaGreatDoor
open Go Go.Qw Go.Proofs Go.ChangeShapes Go.WideShapes Go.ChangeAt Go.RowKit
theorem KH:(Rows.storePlaysRow.inPlace==Tryz.checked.prog.inPlace 4)=true:=o5
theorem KI:(Rows.storePlaysRow.unfollowed==Tryz.checked.prog.unfollowed 4)=true:=o5
theorem KJ:(Rows.storePlaysRow.recurses==Tryz.checked.prog.recurses 4)=true:=o5
theorem KK:(Rows.storePlaysRow.named==Tryz.checked.prog.varsNamed 4)=true:=o5
end Go.Proofs.YtmobnmonkaacaaaGreatDoor
