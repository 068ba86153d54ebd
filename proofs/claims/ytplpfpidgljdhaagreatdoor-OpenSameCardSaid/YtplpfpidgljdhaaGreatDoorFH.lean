/- Lemmas for the proof of the law; no condition. -/
import Derived.Test.YtplpfpidgljdhaaGreatDoorFinA
import Derived.Test.YtplpfpidgljdhaaGreatDoorCards
set_option linter.unusedVariables false
namespace Go.Proofs.YtplpfpidgljdhaaGreatDoor
open Go Go.Qw Go.Proofs Go.ChangeShapes Go.WideShapes Go.ChangeAt Go.RowKit
theorem RZ:(Rows.openSameRow.inPlace==Tryz.checked.prog.inPlace 4)=true:=j4
theorem Sa:(Rows.openSameRow.unfollowed==Tryz.checked.prog.unfollowed 4)=true:=j4
theorem Sb:(Rows.openSameRow.recurses==Tryz.checked.prog.recurses 4)=true:=j4
theorem Se:(Rows.openSameRow.named==Tryz.checked.prog.varsNamed 4)=true:=j4
end Go.Proofs.YtplpfpidgljdhaaGreatDoor
