/- Lemmas for the proof of the law; no condition. -/
import Derived.Test.YtplpfpidgljdhaaGreatDoorFinA
import Derived.Test.YtplpfpidgljdhaaGreatDoorCards
set_option linter.unusedVariables false
namespace Go.Proofs.YtplpfpidgljdhaaGreatDoor
open Go Go.Qw Go.Proofs Go.ChangeShapes Go.WideShapes Go.ChangeAt Go.RowKit
theorem Pv:(Rows.openTwiceRow.inPlace==Tryz.checked.prog.inPlace 3)=true:=j3
theorem Pw:(Rows.openTwiceRow.unfollowed==Tryz.checked.prog.unfollowed 3)=true:=j3
theorem Px:(Rows.openTwiceRow.recurses==Tryz.checked.prog.recurses 3)=true:=j3
theorem Py:(Rows.openTwiceRow.named==Tryz.checked.prog.varsNamed 3)=true:=j3
end Go.Proofs.YtplpfpidgljdhaaGreatDoor
