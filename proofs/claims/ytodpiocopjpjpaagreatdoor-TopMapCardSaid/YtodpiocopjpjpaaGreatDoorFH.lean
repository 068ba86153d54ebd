/- Lemmas for the proof of the law; no condition. -/
import Derived.Test.YtodpiocopjpjpaaGreatDoorFinA
import Derived.Test.YtodpiocopjpjpaaGreatDoorCards
set_option linter.unusedVariables false
namespace Go.Proofs.YtodpiocopjpjpaaGreatDoor
open Go Go.Qw Go.Proofs Go.ChangeShapes Go.WideShapes Go.ChangeAt Go.RowKit
theorem aaY:(Rows.topMapRow.inPlace==Tryz.checked.prog.inPlace 3)=true:=j6
theorem aaZ:(Rows.topMapRow.unfollowed==Tryz.checked.prog.unfollowed 3)=true:=j6
theorem aba:(Rows.topMapRow.recurses==Tryz.checked.prog.recurses 3)=true:=j6
theorem abb:(Rows.topMapRow.named==Tryz.checked.prog.varsNamed 3)=true:=j6
end Go.Proofs.YtodpiocopjpjpaaGreatDoor
