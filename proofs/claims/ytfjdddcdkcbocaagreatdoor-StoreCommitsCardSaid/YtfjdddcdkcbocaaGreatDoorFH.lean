/- Lemmas for the proof of the law; no condition. -/
import Derived.Test.YtfjdddcdkcbocaaGreatDoorFinA
import Derived.Test.YtfjdddcdkcbocaaGreatDoorCards
set_option linter.unusedVariables false
namespace Go.Proofs.YtfjdddcdkcbocaaGreatDoor
open Go Go.Qw Go.Proofs Go.ChangeShapes Go.WideShapes Go.ChangeAt Go.RowKit
theorem Ib:(Rows.storeCommitsRow.inPlace==Tryz.checked.prog.inPlace 3)=true:=o0
theorem Ic:(Rows.storeCommitsRow.unfollowed==Tryz.checked.prog.unfollowed 3)=true:=o0
theorem Ie:(Rows.storeCommitsRow.recurses==Tryz.checked.prog.recurses 3)=true:=o0
theorem If:(Rows.storeCommitsRow.named==Tryz.checked.prog.varsNamed 3)=true:=o0
end Go.Proofs.YtfjdddcdkcbocaaGreatDoor
