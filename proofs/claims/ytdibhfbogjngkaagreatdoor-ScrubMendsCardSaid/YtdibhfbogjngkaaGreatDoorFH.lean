/- Lemmas for the proof of the law; no condition. -/
import Derived.Test.YtdibhfbogjngkaaGreatDoorFinA
import Derived.Test.YtdibhfbogjngkaaGreatDoorCards
set_option linter.unusedVariables false
namespace Go.Proofs.YtdibhfbogjngkaaGreatDoor
open Go Go.Vc Go.Proofs Go.ChangeShapes Go.WideShapes Go.ChangeAt Go.RowKit
theorem RR:(Rows.scrubMendsRow.inPlace==Tryz.checked.prog.inPlace 5)=true:=j4
theorem RS:(Rows.scrubMendsRow.unfollowed==Tryz.checked.prog.unfollowed 5)=true:=j4
theorem RT:(Rows.scrubMendsRow.recurses==Tryz.checked.prog.recurses 5)=true:=j4
theorem RU:(Rows.scrubMendsRow.named==Tryz.checked.prog.varsNamed 5)=true:=j4
end Go.Proofs.YtdibhfbogjngkaaGreatDoor
