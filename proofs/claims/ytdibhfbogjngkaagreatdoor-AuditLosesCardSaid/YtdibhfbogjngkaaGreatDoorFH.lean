/- Lemmas for the proof of the law; no condition. -/
import Derived.Test.YtdibhfbogjngkaaGreatDoorFinA
import Derived.Test.YtdibhfbogjngkaaGreatDoorCards
set_option linter.unusedVariables false
namespace Go.Proofs.YtdibhfbogjngkaaGreatDoor
open Go Go.Vc Go.Proofs Go.ChangeShapes Go.WideShapes Go.ChangeAt Go.RowKit
theorem RE:(Rows.auditLosesRow.inPlace==Tryz.checked.prog.inPlace 4)=true:=j1
theorem RF:(Rows.auditLosesRow.unfollowed==Tryz.checked.prog.unfollowed 4)=true:=j1
theorem RG:(Rows.auditLosesRow.recurses==Tryz.checked.prog.recurses 4)=true:=j1
theorem RH:(Rows.auditLosesRow.named==Tryz.checked.prog.varsNamed 4)=true:=j1
end Go.Proofs.YtdibhfbogjngkaaGreatDoor
