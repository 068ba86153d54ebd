/- Lemmas for the proof of the law; no condition. -/
import Derived.Test.YtdibhfbogjngkaaGreatDoorFinA
import Derived.Test.YtdibhfbogjngkaaGreatDoorCards
set_option linter.unusedVariables false
namespace Go.Proofs.YtdibhfbogjngkaaGreatDoor
open Go Go.Vc Go.Proofs Go.ChangeShapes Go.WideShapes Go.ChangeAt Go.RowKit
theorem Ri:(Rows.scrubLeastRow.inPlace==Tryz.checked.prog.inPlace 3)=true:=l0
theorem Rj:(Rows.scrubLeastRow.unfollowed==Tryz.checked.prog.unfollowed 3)=true:=l0
theorem Rk:(Rows.scrubLeastRow.recurses==Tryz.checked.prog.recurses 3)=true:=l0
theorem Rl:(Rows.scrubLeastRow.named==Tryz.checked.prog.varsNamed 3)=true:=l0
end Go.Proofs.YtdibhfbogjngkaaGreatDoor
