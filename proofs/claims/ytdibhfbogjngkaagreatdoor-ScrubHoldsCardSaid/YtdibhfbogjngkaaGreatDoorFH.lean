/- Lemmas for the proof of the law; no condition. -/
import Derived.Test.YtdibhfbogjngkaaGreatDoorFinA
import Derived.Test.YtdibhfbogjngkaaGreatDoorCards
set_option linter.unusedVariables false
namespace Go.Proofs.YtdibhfbogjngkaaGreatDoor
open Go Go.Vc Go.Proofs Go.ChangeShapes Go.WideShapes Go.ChangeAt Go.RowKit
theorem Sr:(Rows.scrubHoldsRow.inPlace==Tryz.checked.prog.inPlace 6)=true:=j1
theorem Ss:(Rows.scrubHoldsRow.unfollowed==Tryz.checked.prog.unfollowed 6)=true:=j1
theorem Su:(Rows.scrubHoldsRow.recurses==Tryz.checked.prog.recurses 6)=true:=j1
theorem Sv:(Rows.scrubHoldsRow.named==Tryz.checked.prog.varsNamed 6)=true:=j1
end Go.Proofs.YtdibhfbogjngkaaGreatDoor
