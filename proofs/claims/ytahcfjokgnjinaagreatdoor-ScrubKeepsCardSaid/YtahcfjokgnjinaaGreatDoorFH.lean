/- Lemmas for the proof of the law; no condition. -/
import Derived.Test.YtahcfjokgnjinaaGreatDoorFinA
import Derived.Test.YtahcfjokgnjinaaGreatDoorCards
set_option linter.unusedVariables false
namespace Go.Proofs.YtahcfjokgnjinaaGreatDoor
open Go Go.Vc Go.Proofs Go.ChangeShapes Go.WideShapes Go.ChangeAt Go.RowKit
theorem NT:(Rows.scrubKeepsRow.inPlace==Tryz.checked.prog.inPlace 3)=true:=j1
theorem NU:(Rows.scrubKeepsRow.unfollowed==Tryz.checked.prog.unfollowed 3)=true:=j1
theorem NV:(Rows.scrubKeepsRow.recurses==Tryz.checked.prog.recurses 3)=true:=j1
theorem NW:(Rows.scrubKeepsRow.named==Tryz.checked.prog.varsNamed 3)=true:=j1
end Go.Proofs.YtahcfjokgnjinaaGreatDoor
