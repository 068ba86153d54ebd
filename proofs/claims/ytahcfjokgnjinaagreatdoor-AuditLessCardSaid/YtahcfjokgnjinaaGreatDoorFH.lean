/- Lemmas for the proof of the law; no condition. -/
import Derived.Test.YtahcfjokgnjinaaGreatDoorFinA
import Derived.Test.YtahcfjokgnjinaaGreatDoorCards
set_option linter.unusedVariables false
namespace Go.Proofs.YtahcfjokgnjinaaGreatDoor
open Go Go.Vc Go.Proofs Go.ChangeShapes Go.WideShapes Go.ChangeAt Go.RowKit
theorem Wa:(Rows.auditLessRow.inPlace==Tryz.checked.prog.inPlace 4)=true:=j3
theorem Wb:(Rows.auditLessRow.unfollowed==Tryz.checked.prog.unfollowed 4)=true:=j3
theorem Wc:(Rows.auditLessRow.recurses==Tryz.checked.prog.recurses 4)=true:=j3
theorem Wd:(Rows.auditLessRow.named==Tryz.checked.prog.varsNamed 4)=true:=j3
end Go.Proofs.YtahcfjokgnjinaaGreatDoor
