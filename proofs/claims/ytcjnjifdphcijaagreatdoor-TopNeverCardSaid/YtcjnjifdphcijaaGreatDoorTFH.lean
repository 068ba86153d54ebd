/- Lemmas for the proof of the law; no condition. -/
import Derived.Test.YtcjnjifdphcijaaGreatDoorTFinA
import Derived.Test.YtcjnjifdphcijaaGreatDoorCards
set_option linter.unusedVariables false
namespace Go.Proofs.YtcjnjifdphcijaaGreatDoor
open Go Go.Qw Go.Proofs Go.ChangeShapes Go.WideShapes Go.ChangeAt Go.RowKit
theorem Qb:(Rows.topNeverRow.inPlace==Tryz.checked.prog.inPlace 3)=true:=j3
theorem Qc:(Rows.topNeverRow.unfollowed==Tryz.checked.prog.unfollowed 3)=true:=j3
theorem Qd:(Rows.topNeverRow.recurses==Tryz.checked.prog.recurses 3)=true:=j3
theorem Qe:(Rows.topNeverRow.named==Tryz.checked.prog.varsNamed 3)=true:=j3
end Go.Proofs.YtcjnjifdphcijaaGreatDoor
