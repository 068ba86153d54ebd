/- Lemmas for the proof of the law; no condition. -/
import Derived.Test.YtcjnjifdphcijaaGreatDoorFinA
import Derived.Test.YtcjnjifdphcijaaGreatDoorCards
set_option linter.unusedVariables false
namespace Go.Proofs.YtcjnjifdphcijaaGreatDoor
open Go Go.Qw Go.Proofs Go.ChangeShapes Go.WideShapes Go.ChangeAt Go.RowKit
theorem Lv:(Rows.archiveBackRow.inPlace==Tryz.checked.prog.inPlace 4)=true:=js
theorem Lw:(Rows.archiveBackRow.unfollowed==Tryz.checked.prog.unfollowed 4)=true:=js
theorem Lx:(Rows.archiveBackRow.recurses==Tryz.checked.prog.recurses 4)=true:=js
theorem Ly:(Rows.archiveBackRow.named==Tryz.checked.prog.varsNamed 4)=true:=js
end Go.Proofs.YtcjnjifdphcijaaGreatDoor
