/- Lemmas for the proof of the law; no condition. -/
import Derived.Test.YtcjnjifdphcijaaGreatDoorTPlB
import Derived.LaidMore
import Derived.Lay
import Derived.OpenShut
import Derived.Stop.Joined
import Derived.Test.YtcjnjifdphcijaaGreatDoorRows
set_option linter.unusedVariables false
open Go.Proofs.Tryz renaming prog -> xJ
namespace Go.Proofs.YtcjnjifdphcijaaGreatDoor
open Go Go.Qw Go.Proofs Go.ChangeShapes Go.WideShapes Go.ChangeAt Go.RowKit
theorem Tryz.own:ownKnob Tryz.prog.godebug=none:=j3
theorem Tryz.laidOut:laidOutB xJ=true:=j3
theorem Tryz.u3:Tryz.prog.underlying 3=some (.int .i64):=j3
theorem Tryz.u4:Tryz.prog.underlying 4=some .bool:=j3
theorem Tryz.Rc:Tryz.prog.underlying 22=some (.slice 3):=j3
theorem Tryz.c3:Tryz.prog.cellsOf 3=1:=j3
def Tryz.fd:List (String×DataW Unit):=[("unicode/utf8.acceptRanges",Rows.laid_unicode_utf8_acceptRanges),("unicode/utf8.first",Rows.laid_unicode_utf8_first)]
end Go.Proofs.YtcjnjifdphcijaaGreatDoor
