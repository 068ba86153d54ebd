/- Lemmas for the proof of the law; no condition. -/
import Derived.Test.YtcjnjifdphcijaaGreatDoorPlB
import Derived.LaidMore
import Derived.Lay
import Derived.OpenShut
import Derived.Stop.Joined
import Derived.Test.YtcjnjifdphcijaaGreatDoorRows
set_option linter.unusedVariables false
open Go.Proofs.Tryz renaming prog -> xT
namespace Go.Proofs.YtcjnjifdphcijaaGreatDoor
open Go Go.Qw Go.Proofs Go.ChangeShapes Go.WideShapes Go.ChangeAt Go.RowKit
theorem Tryz.own:ownKnob Tryz.prog.godebug=none:=js
theorem Tryz.laidOut:laidOutB xT=true:=js
theorem Tryz.u3:Tryz.prog.underlying 3=some (.int .i64):=js
theorem Tryz.u4:Tryz.prog.underlying 4=some .bool:=js
theorem Tryz.MZ:Tryz.prog.underlying 22=some (.slice 3):=js
theorem Tryz.c3:Tryz.prog.cellsOf 3=1:=js
def Tryz.dD:List (String×DataW Unit):=[("unicode/utf8.acceptRanges",Rows.laid_unicode_utf8_acceptRanges),("unicode/utf8.first",Rows.laid_unicode_utf8_first)]
end Go.Proofs.YtcjnjifdphcijaaGreatDoor
