/- Lemmas for the proof of the law; no condition. -/
import Derived.Test.YtmobnmonkaacaaaGreatDoorDPlB
import Derived.LaidMore
import Derived.Lay
import Derived.OpenShut
import Derived.Stop.Joined
import Derived.Test.YtmobnmonkaacaaaGreatDoorRows
set_option linter.unusedVariables false
open Go.Proofs.Tryz renaming prog -> xT
namespace Go.Proofs.YtmobnmonkaacaaaGreatDoor
open Go Go.Qw Go.Proofs Go.ChangeShapes Go.WideShapes Go.ChangeAt Go.RowKit
theorem Tryz.own:ownKnob Tryz.prog.godebug=none:=n9
theorem Tryz.laidOut:laidOutB xT=true:=n9
theorem Tryz.u3:Tryz.prog.underlying 3=some (.int .i64):=n9
theorem Tryz.u4:Tryz.prog.underlying 4=some .bool:=n9
theorem Tryz.u22:Tryz.prog.underlying 22=some (.slice 3):=n9
theorem Tryz.c3:Tryz.prog.cellsOf 3=1:=n9
def Tryz.HQ:List (String×DataW Unit):=[("unicode/utf8.acceptRanges",Rows.laid_unicode_utf8_acceptRanges),("unicode/utf8.first",Rows.laid_unicode_utf8_first)]
end Go.Proofs.YtmobnmonkaacaaaGreatDoor
