/- Lemmas for the proof of the law; no condition. -/
import Derived.Test.YtmobnmonkaacaaaGreatDoorPlB
import Derived.LaidMore
import Derived.Lay
import Derived.OpenShut
import Derived.Stop.Joined
import Derived.Test.YtmobnmonkaacaaaGreatDoorRows
set_option linter.unusedVariables false
open Go.Proofs.Tryz renaming prog -> xR
namespace Go.Proofs.YtmobnmonkaacaaaGreatDoor
open Go Go.Qw Go.Proofs Go.ChangeShapes Go.WideShapes Go.ChangeAt Go.RowKit
theorem Tryz.own:ownKnob Tryz.prog.godebug=none:=o5
theorem Tryz.laidOut:laidOutB xR=true:=o5
theorem Tryz.u3:Tryz.prog.underlying 3=some (.int .i64):=o5
theorem Tryz.u4:Tryz.prog.underlying 4=some .bool:=o5
theorem Tryz.u5:Tryz.prog.underlying 5=some (.int .u8):=o5
theorem Tryz.u9:Tryz.prog.underlying 9=some .string:=o5
theorem Tryz.ZG:Tryz.prog.underlying 22=some (.slice 3):=o5
theorem Tryz.u41:Tryz.prog.underlying 41=some (.slice 5):=o5
theorem Tryz.c3:Tryz.prog.cellsOf 3=1:=o5
theorem Tryz.c5:Tryz.prog.cellsOf 5=1:=o5
def Tryz.Ht:List (String×DataW Unit):=[("unicode/utf8.acceptRanges",Rows.laid_unicode_utf8_acceptRanges),("unicode/utf8.first",Rows.laid_unicode_utf8_first)]
end Go.Proofs.YtmobnmonkaacaaaGreatDoor
