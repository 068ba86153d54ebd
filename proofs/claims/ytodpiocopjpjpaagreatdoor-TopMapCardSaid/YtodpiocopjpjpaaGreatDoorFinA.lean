/- Lemmas for the proof of the law; no condition. -/
import Derived.Test.YtodpiocopjpjpaaGreatDoorPlB
import Derived.LaidMore
import Derived.Lay
import Derived.OpenShut
import Derived.Stop.Joined
import Derived.Test.YtodpiocopjpjpaaGreatDoorRows
set_option linter.unusedVariables false
open Go.Proofs.Tryz renaming prog -> kg
namespace Go.Proofs.YtodpiocopjpjpaaGreatDoor
open Go Go.Qw Go.Proofs Go.ChangeShapes Go.WideShapes Go.ChangeAt Go.RowKit
theorem Tryz.own:ownKnob Tryz.prog.godebug=none:=j6
theorem Tryz.laidOut:laidOutB kg=true:=j6
theorem Tryz.u3:Tryz.prog.underlying 3=some (.int .i64):=j6
theorem Tryz.u4:Tryz.prog.underlying 4=some .bool:=j6
theorem Tryz.u22:Tryz.prog.underlying 22=some (.slice 3):=j6
theorem Tryz.c3:Tryz.prog.cellsOf 3=1:=j6
def Tryz.fJ:List (String×DataW Unit):=[("unicode/utf8.acceptRanges",Rows.laid_unicode_utf8_acceptRanges),("unicode/utf8.first",Rows.laid_unicode_utf8_first)]
end Go.Proofs.YtodpiocopjpjpaaGreatDoor
