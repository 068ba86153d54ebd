/- Lemmas for the proof of the law; no condition. -/
import Derived.Test.YtfjdddcdkcbocaaGreatDoorPlB
import Derived.LaidMore
import Derived.Lay
import Derived.OpenShut
import Derived.Stop.Joined
import Derived.Test.YtfjdddcdkcbocaaGreatDoorRows
set_option linter.unusedVariables false
open Go.Proofs.Tryz renaming prog -> xZ
namespace Go.Proofs.YtfjdddcdkcbocaaGreatDoor
open Go Go.Qw Go.Proofs Go.ChangeShapes Go.WideShapes Go.ChangeAt Go.RowKit
theorem Tryz.own:ownKnob Tryz.prog.godebug=none:=o0
theorem Tryz.laidOut:laidOutB xZ=true:=o0
theorem Tryz.u3:Tryz.prog.underlying 3=some (.int .i64):=o0
theorem Tryz.u4:Tryz.prog.underlying 4=some .bool:=o0
theorem Tryz.QN:Tryz.prog.underlying 22=some (.slice 3):=o0
theorem Tryz.c3:Tryz.prog.cellsOf 3=1:=o0
def Tryz.Hw:List (String×DataW Unit):=[("unicode/utf8.acceptRanges",Rows.laid_unicode_utf8_acceptRanges),("unicode/utf8.first",Rows.laid_unicode_utf8_first)]
end Go.Proofs.YtfjdddcdkcbocaaGreatDoor
