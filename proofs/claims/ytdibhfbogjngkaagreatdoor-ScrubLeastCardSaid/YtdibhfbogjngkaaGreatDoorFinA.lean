/- Lemmas for the proof of the law; no condition. -/
import Derived.Test.YtdibhfbogjngkaaGreatDoorPlB
import Derived.LaidMore
import Derived.Lay
import Derived.OpenShut
import Derived.Stop.Joined
import Derived.Test.YtdibhfbogjngkaaGreatDoorRows
set_option linter.unusedVariables false
open Go.Proofs.Tryz renaming prog -> xm
namespace Go.Proofs.YtdibhfbogjngkaaGreatDoor
open Go Go.Vc Go.Proofs Go.ChangeShapes Go.WideShapes Go.ChangeAt Go.RowKit
theorem Tryz.own:ownKnob Tryz.prog.godebug=none:=l0
theorem Tryz.laidOut:laidOutB xm=true:=l0
theorem Tryz.u3:Tryz.prog.underlying 3=some (.int .i64):=l0
theorem Tryz.u4:Tryz.prog.underlying 4=some .bool:=l0
theorem Tryz.u22:Tryz.prog.underlying 22=some (.slice 3):=l0
theorem Tryz.c3:Tryz.prog.cellsOf 3=1:=l0
def Tryz.gq:List (String×DataW Unit):=[("unicode/utf8.acceptRanges",Rows.laid_unicode_utf8_acceptRanges),("unicode/utf8.first",Rows.laid_unicode_utf8_first)]
end Go.Proofs.YtdibhfbogjngkaaGreatDoor
