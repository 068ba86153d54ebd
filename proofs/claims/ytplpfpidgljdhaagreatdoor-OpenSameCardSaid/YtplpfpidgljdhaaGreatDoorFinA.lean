/- Lemmas for the proof of the law; no condition. -/
import Derived.Test.YtplpfpidgljdhaaGreatDoorPlB
import Derived.LaidMore
import Derived.Lay
import Derived.OpenShut
import Derived.Stop.Joined
import Derived.Test.YtplpfpidgljdhaaGreatDoorRows
set_option linter.unusedVariables false
open Go.Proofs.Tryz renaming prog -> xP
namespace Go.Proofs.YtplpfpidgljdhaaGreatDoor
open Go Go.Qw Go.Proofs Go.ChangeShapes Go.WideShapes Go.ChangeAt Go.RowKit
theorem Tryz.own:ownKnob Tryz.prog.godebug=none:=j4
theorem Tryz.laidOut:laidOutB xP=true:=j4
theorem Tryz.u3:Tryz.prog.underlying 3=some (.int .i64):=j4
theorem Tryz.u4:Tryz.prog.underlying 4=some .bool:=j4
theorem Tryz.u22:Tryz.prog.underlying 22=some (.slice 3):=j4
theorem Tryz.c3:Tryz.prog.cellsOf 3=1:=j4
def Tryz.dM:List (String×DataW Unit):=[("unicode/utf8.acceptRanges",Rows.laid_unicode_utf8_acceptRanges),("unicode/utf8.first",Rows.laid_unicode_utf8_first)]
end Go.Proofs.YtplpfpidgljdhaaGreatDoor
