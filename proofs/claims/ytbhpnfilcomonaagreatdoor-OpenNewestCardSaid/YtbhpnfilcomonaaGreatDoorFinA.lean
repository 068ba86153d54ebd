/- Lemmas for the proof of the law; no condition. -/
import Derived.Test.YtbhpnfilcomonaaGreatDoorPlK
import Derived.LaidMore
import Derived.Lay
import Derived.OpenShut
import Derived.Stop.Joined
import Derived.Test.YtbhpnfilcomonaaGreatDoorRows
set_option linter.unusedVariables false
open Go.Proofs.Tryz renaming prog -> xa
namespace Go.Proofs.YtbhpnfilcomonaaGreatDoor
open Go Go.Vc Go.Proofs Go.ChangeShapes Go.WideShapes Go.ChangeAt Go.RowKit
theorem Tryz.own:ownKnob Tryz.prog.godebug=none:=by kernel_rfl
theorem Tryz.laidOut:laidOutB xa=true:=by kernel_rfl
theorem Tryz.u3:Tryz.prog.underlying 3=some (.int .i64):=by kernel_rfl
theorem Tryz.u4:Tryz.prog.underlying 4=some .bool:=by kernel_rfl
theorem Tryz.Yx:Tryz.prog.underlying 22=some (.slice 3):=by kernel_rfl
theorem Tryz.c3:Tryz.prog.cellsOf 3=1:=by kernel_rfl
def Tryz.eV:List (String×DataW Unit):=[("unicode/utf8.acceptRanges",Rows.laid_unicode_utf8_acceptRanges),("unicode/utf8.first",Rows.laid_unicode_utf8_first)]
end Go.Proofs.YtbhpnfilcomonaaGreatDoor
