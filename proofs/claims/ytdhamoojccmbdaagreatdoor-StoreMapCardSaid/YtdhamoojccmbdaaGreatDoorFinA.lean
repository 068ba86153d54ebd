/- Part of the proofs that the laws of this seat answer true whatever the input reads, and leave it as it was; no condition. -/
import Derived.Test.YtdhamoojccmbdaaGreatDoorPlK
import Derived.LaidMore
import Derived.Lay
import Derived.OpenShut
import Derived.Stop.Joined
import Derived.Test.YtdhamoojccmbdaaGreatDoorRows
set_option linter.unusedVariables false
set_option linter.unusedSimpArgs false
open Go.Proofs.Tryz renaming prog -> xl
namespace Go.Proofs.YtdhamoojccmbdaaGreatDoor
open Go Go.Vc Go.Proofs Go.ChangeShapes Go.WideShapes Go.ChangeAt Go.RowKit
theorem Tryz.own:ownKnob Tryz.prog.godebug=none:=by kernel_rfl
theorem Tryz.laidOut:laidOutB xl=true:=by kernel_rfl
theorem Tryz.u3:Tryz.prog.underlying 3=some (.int .i64):=by kernel_rfl
theorem Tryz.u4:Tryz.prog.underlying 4=some .bool:=by kernel_rfl
theorem Tryz.u22:Tryz.prog.underlying 22=some (.slice 3):=by kernel_rfl
theorem Tryz.c3:Tryz.prog.cellsOf 3=1:=by kernel_rfl
def Tryz.dG:List (String×DataW Unit):=[("unicode/utf8.acceptRanges",Rows.laid_unicode_utf8_acceptRanges),("unicode/utf8.first",Rows.laid_unicode_utf8_first)]
end Go.Proofs.YtdhamoojccmbdaaGreatDoor
