/- Lemmas for the proof of the law; no condition. -/
import Derived.Test.YtcaonbjibhlkcaaGreatDoorPlK
import Derived.LaidMore
import Derived.Lay
import Derived.OpenShut
import Derived.Stop.Joined
import Derived.Test.YtcaonbjibhlkcaaGreatDoorRows
set_option linter.unusedVariables false
open Go.Proofs.Tryz renaming prog -> xv
namespace Go.Proofs.YtcaonbjibhlkcaaGreatDoor
open Go Go.Vc Go.Proofs Go.ChangeShapes Go.WideShapes Go.ChangeAt Go.RowKit
theorem Tryz.own:ownKnob Tryz.prog.godebug=none:=by kernel_rfl
theorem Tryz.laidOut:laidOutB xv=true:=by kernel_rfl
theorem Tryz.u3:Tryz.prog.underlying 3=some (.int .i64):=by kernel_rfl
theorem Tryz.u4:Tryz.prog.underlying 4=some .bool:=by kernel_rfl
theorem Tryz.u5:Tryz.prog.underlying 5=some (.int .u8):=by kernel_rfl
theorem Tryz.u22:Tryz.prog.underlying 22=some (.int .u64):=by kernel_rfl
theorem Tryz.u23:Tryz.prog.underlying 23=some (.slice 5):=by kernel_rfl
theorem Tryz.c5:Tryz.prog.cellsOf 5=1:=by kernel_rfl
def Tryz.eE:List (String×DataW Unit):=[("unicode/utf8.acceptRanges",Rows.laid_unicode_utf8_acceptRanges),("unicode/utf8.first",Rows.laid_unicode_utf8_first)]
end Go.Proofs.YtcaonbjibhlkcaaGreatDoor
