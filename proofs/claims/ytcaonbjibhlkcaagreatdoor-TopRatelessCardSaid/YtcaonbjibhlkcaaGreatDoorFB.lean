/- Lemmas for the proof of the law; no condition. -/
import Derived.Test.YtcaonbjibhlkcaaGreatDoorPlM
import Derived.Test.YtcaonbjibhlkcaaGreatDoorFinA
import Derived.Test.YtcaonbjibhlkcaaGreatDoorCards
set_option linter.unusedVariables false
namespace Go.Proofs.YtcaonbjibhlkcaaGreatDoor
open Go Go.Vc Go.Proofs Go.ChangeShapes Go.WideShapes Go.ChangeAt Go.RowKit
theorem Tryz.afx:Tryz.pinned.checked.prog.funcs.any Func.goes=false:=by kernel_rfl
theorem ML:false=Rows.topRatelessRow.goesBy Tryz.pinned.checked.prog:=(SP Tryz.afx).symm
end Go.Proofs.YtcaonbjibhlkcaaGreatDoor
