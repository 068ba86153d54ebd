/- Lemmas for the proof of the law; no condition. -/
import Derived.Test.YtcaonbjibhlkcaaGreatDoorFH
set_option linter.unusedVariables false
set_option maxRecDepth 100000
namespace Go.Proofs.YtcaonbjibhlkcaaGreatDoor
open Go Go.Vc Go.Proofs Go.ChangeShapes Go.WideShapes Go.ChangeAt Go.RowKit
theorem GQ:joinedFacts Tryz.checked.prog 3 Tryz.f3 Rows.topRatelessSpec Rows.topRatelessRow=true:=by
 have b:=MH;have a:=MI;have h3:=MJ;have c:=MK;unfold joinedFacts;simp only[Bool.and_eq_true]
 repeat' apply And.intro
 all_goals first|with_reducible assumption|kernel_rfl
end Go.Proofs.YtcaonbjibhlkcaaGreatDoor
