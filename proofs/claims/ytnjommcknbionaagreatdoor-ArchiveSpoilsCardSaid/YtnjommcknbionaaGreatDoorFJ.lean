/- Lemmas for the proof of the law; no condition. -/
import Derived.Test.YtnjommcknbionaaGreatDoorFH
set_option linter.unusedVariables false
set_option maxRecDepth 100000
namespace Go.Proofs.YtnjommcknbionaaGreatDoor
open Go Go.Vc Go.Proofs Go.ChangeShapes Go.WideShapes Go.ChangeAt Go.RowKit
theorem uk:joinedFacts Tryz.checked.prog 3 Tryz.f3 Rows.archiveSpoilsSpec Rows.archiveSpoilsRow=true:=by
 have a:=CT;have c:=CU;have h3:=CV;have b:=CW;unfold joinedFacts;simp only[Bool.and_eq_true]
 repeat' apply And.intro
 all_goals first|with_reducible assumption|kernel_rfl
end Go.Proofs.YtnjommcknbionaaGreatDoor
