/- Lemmas for the proof of the law; no condition. -/
import Derived.Test.YtahcfjokgnjinaaGreatDoorFH
set_option linter.unusedVariables false
set_option maxRecDepth 100000
namespace Go.Proofs.YtahcfjokgnjinaaGreatDoor
open Go Go.Vc Go.Proofs Go.ChangeShapes Go.WideShapes Go.ChangeAt Go.RowKit
theorem Gz:joinedFacts Tryz.checked.prog 3 Tryz.f3 Rows.scrubKeepsSpec Rows.scrubKeepsRow=true:=by
 have b:=NT;have c:=NU;have h3:=NV;have a:=NW;unfold joinedFacts;simp only[Bool.and_eq_true]
 repeat' apply And.intro
 all_goals first|with_reducible assumption|kernel_rfl
end Go.Proofs.YtahcfjokgnjinaaGreatDoor
