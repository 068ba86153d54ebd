/- Lemmas for the proof of the law; no condition. -/
import Derived.Test.YtdibhfbogjngkaaGreatDoorFH
set_option linter.unusedVariables false
set_option maxRecDepth 100000
namespace Go.Proofs.YtdibhfbogjngkaaGreatDoor
open Go Go.Vc Go.Proofs Go.ChangeShapes Go.WideShapes Go.ChangeAt Go.RowKit
theorem Jw:joinedFacts Tryz.checked.prog 4 Tryz.f4 Rows.auditLosesSpec Rows.auditLosesRow=true:=by
 have c:=RE;have a:=RF;have h3:=RG;have b:=RH;unfold joinedFacts;simp only[Bool.and_eq_true]
 repeat' apply And.intro
 all_goals first|with_reducible assumption|kernel_rfl
end Go.Proofs.YtdibhfbogjngkaaGreatDoor
