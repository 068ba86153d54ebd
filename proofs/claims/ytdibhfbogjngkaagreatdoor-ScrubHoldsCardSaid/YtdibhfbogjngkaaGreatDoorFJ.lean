/- Lemmas for the proof of the law; no condition. -/
import Derived.Test.YtdibhfbogjngkaaGreatDoorFH
set_option linter.unusedVariables false
set_option maxRecDepth 100000
namespace Go.Proofs.YtdibhfbogjngkaaGreatDoor
open Go Go.Vc Go.Proofs Go.ChangeShapes Go.WideShapes Go.ChangeAt Go.RowKit
theorem Kb:joinedFacts Tryz.checked.prog 6 Tryz.f6 Rows.scrubHoldsSpec Rows.scrubHoldsRow=true:=by
 have a:=Sr;have c:=Ss;have h3:=Su;have b:=Sv;unfold joinedFacts;simp only[Bool.and_eq_true]
 repeat' apply And.intro
 all_goals first|with_reducible assumption|kernel_rfl
end Go.Proofs.YtdibhfbogjngkaaGreatDoor
