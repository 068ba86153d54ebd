/- Lemmas for the proof of the law; no condition. -/
import Derived.Test.YtdibhfbogjngkaaGreatDoorFH
set_option linter.unusedVariables false
set_option maxRecDepth 100000
namespace Go.Proofs.YtdibhfbogjngkaaGreatDoor
open Go Go.Vc Go.Proofs Go.ChangeShapes Go.WideShapes Go.ChangeAt Go.RowKit
theorem JL:joinedFacts Tryz.checked.prog 5 Tryz.f5 Rows.scrubMendsSpec Rows.scrubMendsRow=true:=by
 have a:=RR;have c:=RS;have h3:=RT;have b:=RU;unfold joinedFacts;simp only[Bool.and_eq_true]
 repeat' apply And.intro
 all_goals first|with_reducible assumption|kernel_rfl
end Go.Proofs.YtdibhfbogjngkaaGreatDoor
