/- Lemmas for the proof of the law; no condition. -/
import Derived.Test.YtfjdddcdkcbocaaGreatDoorFH
set_option linter.unusedVariables false
set_option maxRecDepth 100000
namespace Go.Proofs.YtfjdddcdkcbocaaGreatDoor
open Go Go.Qw Go.Proofs Go.ChangeShapes Go.WideShapes Go.ChangeAt Go.RowKit
theorem Cg:joinedFacts Tryz.checked.prog 3 Tryz.f3 Rows.storeCommitsSpec Rows.storeCommitsRow=true:=by
 have b:=Ib;have c:=Ic;have h3:=Ie;have a:=If;unfold joinedFacts;simp only[Bool.and_eq_true]
 repeat' apply And.intro
 all_goals first|with_reducible assumption|kernel_rfl
end Go.Proofs.YtfjdddcdkcbocaaGreatDoor
