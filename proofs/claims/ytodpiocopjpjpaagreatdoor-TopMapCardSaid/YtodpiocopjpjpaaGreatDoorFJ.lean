/- Lemmas for the proof of the law; no condition. -/
import Derived.Test.YtodpiocopjpjpaaGreatDoorFH
set_option linter.unusedVariables false
set_option maxRecDepth 100000
namespace Go.Proofs.YtodpiocopjpjpaaGreatDoor
open Go Go.Qw Go.Proofs Go.ChangeShapes Go.WideShapes Go.ChangeAt Go.RowKit
theorem NP:joinedFacts Tryz.checked.prog 3 Tryz.f3 Rows.topMapSpec Rows.topMapRow=true:=by
 have b:=aaY;have a:=aaZ;have h3:=aba;have c:=abb;unfold joinedFacts;simp only[Bool.and_eq_true]
 repeat' apply And.intro
 all_goals first|with_reducible assumption|kernel_rfl
end Go.Proofs.YtodpiocopjpjpaaGreatDoor
