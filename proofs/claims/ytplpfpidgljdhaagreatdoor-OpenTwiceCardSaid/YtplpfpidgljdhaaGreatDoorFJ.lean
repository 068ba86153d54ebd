/- Lemmas for the proof of the law; no condition. -/
import Derived.Test.YtplpfpidgljdhaaGreatDoorFH
set_option linter.unusedVariables false
set_option maxRecDepth 100000
namespace Go.Proofs.YtplpfpidgljdhaaGreatDoor
open Go Go.Qw Go.Proofs Go.ChangeShapes Go.WideShapes Go.ChangeAt Go.RowKit
theorem GD:joinedFacts Tryz.checked.prog 3 Tryz.f3 Rows.openTwiceSpec Rows.openTwiceRow=true:=by
 have a:=Pv;have b:=Pw;have h3:=Px;have c:=Py;unfold joinedFacts;simp only[Bool.and_eq_true]
 repeat' apply And.intro
 all_goals first|with_reducible assumption|kernel_rfl
end Go.Proofs.YtplpfpidgljdhaaGreatDoor
