/- Lemmas for the proof of the law; no condition. -/
import Derived.Test.YtcjnjifdphcijaaGreatDoorTFH
set_option linter.unusedVariables false
set_option maxRecDepth 100000
namespace Go.Proofs.YtcjnjifdphcijaaGreatDoor
open Go Go.Qw Go.Proofs Go.ChangeShapes Go.WideShapes Go.ChangeAt Go.RowKit
theorem Ik:joinedFacts Tryz.checked.prog 3 Tryz.f3 Rows.topNeverSpec Rows.topNeverRow=true:=by
 have c:=Qb;have a:=Qc;have h3:=Qd;have b:=Qe;unfold joinedFacts;simp only[Bool.and_eq_true]
 repeat' apply And.intro
 all_goals first|with_reducible assumption|kernel_rfl
end Go.Proofs.YtcjnjifdphcijaaGreatDoor
