/- Lemmas for the proof of the law; no condition. -/
import Derived.Test.YtbhpnfilcomonaaGreatDoorFH
set_option linter.unusedVariables false
set_option maxRecDepth 100000
namespace Go.Proofs.YtbhpnfilcomonaaGreatDoor
open Go Go.Vc Go.Proofs Go.ChangeShapes Go.WideShapes Go.ChangeAt Go.RowKit
theorem Ci:joinedFacts Tryz.checked.prog 3 Tryz.f3 Rows.openNewestSpec Rows.openNewestRow=true:=by
 have c:=Jm;have a:=Jn;have h3:=Jo;have b:=Jp;unfold joinedFacts;simp only[Bool.and_eq_true]
 repeat' apply And.intro
 all_goals first|with_reducible assumption|kernel_rfl
end Go.Proofs.YtbhpnfilcomonaaGreatDoor
