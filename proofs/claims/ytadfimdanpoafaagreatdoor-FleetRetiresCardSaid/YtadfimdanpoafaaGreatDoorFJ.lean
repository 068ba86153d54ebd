/- Lemmas. -/
import Derived.Test.YtadfimdanpoafaaGreatDoorFH
set_option linter.unusedVariables false
set_option maxRecDepth 100000
namespace Go.Proofs.YtadfimdanpoafaaGreatDoor
open Go Go.Vc Go.Proofs Go.ChangeShapes Go.WideShapes Go.ChangeAt Go.RowKit
theorem EQ:joinedFacts Tryz.checked.prog 3 Tryz.f3 Rows.fleetRetiresSpec Rows.fleetRetiresRow=true:=by
 have c:=Mf;have a:=Mg;have h3:=Mh;have b:=Mi;unfold joinedFacts;simp only[Bool.and_eq_true]
 repeat' apply And.intro
 all_goals first|with_reducible assumption|kernel_rfl
end Go.Proofs.YtadfimdanpoafaaGreatDoor
