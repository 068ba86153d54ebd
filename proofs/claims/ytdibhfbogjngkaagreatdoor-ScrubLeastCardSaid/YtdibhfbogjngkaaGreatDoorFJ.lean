/- Lemmas for the proof of the law; no condition. -/
import Derived.Test.YtdibhfbogjngkaaGreatDoorFH
set_option linter.unusedVariables false
set_option maxRecDepth 100000
namespace Go.Proofs.YtdibhfbogjngkaaGreatDoor
open Go Go.Vc Go.Proofs Go.ChangeShapes Go.WideShapes Go.ChangeAt Go.RowKit
theorem Jl:joinedFacts Tryz.checked.prog 3 Tryz.f3 Rows.scrubLeastSpec Rows.scrubLeastRow=true:=by
 have b:=Ri;have c:=Rj;have h3:=Rk;have a:=Rl;unfold joinedFacts;simp only[Bool.and_eq_true]
 repeat' apply And.intro
 all_goals first|with_reducible assumption|kernel_rfl
end Go.Proofs.YtdibhfbogjngkaaGreatDoor
