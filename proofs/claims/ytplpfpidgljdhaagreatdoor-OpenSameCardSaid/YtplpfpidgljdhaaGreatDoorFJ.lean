/- Lemmas for the proof of the law; no condition. -/
import Derived.Test.YtplpfpidgljdhaaGreatDoorFH
set_option linter.unusedVariables false
set_option maxRecDepth 100000
namespace Go.Proofs.YtplpfpidgljdhaaGreatDoor
open Go Go.Qw Go.Proofs Go.ChangeShapes Go.WideShapes Go.ChangeAt Go.RowKit
theorem Jz:joinedFacts Tryz.checked.prog 4 Tryz.f4 Rows.openSameSpec Rows.openSameRow=true:=by
 have a:=RZ;have b:=Sa;have h3:=Sb;have c:=Se;unfold joinedFacts;simp only[Bool.and_eq_true]
 repeat' apply And.intro
 all_goals first|with_reducible assumption|kernel_rfl
end Go.Proofs.YtplpfpidgljdhaaGreatDoor
