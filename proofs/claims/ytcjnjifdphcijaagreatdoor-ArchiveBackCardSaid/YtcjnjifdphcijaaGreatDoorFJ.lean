/- Lemmas for the proof of the law; no condition. -/
import Derived.Test.YtcjnjifdphcijaaGreatDoorFH
set_option linter.unusedVariables false
set_option maxRecDepth 100000
namespace Go.Proofs.YtcjnjifdphcijaaGreatDoor
open Go Go.Qw Go.Proofs Go.ChangeShapes Go.WideShapes Go.ChangeAt Go.RowKit
theorem FK:joinedFacts Tryz.checked.prog 4 Tryz.f4 Rows.archiveBackSpec Rows.archiveBackRow=true:=by
 have a:=Lv;have b:=Lw;have h3:=Lx;have c:=Ly;unfold joinedFacts;simp only[Bool.and_eq_true]
 repeat' apply And.intro
 all_goals first|with_reducible assumption|kernel_rfl
end Go.Proofs.YtcjnjifdphcijaaGreatDoor
