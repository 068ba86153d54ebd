/- Lemmas for the proof of the law; no condition. -/
import Derived.Test.YtahcfjokgnjinaaGreatDoorFH
set_option linter.unusedVariables false
set_option maxRecDepth 100000
namespace Go.Proofs.YtahcfjokgnjinaaGreatDoor
open Go Go.Vc Go.Proofs Go.ChangeShapes Go.WideShapes Go.ChangeAt Go.RowKit
theorem Ml:joinedFacts Tryz.checked.prog 4 Tryz.f4 Rows.auditLessSpec Rows.auditLessRow=true:=by
 have b:=Wa;have a:=Wb;have h3:=Wc;have c:=Wd;unfold joinedFacts;simp only[Bool.and_eq_true]
 repeat' apply And.intro
 all_goals first|with_reducible assumption|kernel_rfl
end Go.Proofs.YtahcfjokgnjinaaGreatDoor
