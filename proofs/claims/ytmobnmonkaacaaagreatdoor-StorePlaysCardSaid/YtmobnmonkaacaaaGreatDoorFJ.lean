/- Lemmas for the proof of the law; no condition. -/
import Derived.Test.YtmobnmonkaacaaaGreatDoorFH
set_option linter.unusedVariables false
set_option maxRecDepth 100000
namespace Go.Proofs.YtmobnmonkaacaaaGreatDoor
open Go Go.Qw Go.Proofs Go.ChangeShapes Go.WideShapes Go.ChangeAt Go.RowKit
theorem Ex:joinedFacts Tryz.checked.prog 4 Tryz.f4 Rows.storePlaysSpec Rows.storePlaysRow=true:=by
 have b:=KH;have c:=KI;have h3:=KJ;have a:=KK;unfold joinedFacts;simp only[Bool.and_eq_true]
 repeat' apply And.intro
 all_goals first|with_reducible assumption|kernel_rfl
end Go.Proofs.YtmobnmonkaacaaaGreatDoor
