/- Lemmas for the proof of the law; no condition. -/
import Derived.Test.YtmobnmonkaacaaaGreatDoorDFH
set_option linter.unusedVariables false
set_option maxRecDepth 100000
namespace Go.Proofs.YtmobnmonkaacaaaGreatDoor
open Go Go.Qw Go.Proofs Go.ChangeShapes Go.WideShapes Go.ChangeAt Go.RowKit
theorem Gs:joinedFacts Tryz.checked.prog 5 Tryz.f5 Rows.storeDownSpec Rows.storeDownRow=true:=by
 have c:=On;have b:=Oo;have h3:=Oq;have a:=Ot;unfold joinedFacts;simp only[Bool.and_eq_true]
 repeat' apply And.intro
 all_goals first|with_reducible assumption|kernel_rfl
end Go.Proofs.YtmobnmonkaacaaaGreatDoor
