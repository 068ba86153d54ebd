/- Part of the proofs that the laws of this seat answer true whatever the input reads, and leave it as it was; no condition. -/
import Derived.Test.YtcamechmadjclaaGreatDoorFH
import Derived.Test.YtcamechmadjclaaGreatDoorCards
set_option linter.unusedVariables false
set_option linter.unusedSimpArgs false
open Bool renaming and_eq_true -> qB
set_option maxRecDepth 100000
namespace Go.Proofs.YtcamechmadjclaaGreatDoor
open Go Go.Vc Go.Proofs Go.ChangeShapes Go.WideShapes Go.ChangeAt Go.RowKit
theorem mU:joinedFacts Tryz.checked.prog 3 Tryz.f3 Rows.archiveNewSpec Rows.archiveNewRow=true:=by
 have c:=re;have a:=rf;have d:=rg;have b:=rh;unfold joinedFacts;simp only[qB]
 repeat' apply And.intro
 all_goals first|with_reducible assumption|kernel_rfl
end Go.Proofs.YtcamechmadjclaaGreatDoor
