/- Part of the proofs that the laws of this seat answer true whatever the input reads, and leave it as it was; no condition. -/
import Derived.Test.YteieadfggboeeaaGreatDoorFH
import Derived.Test.YteieadfggboeeaaGreatDoorCards
set_option linter.unusedVariables false
set_option linter.unusedSimpArgs false
namespace Go.Proofs.YteieadfggboeeaaGreatDoor
open Go Go.Vc Go.Proofs Go.ChangeShapes Go.WideShapes Go.ChangeAt Go.RowKit
set_option maxRecDepth 100000 in
theorem nY:joinedFacts Tryz.checked.prog 4 Tryz.f4 Rows.tellTellsSpec Rows.tellTellsRow=true:=by
 have h1:=sp
 have h2:=sr
 have h3:=ss
 have h4:=su
 unfold joinedFacts
 simp only[Bool.and_eq_true]
 repeat' apply And.intro
 all_goals first|with_reducible assumption|kernel_rfl
end Go.Proofs.YteieadfggboeeaaGreatDoor
