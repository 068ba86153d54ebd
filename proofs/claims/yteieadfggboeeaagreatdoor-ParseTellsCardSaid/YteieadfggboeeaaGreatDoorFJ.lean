/- Part of the proofs that the laws of this seat answer true whatever the input reads, and leave it as it was; no condition. -/
import Derived.Test.YteieadfggboeeaaGreatDoorFH
import Derived.Test.YteieadfggboeeaaGreatDoorCards
set_option linter.unusedVariables false
set_option linter.unusedSimpArgs false
namespace Go.Proofs.YteieadfggboeeaaGreatDoor
open Go Go.Vc Go.Proofs Go.ChangeShapes Go.WideShapes Go.ChangeAt Go.RowKit
set_option maxRecDepth 100000 in
theorem nu:joinedFacts Tryz.checked.prog 3 Tryz.f3 Rows.parseTellsSpec Rows.parseTellsRow=true:=by
 have h1:=ra
 have h2:=rb
 have h3:=rc
 have h4:=re
 unfold joinedFacts
 simp only[Bool.and_eq_true]
 repeat' apply And.intro
 all_goals first|with_reducible assumption|kernel_rfl
end Go.Proofs.YteieadfggboeeaaGreatDoor
