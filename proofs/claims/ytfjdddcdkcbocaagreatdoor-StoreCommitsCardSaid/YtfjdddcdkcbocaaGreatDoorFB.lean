/- Lemmas for the proof of the law; no condition. -/
import Derived.Test.YtfjdddcdkcbocaaGreatDoorFinA
import Derived.Test.YtfjdddcdkcbocaaGreatDoorCards
set_option linter.unusedVariables false
namespace Go.Proofs.YtfjdddcdkcbocaaGreatDoor
open Go Go.Qw Go.Proofs Go.ChangeShapes Go.WideShapes Go.ChangeAt Go.RowKit
theorem Tryz.adc:Tryz.pinned.checked.prog.funcs.any Func.goes=false:=o0
theorem Ig:false=Rows.storeCommitsRow.goesBy Tryz.pinned.checked.prog:=(On Tryz.adc).symm
end Go.Proofs.YtfjdddcdkcbocaaGreatDoor
