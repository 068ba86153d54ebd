/- Part of the proofs that wellspringlaw27's laws answer true whatever the input reads, and leave it as it was; no condition. -/
import Derived.Test.YtmadbodaleaaeaaFinG
import Derived.Test.YtmadbodaleaaeaaRows
set_option linter.unusedVariables false
set_option linter.unusedSimpArgs false
namespace Go.Proofs.Ytmadbodaleaaeaa
open Go Go.Vc Go.Proofs Go.ChangeShapes Go.WideShapes Go.ChangeAt Go.RowKit
theorem Try.own : ownKnob Try.prog.godebug = none := by kernel_rfl
theorem Try.laidOut : laidOutB Try.prog = true := by kernel_rfl
theorem Try.u3 : Try.prog.underlying 3 = some (.int .i64) := by kernel_rfl
theorem Try.u4 : Try.prog.underlying 4 = some .bool := by kernel_rfl
theorem Try.u22 : Try.prog.underlying 22 = some (.int .u64) := by kernel_rfl
theorem Try.u28 : Try.prog.underlying 28 = some (.slice 3) := by kernel_rfl
theorem Try.c3 : Try.prog.cellsOf 3 = 1 := by kernel_rfl
end Go.Proofs.Ytmadbodaleaaeaa
