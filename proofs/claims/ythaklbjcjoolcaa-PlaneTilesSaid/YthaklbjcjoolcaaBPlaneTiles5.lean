/- Proved here: what functions that the law reaches compute, and plain laws of that. -/
import Derived.Test.YthaklbjcjoolcaaRows
import Derived.ProofKit
set_option linter.unusedVariables false
set_option linter.unusedSimpArgs false
namespace Go.Proofs.Ythaklbjcjoolcaa.P
open Go.RowKit
theorem may_enter : Try.prog.mayEnter = true := by kernel_rfl
theorem lifts_not : Try.prog.liftsFinal = false := by kernel_rfl
theorem make_cut : Try.prog.make = some .cut := by kernel_rfl
end Go.Proofs.Ythaklbjcjoolcaa.P
