/- Proved here: what functions that the law reaches compute, and plain laws of that. No conditions but those that the theorems state. -/
import Derived.Test.YthaklbjcjoolcaaRows
import Derived.ProofKit
set_option linter.unusedVariables false
set_option linter.unusedSimpArgs false
namespace Go.Proofs.Ythaklbjcjoolcaa.P
open Go.RowKit
/-! Three facts of the program's head: each by the kernel apart (together they outgrow the lid). -/
theorem may_enter : Try.prog.mayEnter = true := by kernel_rfl
theorem lifts_not : Try.prog.liftsFinal = false := by kernel_rfl
theorem make_cut : Try.prog.make = some .cut := by kernel_rfl
end Go.Proofs.Ythaklbjcjoolcaa.P
