/- A part of the proof that GateNext of stetlaw20 answers true at every input: evaluations by the kernel. Conditions: none. -/
import Derived.Test.YtepommncifphoaaGreatDoorWalk
set_option linter.unusedVariables false
set_option linter.unusedSimpArgs false
set_option linter.unusedSectionVars false
namespace Go.Ax
set_option maxRecDepth 1000000
set_option maxHeartbeats 4000000
theorem w7_0 : (says 28 false && (says 29 false)) = true := by unfold says; kernel_rfl
theorem v28f : says 28 false = true := (Bool.and_eq_true_iff.1 w7_0).1
theorem v29f : says 29 false = true := (Bool.and_eq_true_iff.1 w7_0).2
theorem w7_1 : (says 30 false && (says 31 false)) = true := by unfold says; kernel_rfl
theorem v30f : says 30 false = true := (Bool.and_eq_true_iff.1 w7_1).1
theorem v31f : says 31 false = true := (Bool.and_eq_true_iff.1 w7_1).2
end Go.Ax
