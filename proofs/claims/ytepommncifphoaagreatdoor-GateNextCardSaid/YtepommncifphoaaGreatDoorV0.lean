/- A part of the proof that GateNext of stetlaw20 answers true at every input: evaluations by the kernel. Conditions: none. -/
import Derived.Test.YtepommncifphoaaGreatDoorWalk
set_option linter.unusedVariables false
set_option linter.unusedSimpArgs false
set_option linter.unusedSectionVars false
namespace Go.Ax
set_option maxRecDepth 1000000
set_option maxHeartbeats 4000000
theorem w0_0 : (says 0 false && (says 1 false)) = true := by unfold says; kernel_rfl
theorem v0f : says 0 false = true := (Bool.and_eq_true_iff.1 w0_0).1
theorem v1f : says 1 false = true := (Bool.and_eq_true_iff.1 w0_0).2
theorem w0_1 : (says 2 false && (says 3 false)) = true := by unfold says; kernel_rfl
theorem v2f : says 2 false = true := (Bool.and_eq_true_iff.1 w0_1).1
theorem v3f : says 3 false = true := (Bool.and_eq_true_iff.1 w0_1).2
end Go.Ax
