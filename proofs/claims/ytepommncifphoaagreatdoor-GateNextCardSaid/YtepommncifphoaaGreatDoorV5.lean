/- A part of the proof that GateNext of stetlaw20 answers true at every input: evaluations by the kernel. Conditions: none. -/
import Derived.Test.YtepommncifphoaaGreatDoorWalk
set_option linter.unusedVariables false
set_option linter.unusedSimpArgs false
set_option linter.unusedSectionVars false
namespace Go.Ax
set_option maxRecDepth 1000000
set_option maxHeartbeats 4000000
theorem w5_0 : (says 20 false && (says 21 false)) = true := by unfold says; kernel_rfl
theorem v20f : says 20 false = true := (Bool.and_eq_true_iff.1 w5_0).1
theorem v21f : says 21 false = true := (Bool.and_eq_true_iff.1 w5_0).2
theorem w5_1 : (says 22 false && (says 23 false)) = true := by unfold says; kernel_rfl
theorem v22f : says 22 false = true := (Bool.and_eq_true_iff.1 w5_1).1
theorem v23f : says 23 false = true := (Bool.and_eq_true_iff.1 w5_1).2
end Go.Ax
