/- A part of the proof that GateNext of stetlaw20 answers true at every input: evaluations by the kernel. Conditions: none. -/
import Derived.Test.YtepommncifphoaaGreatDoorWalk
set_option linter.unusedVariables false
set_option linter.unusedSimpArgs false
set_option linter.unusedSectionVars false
namespace Go.Ax
set_option maxRecDepth 1000000
set_option maxHeartbeats 4000000
theorem w11_0 : (says 4 true && (says 5 true)) = true := by unfold says; kernel_rfl
theorem v4t : says 4 true = true := (Bool.and_eq_true_iff.1 w11_0).1
theorem v5t : says 5 true = true := (Bool.and_eq_true_iff.1 w11_0).2
theorem w11_1 : (says 6 true && (says 7 true)) = true := by unfold says; kernel_rfl
theorem v6t : says 6 true = true := (Bool.and_eq_true_iff.1 w11_1).1
theorem v7t : says 7 true = true := (Bool.and_eq_true_iff.1 w11_1).2
end Go.Ax
