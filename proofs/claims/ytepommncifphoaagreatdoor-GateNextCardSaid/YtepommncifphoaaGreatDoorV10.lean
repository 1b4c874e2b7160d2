/- A part of the proof that GateNext of stetlaw20 answers true at every input: evaluations by the kernel. Conditions: none. -/
import Derived.Test.YtepommncifphoaaGreatDoorWalk
set_option linter.unusedVariables false
set_option linter.unusedSimpArgs false
set_option linter.unusedSectionVars false
namespace Go.Ax
set_option maxRecDepth 1000000
set_option maxHeartbeats 4000000
theorem w10_0 : (says 0 true && (says 1 true)) = true := by unfold says; kernel_rfl
theorem v0t : says 0 true = true := (Bool.and_eq_true_iff.1 w10_0).1
theorem v1t : says 1 true = true := (Bool.and_eq_true_iff.1 w10_0).2
theorem w10_1 : (says 2 true && (says 3 true)) = true := by unfold says; kernel_rfl
theorem v2t : says 2 true = true := (Bool.and_eq_true_iff.1 w10_1).1
theorem v3t : says 3 true = true := (Bool.and_eq_true_iff.1 w10_1).2
end Go.Ax
