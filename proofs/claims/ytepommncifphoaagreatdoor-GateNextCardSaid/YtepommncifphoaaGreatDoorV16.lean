/- A part of the proof that GateNext of stetlaw20 answers true at every input: evaluations by the kernel. Conditions: none. -/
import Derived.Test.YtepommncifphoaaGreatDoorWalk
set_option linter.unusedVariables false
set_option linter.unusedSimpArgs false
set_option linter.unusedSectionVars false
namespace Go.Ax
set_option maxRecDepth 1000000
set_option maxHeartbeats 4000000
theorem w16_0 : (says 24 true && (says 25 true)) = true := by unfold says; kernel_rfl
theorem v24t : says 24 true = true := (Bool.and_eq_true_iff.1 w16_0).1
theorem v25t : says 25 true = true := (Bool.and_eq_true_iff.1 w16_0).2
theorem w16_1 : (says 26 true && (says 27 true)) = true := by unfold says; kernel_rfl
theorem v26t : says 26 true = true := (Bool.and_eq_true_iff.1 w16_1).1
theorem v27t : says 27 true = true := (Bool.and_eq_true_iff.1 w16_1).2
end Go.Ax
