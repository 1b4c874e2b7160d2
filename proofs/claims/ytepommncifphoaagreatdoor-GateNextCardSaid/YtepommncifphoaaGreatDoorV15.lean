/- A part of the proof that GateNext of stetlaw20 answers true at every input: evaluations by the kernel. Conditions: none. -/
import Derived.Test.YtepommncifphoaaGreatDoorWalk
set_option linter.unusedVariables false
set_option linter.unusedSimpArgs false
set_option linter.unusedSectionVars false
namespace Go.Ax
set_option maxRecDepth 1000000
set_option maxHeartbeats 4000000
theorem w15_0 : (says 20 true && (says 21 true)) = true := by unfold says; kernel_rfl
theorem v20t : says 20 true = true := (Bool.and_eq_true_iff.1 w15_0).1
theorem v21t : says 21 true = true := (Bool.and_eq_true_iff.1 w15_0).2
theorem w15_1 : (says 22 true && (says 23 true)) = true := by unfold says; kernel_rfl
theorem v22t : says 22 true = true := (Bool.and_eq_true_iff.1 w15_1).1
theorem v23t : says 23 true = true := (Bool.and_eq_true_iff.1 w15_1).2
end Go.Ax
