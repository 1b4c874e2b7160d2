/- A part of the proof that GateNext of stetlaw20 answers true at every input: evaluations by the kernel. Conditions: none. -/
import Derived.Test.YtepommncifphoaaGreatDoorWalk
set_option linter.unusedVariables false
set_option linter.unusedSimpArgs false
set_option linter.unusedSectionVars false
namespace Go.Ax
set_option maxRecDepth 1000000
set_option maxHeartbeats 4000000
theorem w17_0 : (says 28 true && (says 29 true)) = true := by unfold says; kernel_rfl
theorem v28t : says 28 true = true := (Bool.and_eq_true_iff.1 w17_0).1
theorem v29t : says 29 true = true := (Bool.and_eq_true_iff.1 w17_0).2
theorem w17_1 : (says 30 true && (says 31 true)) = true := by unfold says; kernel_rfl
theorem v30t : says 30 true = true := (Bool.and_eq_true_iff.1 w17_1).1
theorem v31t : says 31 true = true := (Bool.and_eq_true_iff.1 w17_1).2
end Go.Ax
