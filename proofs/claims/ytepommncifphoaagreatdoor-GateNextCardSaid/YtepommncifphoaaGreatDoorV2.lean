/- A part of the proof that GateNext of stetlaw20 answers true at every input: evaluations by the kernel. Conditions: none. -/
import Derived.Test.YtepommncifphoaaGreatDoorWalk
set_option linter.unusedVariables false
set_option linter.unusedSimpArgs false
set_option linter.unusedSectionVars false
namespace Go.Ax
set_option maxRecDepth 1000000
set_option maxHeartbeats 4000000
theorem w2_0 : (says 8 false && (says 9 false)) = true := by unfold says; kernel_rfl
theorem v8f : says 8 false = true := (Bool.and_eq_true_iff.1 w2_0).1
theorem v9f : says 9 false = true := (Bool.and_eq_true_iff.1 w2_0).2
theorem w2_1 : (says 10 false && (says 11 false)) = true := by unfold says; kernel_rfl
theorem v10f : says 10 false = true := (Bool.and_eq_true_iff.1 w2_1).1
theorem v11f : says 11 false = true := (Bool.and_eq_true_iff.1 w2_1).2
end Go.Ax
