/- A part of the proof that GateNext of stetlaw20 answers true at every input: evaluations by the kernel. Conditions: none. -/
import Derived.Test.YtepommncifphoaaGreatDoorWalk
set_option linter.unusedVariables false
set_option linter.unusedSimpArgs false
set_option linter.unusedSectionVars false
namespace Go.Ax
set_option maxRecDepth 1000000
set_option maxHeartbeats 4000000
theorem w1_0 : (says 4 false && (says 5 false)) = true := by unfold says; kernel_rfl
theorem v4f : says 4 false = true := (Bool.and_eq_true_iff.1 w1_0).1
theorem v5f : says 5 false = true := (Bool.and_eq_true_iff.1 w1_0).2
theorem w1_1 : (says 6 false && (says 7 false)) = true := by unfold says; kernel_rfl
theorem v6f : says 6 false = true := (Bool.and_eq_true_iff.1 w1_1).1
theorem v7f : says 7 false = true := (Bool.and_eq_true_iff.1 w1_1).2
end Go.Ax
