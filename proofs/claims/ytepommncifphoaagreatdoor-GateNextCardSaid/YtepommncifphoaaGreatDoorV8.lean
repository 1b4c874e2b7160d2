/- A part of the proof that GateNext of stetlaw20 answers true at every input: evaluations by the kernel. Conditions: none. -/
import Derived.Test.YtepommncifphoaaGreatDoorWalk
set_option linter.unusedVariables false
set_option linter.unusedSimpArgs false
set_option linter.unusedSectionVars false
namespace Go.Ax
set_option maxRecDepth 1000000
set_option maxHeartbeats 4000000
theorem w8_0 : (says 32 false && (says 33 false)) = true := by unfold says; kernel_rfl
theorem v32f : says 32 false = true := (Bool.and_eq_true_iff.1 w8_0).1
theorem v33f : says 33 false = true := (Bool.and_eq_true_iff.1 w8_0).2
theorem w8_1 : (says 34 false && (says 35 false)) = true := by unfold says; kernel_rfl
theorem v34f : says 34 false = true := (Bool.and_eq_true_iff.1 w8_1).1
theorem v35f : says 35 false = true := (Bool.and_eq_true_iff.1 w8_1).2
end Go.Ax
