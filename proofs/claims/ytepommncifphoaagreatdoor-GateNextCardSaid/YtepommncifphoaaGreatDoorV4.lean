/- A part of the proof that GateNext of stetlaw20 answers true at every input: evaluations by the kernel. Conditions: none. -/
import Derived.Test.YtepommncifphoaaGreatDoorWalk
set_option linter.unusedVariables false
set_option linter.unusedSimpArgs false
set_option linter.unusedSectionVars false
namespace Go.Ax
set_option maxRecDepth 1000000
set_option maxHeartbeats 4000000
theorem w4_0 : (says 16 false && (says 17 false)) = true := by unfold says; kernel_rfl
theorem v16f : says 16 false = true := (Bool.and_eq_true_iff.1 w4_0).1
theorem v17f : says 17 false = true := (Bool.and_eq_true_iff.1 w4_0).2
theorem w4_1 : (says 18 false && (says 19 false)) = true := by unfold says; kernel_rfl
theorem v18f : says 18 false = true := (Bool.and_eq_true_iff.1 w4_1).1
theorem v19f : says 19 false = true := (Bool.and_eq_true_iff.1 w4_1).2
end Go.Ax
