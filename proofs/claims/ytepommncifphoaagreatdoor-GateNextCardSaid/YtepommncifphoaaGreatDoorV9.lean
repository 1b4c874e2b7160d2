/- A part of the proof that GateNext of stetlaw20 answers true at every input: evaluations by the kernel. Conditions: none. -/
import Derived.Test.YtepommncifphoaaGreatDoorWalk
set_option linter.unusedVariables false
set_option linter.unusedSimpArgs false
set_option linter.unusedSectionVars false
namespace Go.Ax
set_option maxRecDepth 1000000
set_option maxHeartbeats 4000000
theorem w9_0 : (says 36 false && (says 37 false)) = true := by unfold says; kernel_rfl
theorem v36f : says 36 false = true := (Bool.and_eq_true_iff.1 w9_0).1
theorem v37f : says 37 false = true := (Bool.and_eq_true_iff.1 w9_0).2
theorem w9_1 : (says 38 false && (says 39 false)) = true := by unfold says; kernel_rfl
theorem v38f : says 38 false = true := (Bool.and_eq_true_iff.1 w9_1).1
theorem v39f : says 39 false = true := (Bool.and_eq_true_iff.1 w9_1).2
end Go.Ax
