/- A part of the proof that GateNext of stetlaw20 answers true at every input: evaluations by the kernel. Conditions: none. -/
import Derived.Test.YtepommncifphoaaGreatDoorWalk
set_option linter.unusedVariables false
set_option linter.unusedSimpArgs false
set_option linter.unusedSectionVars false
namespace Go.Ax
set_option maxRecDepth 1000000
set_option maxHeartbeats 4000000
theorem w3_0 : (says 12 false && (says 13 false)) = true := by unfold says; kernel_rfl
theorem v12f : says 12 false = true := (Bool.and_eq_true_iff.1 w3_0).1
theorem v13f : says 13 false = true := (Bool.and_eq_true_iff.1 w3_0).2
theorem w3_1 : (says 14 false && (says 15 false)) = true := by unfold says; kernel_rfl
theorem v14f : says 14 false = true := (Bool.and_eq_true_iff.1 w3_1).1
theorem v15f : says 15 false = true := (Bool.and_eq_true_iff.1 w3_1).2
end Go.Ax
