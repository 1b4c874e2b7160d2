/- A part of the proof that GateNext of stetlaw20 answers true at every input: evaluations by the kernel. Conditions: none. -/
import Derived.Test.YtepommncifphoaaGreatDoorWalk
set_option linter.unusedVariables false
set_option linter.unusedSimpArgs false
set_option linter.unusedSectionVars false
namespace Go.Ax
set_option maxRecDepth 1000000
set_option maxHeartbeats 4000000
theorem w6_0 : (says 24 false && (says 25 false)) = true := by unfold says; kernel_rfl
theorem v24f : says 24 false = true := (Bool.and_eq_true_iff.1 w6_0).1
theorem v25f : says 25 false = true := (Bool.and_eq_true_iff.1 w6_0).2
theorem w6_1 : (says 26 false && (says 27 false)) = true := by unfold says; kernel_rfl
theorem v26f : says 26 false = true := (Bool.and_eq_true_iff.1 w6_1).1
theorem v27f : says 27 false = true := (Bool.and_eq_true_iff.1 w6_1).2
end Go.Ax
