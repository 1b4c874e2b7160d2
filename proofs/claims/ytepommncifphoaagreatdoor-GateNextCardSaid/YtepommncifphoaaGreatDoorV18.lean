/- A part of the proof that GateNext of stetlaw20 answers true at every input: evaluations by the kernel. Conditions: none. -/
import Derived.Test.YtepommncifphoaaGreatDoorWalk
set_option linter.unusedVariables false
set_option linter.unusedSimpArgs false
set_option linter.unusedSectionVars false
namespace Go.Ax
set_option maxRecDepth 1000000
set_option maxHeartbeats 4000000
theorem w18_0 : (says 32 true && (says 33 true)) = true := by unfold says; kernel_rfl
theorem v32t : says 32 true = true := (Bool.and_eq_true_iff.1 w18_0).1
theorem v33t : says 33 true = true := (Bool.and_eq_true_iff.1 w18_0).2
theorem w18_1 : (says 34 true && (says 35 true)) = true := by unfold says; kernel_rfl
theorem v34t : says 34 true = true := (Bool.and_eq_true_iff.1 w18_1).1
theorem v35t : says 35 true = true := (Bool.and_eq_true_iff.1 w18_1).2
end Go.Ax
