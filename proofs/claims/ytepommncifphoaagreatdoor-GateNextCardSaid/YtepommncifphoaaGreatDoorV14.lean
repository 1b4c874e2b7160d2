/- A part of the proof that GateNext of stetlaw20 answers true at every input: evaluations by the kernel. Conditions: none. -/
import Derived.Test.YtepommncifphoaaGreatDoorWalk
set_option linter.unusedVariables false
set_option linter.unusedSimpArgs false
set_option linter.unusedSectionVars false
namespace Go.Ax
set_option maxRecDepth 1000000
set_option maxHeartbeats 4000000
theorem w14_0 : (says 16 true && (says 17 true)) = true := by unfold says; kernel_rfl
theorem v16t : says 16 true = true := (Bool.and_eq_true_iff.1 w14_0).1
theorem v17t : says 17 true = true := (Bool.and_eq_true_iff.1 w14_0).2
theorem w14_1 : (says 18 true && (says 19 true)) = true := by unfold says; kernel_rfl
theorem v18t : says 18 true = true := (Bool.and_eq_true_iff.1 w14_1).1
theorem v19t : says 19 true = true := (Bool.and_eq_true_iff.1 w14_1).2
end Go.Ax
