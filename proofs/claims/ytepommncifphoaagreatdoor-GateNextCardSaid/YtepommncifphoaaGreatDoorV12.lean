/- A part of the proof that GateNext of stetlaw20 answers true at every input: evaluations by the kernel. Conditions: none. -/
import Derived.Test.YtepommncifphoaaGreatDoorWalk
set_option linter.unusedVariables false
set_option linter.unusedSimpArgs false
set_option linter.unusedSectionVars false
namespace Go.Ax
set_option maxRecDepth 1000000
set_option maxHeartbeats 4000000
theorem w12_0 : (says 8 true && (says 9 true)) = true := by unfold says; kernel_rfl
theorem v8t : says 8 true = true := (Bool.and_eq_true_iff.1 w12_0).1
theorem v9t : says 9 true = true := (Bool.and_eq_true_iff.1 w12_0).2
theorem w12_1 : (says 10 true && (says 11 true)) = true := by unfold says; kernel_rfl
theorem v10t : says 10 true = true := (Bool.and_eq_true_iff.1 w12_1).1
theorem v11t : says 11 true = true := (Bool.and_eq_true_iff.1 w12_1).2
end Go.Ax
