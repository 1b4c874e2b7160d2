/- A part of the proof that GateNext of stetlaw20 answers true at every input: evaluations by the kernel. Conditions: none. -/
import Derived.Test.YtepommncifphoaaGreatDoorWalk
set_option linter.unusedVariables false
set_option linter.unusedSimpArgs false
set_option linter.unusedSectionVars false
namespace Go.Ax
set_option maxRecDepth 1000000
set_option maxHeartbeats 4000000
theorem w19_0 : (says 36 true && (says 37 true)) = true := by unfold says; kernel_rfl
theorem v36t : says 36 true = true := (Bool.and_eq_true_iff.1 w19_0).1
theorem v37t : says 37 true = true := (Bool.and_eq_true_iff.1 w19_0).2
theorem w19_1 : (says 38 true && (says 39 true)) = true := by unfold says; kernel_rfl
theorem v38t : says 38 true = true := (Bool.and_eq_true_iff.1 w19_1).1
theorem v39t : says 39 true = true := (Bool.and_eq_true_iff.1 w19_1).2
end Go.Ax
