/- A part of the proof that GateNext of stetlaw20 answers true at every input: evaluations by the kernel. Conditions: none. -/
import Derived.Test.YtepommncifphoaaGreatDoorWalk
set_option linter.unusedVariables false
set_option linter.unusedSimpArgs false
set_option linter.unusedSectionVars false
namespace Go.Ax
set_option maxRecDepth 1000000
set_option maxHeartbeats 4000000
theorem w13_0 : (says 12 true && (says 13 true)) = true := by unfold says; kernel_rfl
theorem v12t : says 12 true = true := (Bool.and_eq_true_iff.1 w13_0).1
theorem v13t : says 13 true = true := (Bool.and_eq_true_iff.1 w13_0).2
theorem w13_1 : (says 14 true && (says 15 true)) = true := by unfold says; kernel_rfl
theorem v14t : says 14 true = true := (Bool.and_eq_true_iff.1 w13_1).1
theorem v15t : says 15 true = true := (Bool.and_eq_true_iff.1 w13_1).2
end Go.Ax
