/- A part of the proof that GateNext of stetlaw20 answers true at every input: a closed call of GateNext. Conditions: none. -/
import Derived.Test.YtepommncifphoaaGreatDoorFacts
import Derived.RowKit3
set_option linter.unusedVariables false
set_option linter.unusedSimpArgs false
set_option linter.unusedSectionVars false
namespace Go.Ax
open Go Go.Proofs

/-- Does GateNext answer true at this input? -/
noncomputable def says (r : Int) (b : Bool) : Bool := match (runC ctb ss 10000 10000).call 3 [.int .i64 r, .bool b] A0 with
  | .ok (.bool true) _ => true
  | _ => false

theorem walk_of {r : Int} {b : Bool} (h : says r b = true) {w : World} (hk : Kept 0 w) :
    Calls Tryz.prog 3 #[.int .i64 r, .bool b] w fun e w' => e = .returned (.bool true) ∧ w.keptBut w' (fun _ => False) := by
  unfold says at h
  split at h
  · rename_i A' hc
    refine Calls.mono (closed 10000 hc (vs := #[.int .i64 r, .bool b]) ?_ hk) ?_
    · simp only [VL]
      exact ⟨_, _, rfl, by simp only [V], _, _, rfl, by simp only [V], rfl⟩
    · rintro e w' ⟨E, u, rfl, hV, ho, ht, hp, hs, hsame⟩
      simp only [V] at hV
      subst hV
      refine ⟨rfl, ho, hp, fun i hi => ?_⟩
      rw [hsame i hi]
      cases w.heap[i]? with
      | none => rfl
      | some o => cases o <;> first | exact ⟨rfl, rfl, rfl, fun _ _ => rfl⟩ | exact .inr ⟨rfl, rfl⟩ | rfl
  · cases h

theorem below0 (m : Nat) (b : Bool) : says (.negSucc m) b = true := by unfold says; kernel_rfl
theorem above40 (k : Nat) (b : Bool) : says (.ofNat (k + 40)) b = true := by unfold says; kernel_rfl
end Go.Ax
