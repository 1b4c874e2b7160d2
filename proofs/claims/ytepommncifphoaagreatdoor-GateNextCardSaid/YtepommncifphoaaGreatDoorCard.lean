/- GateNext of stetlaw20 answers true at every rule number and both words: the tied card of its row. Conditions: the cells of the row (ten package variables start as listed); nothing else. -/
import Derived.Test.YtepommncifphoaaGreatDoorV0
import Derived.Test.YtepommncifphoaaGreatDoorV1
import Derived.Test.YtepommncifphoaaGreatDoorV2
import Derived.Test.YtepommncifphoaaGreatDoorV3
import Derived.Test.YtepommncifphoaaGreatDoorV4
import Derived.Test.YtepommncifphoaaGreatDoorV5
import Derived.Test.YtepommncifphoaaGreatDoorV6
import Derived.Test.YtepommncifphoaaGreatDoorV7
import Derived.Test.YtepommncifphoaaGreatDoorV8
import Derived.Test.YtepommncifphoaaGreatDoorV9
import Derived.Test.YtepommncifphoaaGreatDoorV10
import Derived.Test.YtepommncifphoaaGreatDoorV11
import Derived.Test.YtepommncifphoaaGreatDoorV12
import Derived.Test.YtepommncifphoaaGreatDoorV13
import Derived.Test.YtepommncifphoaaGreatDoorV14
import Derived.Test.YtepommncifphoaaGreatDoorV15
import Derived.Test.YtepommncifphoaaGreatDoorV16
import Derived.Test.YtepommncifphoaaGreatDoorV17
import Derived.Test.YtepommncifphoaaGreatDoorV18
import Derived.Test.YtepommncifphoaaGreatDoorV19
import Derived.Test.YtepommncifphoaaGreatDoorGate
import Derived.Test.YtepommncifphoaaGreatDoorCards
import Derived.Test.YtepommncifphoaaGreatDoorTie
import Derived.SevenTiedAt
set_option linter.unusedVariables false
set_option linter.unusedSimpArgs false
set_option linter.unusedSectionVars false
namespace Go.Ax
theorem low40 (b : Bool) : ∀ n : Nat, n < 40 → says (Int.ofNat n) b = true := by
  intro n h
  cases b
  · rcases n with _ | _ | _ | _ | _ | _ | _ | _ | _ | _ | _ | _ | _ | _ | _ | _ | _ | _ | _ | _ | _ | _ | _ | _ | _ | _ | _ | _ | _ | _ | _ | _ | _ | _ | _ | _ | _ | _ | _ | _ | n
    · exact v0f
    · exact v1f
    · exact v2f
    · exact v3f
    · exact v4f
    · exact v5f
    · exact v6f
    · exact v7f
    · exact v8f
    · exact v9f
    · exact v10f
    · exact v11f
    · exact v12f
    · exact v13f
    · exact v14f
    · exact v15f
    · exact v16f
    · exact v17f
    · exact v18f
    · exact v19f
    · exact v20f
    · exact v21f
    · exact v22f
    · exact v23f
    · exact v24f
    · exact v25f
    · exact v26f
    · exact v27f
    · exact v28f
    · exact v29f
    · exact v30f
    · exact v31f
    · exact v32f
    · exact v33f
    · exact v34f
    · exact v35f
    · exact v36f
    · exact v37f
    · exact v38f
    · exact v39f
    · omega
  · rcases n with _ | _ | _ | _ | _ | _ | _ | _ | _ | _ | _ | _ | _ | _ | _ | _ | _ | _ | _ | _ | _ | _ | _ | _ | _ | _ | _ | _ | _ | _ | _ | _ | _ | _ | _ | _ | _ | _ | _ | _ | n
    · exact v0t
    · exact v1t
    · exact v2t
    · exact v3t
    · exact v4t
    · exact v5t
    · exact v6t
    · exact v7t
    · exact v8t
    · exact v9t
    · exact v10t
    · exact v11t
    · exact v12t
    · exact v13t
    · exact v14t
    · exact v15t
    · exact v16t
    · exact v17t
    · exact v18t
    · exact v19t
    · exact v20t
    · exact v21t
    · exact v22t
    · exact v23t
    · exact v24t
    · exact v25t
    · exact v26t
    · exact v27t
    · exact v28t
    · exact v29t
    · exact v30t
    · exact v31t
    · exact v32t
    · exact v33t
    · exact v34t
    · exact v35t
    · exact v36t
    · exact v37t
    · exact v38t
    · exact v39t
    · omega
theorem says_all (r : Int) (b : Bool) : says r b = true := by
  cases r with
  | negSucc m => exact below0 m b
  | ofNat n =>
    by_cases h : n < 40
    · exact low40 b n h
    · obtain ⟨k, rfl⟩ : ∃ k, n = k + 40 := ⟨n - 40, by omega⟩
      exact above40 k b
end Go.Ax
namespace Go.Proofs.YtepommncifphoaaGreatDoor
open Go
set_option maxRecDepth 1000000
theorem card_of (ev : ∀ (r : Int) (b : Bool), Go.Ax.says r b = true) : Rows.GateNextCardSaid :=
  Claim7.holds_tied_plain_at .later [] [.data, .data, .data, .data, .sentinel, .sentinel, .data, .data, .pinned, .pinned] true (true, "499f63dfa8c8b43dfa44b271e437307f5a142e567a367bb875195d4599db9ff5") true
    (over ev) (fun _ h => by cases h) (by kernel_rfl) (fun _ h => by cases h) gateNext_row_tie rfl ⟨rfl, rfl⟩ (by kernel_rfl) rfl
    (fun f fn hf hfn => by
      obtain rfl : f = 3 := Option.some.inj ((show Tryz.prog.funcNamed "stet/stetlaw20.GateNext" = some 3 by kernel_rfl).symm.trans hf) |>.symm
      obtain rfl : fn = Tryz.f3 := (Option.some.inj (Tryz.func3.symm.trans hfn)).symm
      exact ⟨by kernel_rfl, fun j t ht => by
        rw [Tryz.params3] at ht
        have hm : t ∈ [3, 4] := by simpa using Array.mem_of_getElem? ht
        have hall : ([3, 4].all fun u => !Tryz.prog.wantsStandIn u) = true := by kernel_rfl
        exact (show Tryz.prog.wantsStandIn t = false by simpa using List.all_eq_true.1 hall t hm)⟩)
    (by kernel_rfl)
theorem gate_next : Rows.GateNextCardSaid := card_of Go.Ax.says_all
end Go.Proofs.YtepommncifphoaaGreatDoor
