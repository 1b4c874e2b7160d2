/-
  DERIVED. GIVEN WITH THE SEED: THE CARDS: each row of YtepommncifphoaaGreatDoorRows.lean that lists a variable, with what it lists TIED to the program's text (the seventh form; the later family's looks); each row that meets fmt, with fmt's text TOLD by the authors' own Lean function (tested against real Go, not proved from fmt's source: count such statements apart). THE CARD IS WHAT COUNTS. Prove the row's statement (the work); the ties are given (YtepommncifphoaaGreatDoorTie.lean); close each card by the builder's one call (the guide's Derived/Test/ToyasCard.lean, 'card_holds'). Laid BY PROGRAM, IN A SANDBOX (cutbox-door.mjs). By AI agents, Wed Nov 11 2026. No macro, syntax, notation, axiom, sorry.
-/
import Derived.Test.YtepommncifphoaaGreatDoorRows
import GoSem.ClaimSeven
namespace Go.Proofs.YtepommncifphoaaGreatDoor
namespace Rows

/-- THE TIED CARD OF 'stetlaw20.GateNext'. -/
def gateNextCard : Claim7 := { stood := { row := gateNextRow, standIns := [], harness := (true, "499f63dfa8c8b43dfa44b271e437307f5a142e567a367bb875195d4599db9ff5"), looks := true }, kinds := [], alts := [], laidByText := true, laidKinds := [.data, .data, .data, .data, .sentinel, .sentinel, .data, .data, .pinned, .pinned], laidTests := true, laidLooks := .later }
def GateNextCardSaid : Prop := Claim7.holds Tryz.pinned (.plain (OpenSpec.ofChange gateNextSpec)) gateNextCard

/-- THE SECOND FORM's CARD OF 'stetlaw20.GateNext'. -/
def gateNextUptoCard : Claim7 := { stood := { row := gateNextUptoRow, standIns := [], harness := (true, "499f63dfa8c8b43dfa44b271e437307f5a142e567a367bb875195d4599db9ff5"), looks := true }, kinds := [], alts := [], laidByText := true, laidKinds := [.data, .data, .data, .data, .sentinel, .sentinel, .data, .data, .pinned, .pinned], laidTests := true, laidLooks := .later }
def GateNextUptoCardSaid : Prop := Claim7.holds Tryz.pinned (.plain (OpenSpec.upto gateNextSpec)) gateNextUptoCard
end Rows
end Go.Proofs.YtepommncifphoaaGreatDoor
