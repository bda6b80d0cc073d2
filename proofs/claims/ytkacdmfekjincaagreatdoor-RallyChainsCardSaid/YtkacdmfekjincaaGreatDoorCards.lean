/-
  DERIVED. GIVEN WITH THE SEED: THE CARDS: each row of YtkacdmfekjincaaGreatDoorRows.lean that lists a variable, with what it lists TIED to the program's text (the seventh form; the later family's looks); each row that meets fmt, with fmt's text TOLD by the authors' own Lean function (tested against real Go, not proved from fmt's source: count such statements apart). THE CARD IS WHAT COUNTS. Prove the row's statement (the work); the ties are given (YtkacdmfekjincaaGreatDoorTie.lean); close each card by the builder's one call (the guide's Derived/Test/ToyasCard.lean, 'card_holds'). Laid BY PROGRAM, IN A SANDBOX (cutbox-door.mjs). By AI agents, Wed Nov 11 2026. No macro, syntax, notation, axiom, sorry.
-/
import Derived.Test.YtkacdmfekjincaaGreatDoorRows
import GoSem.ClaimSeven
namespace Go.Proofs.YtkacdmfekjincaaGreatDoor
namespace Rows

/-- THE TIED CARD OF 'hairpinlaw10.RallyChains'. -/
def rallyChainsCard : Claim7 := { stood := { row := rallyChainsRow, standIns := [], harness := (true, "30b9684ee9cf2f4bc30fe64fa7678ae1cbb76fc56fef8b70524dc6bab4798508"), looks := true }, kinds := [], alts := [], laidByText := true, laidKinds := [.data, .data, .data, .data, .sentinel, .sentinel, .pinned], laidTests := true, laidLooks := .later }
def RallyChainsCardSaid : Prop := Claim7.holds Tryz.pinned (.plain (OpenSpec.ofChange rallyChainsSpec)) rallyChainsCard

/-- THE TIED CARD OF 'hairpinlaw10.RallyNil'. -/
def rallyNilCard : Claim7 := { stood := { row := rallyNilRow, standIns := [], harness := (true, "30b9684ee9cf2f4bc30fe64fa7678ae1cbb76fc56fef8b70524dc6bab4798508"), looks := true }, kinds := [], alts := [], laidByText := true, laidKinds := [.data, .data, .data, .data, .sentinel, .sentinel, .pinned], laidTests := true, laidLooks := .later }
def RallyNilCardSaid : Prop := Claim7.holds Tryz.pinned (.plain (OpenSpec.ofChange rallyNilSpec)) rallyNilCard

/-- THE SECOND FORM's CARD OF 'hairpinlaw10.RallyChains'. -/
def rallyChainsUptoCard : Claim7 := { stood := { row := rallyChainsUptoRow, standIns := [], harness := (true, "30b9684ee9cf2f4bc30fe64fa7678ae1cbb76fc56fef8b70524dc6bab4798508"), looks := true }, kinds := [], alts := [], laidByText := true, laidKinds := [.data, .data, .data, .data, .sentinel, .sentinel, .pinned], laidTests := true, laidLooks := .later }
def RallyChainsUptoCardSaid : Prop := Claim7.holds Tryz.pinned (.plain (OpenSpec.upto rallyChainsSpec)) rallyChainsUptoCard

/-- THE SECOND FORM's CARD OF 'hairpinlaw10.RallyNil'. -/
def rallyNilUptoCard : Claim7 := { stood := { row := rallyNilUptoRow, standIns := [], harness := (true, "30b9684ee9cf2f4bc30fe64fa7678ae1cbb76fc56fef8b70524dc6bab4798508"), looks := true }, kinds := [], alts := [], laidByText := true, laidKinds := [.data, .data, .data, .data, .sentinel, .sentinel, .pinned], laidTests := true, laidLooks := .later }
def RallyNilUptoCardSaid : Prop := Claim7.holds Tryz.pinned (.plain (OpenSpec.upto rallyNilSpec)) rallyNilUptoCard
end Rows
end Go.Proofs.YtkacdmfekjincaaGreatDoor
