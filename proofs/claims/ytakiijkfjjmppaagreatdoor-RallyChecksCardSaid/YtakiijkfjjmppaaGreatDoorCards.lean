/-
  DERIVED. GIVEN WITH THE SEED: THE CARDS: each row of YtakiijkfjjmppaaGreatDoorRows.lean that lists a variable, with what it lists TIED to the program's text (the seventh form; the later family's looks); each row that meets fmt, with fmt's text TOLD by the authors' own Lean function (tested against real Go, not proved from fmt's source: count such statements apart). THE CARD IS WHAT COUNTS. Prove the row's statement (the work); the ties are given (YtakiijkfjjmppaaGreatDoorTie.lean); close each card by the builder's one call (the guide's Derived/Test/ToyasCard.lean, 'card_holds'). Laid BY PROGRAM, IN A SANDBOX (cutbox-door.mjs). By AI agents, Wed Nov 11 2026. No macro, syntax, notation, axiom, sorry.
-/
import Derived.Test.YtakiijkfjjmppaaGreatDoorRows
import GoSem.ClaimSeven
namespace Go.Proofs.YtakiijkfjjmppaaGreatDoor
namespace Rows

/-- THE TIED CARD OF 'hairpinlaw10.RallyConsole'. -/
def rallyConsoleCard : Claim7 := { stood := { row := rallyConsoleRow, standIns := [], harness := (true, "48cff037cd9ec03bb2f0ad3c6bc3b7b0662e0e03dba38e1e5e24c01786ee1e33"), looks := true }, kinds := [], alts := [], laidByText := true, laidKinds := [.data, .data, .data, .data, .sentinel, .sentinel, .pinned], laidTests := true, laidLooks := .later }
def RallyConsoleCardSaid : Prop := Claim7.holds Tryz.pinned (.plain (OpenSpec.ofChange rallyConsoleSpec)) rallyConsoleCard

/-- THE TIED CARD OF 'hairpinlaw10.RallyChecks'. -/
def rallyChecksCard : Claim7 := { stood := { row := rallyChecksRow, standIns := [], harness := (true, "48cff037cd9ec03bb2f0ad3c6bc3b7b0662e0e03dba38e1e5e24c01786ee1e33"), looks := true }, kinds := [], alts := [], laidByText := true, laidKinds := [.data, .data, .data, .data, .sentinel, .sentinel, .pinned], laidTests := true, laidLooks := .later }
def RallyChecksCardSaid : Prop := Claim7.holds Tryz.pinned (.plain (OpenSpec.ofChange rallyChecksSpec)) rallyChecksCard

/-- THE TIED CARD OF 'hairpinlaw10.RallyDoes'. -/
def rallyDoesCard : Claim7 := { stood := { row := rallyDoesRow, standIns := [], harness := (true, "48cff037cd9ec03bb2f0ad3c6bc3b7b0662e0e03dba38e1e5e24c01786ee1e33"), looks := true }, kinds := [], alts := [], laidByText := true, laidKinds := [.data, .data, .data, .data, .sentinel, .sentinel, .pinned], laidTests := true, laidLooks := .later }
def RallyDoesCardSaid : Prop := Claim7.holds Tryz.pinned (.plain (OpenSpec.ofChange rallyDoesSpec)) rallyDoesCard

/-- THE TIED CARD OF 'hairpinlaw10.RallyStarts'. -/
def rallyStartsCard : Claim7 := { stood := { row := rallyStartsRow, standIns := [], harness := (true, "48cff037cd9ec03bb2f0ad3c6bc3b7b0662e0e03dba38e1e5e24c01786ee1e33"), looks := true }, kinds := [], alts := [], laidByText := true, laidKinds := [.data, .data, .data, .data, .sentinel, .sentinel, .pinned], laidTests := true, laidLooks := .later }
def RallyStartsCardSaid : Prop := Claim7.holds Tryz.pinned (.plain (OpenSpec.ofChange rallyStartsSpec)) rallyStartsCard

/-- THE TIED CARD OF 'hairpinlaw10.RallyHonest'. -/
def rallyHonestCard : Claim7 := { stood := { row := rallyHonestRow, standIns := [], harness := (true, "48cff037cd9ec03bb2f0ad3c6bc3b7b0662e0e03dba38e1e5e24c01786ee1e33"), looks := true }, kinds := [], alts := [], laidByText := true, laidKinds := [.data, .data, .data, .data, .sentinel, .sentinel, .pinned], laidTests := true, laidLooks := .later }
def RallyHonestCardSaid : Prop := Claim7.holds Tryz.pinned (.plain (OpenSpec.ofChange rallyHonestSpec)) rallyHonestCard

/-- THE TIED CARD OF 'hairpinlaw10.RallyTaken'. -/
def rallyTakenCard : Claim7 := { stood := { row := rallyTakenRow, standIns := [], harness := (true, "48cff037cd9ec03bb2f0ad3c6bc3b7b0662e0e03dba38e1e5e24c01786ee1e33"), looks := true }, kinds := [], alts := [], laidByText := true, laidKinds := [.data, .data, .data, .data, .sentinel, .sentinel, .pinned], laidTests := true, laidLooks := .later }
def RallyTakenCardSaid : Prop := Claim7.holds Tryz.pinned (.plain (OpenSpec.ofChange rallyTakenSpec)) rallyTakenCard

/-- THE SECOND FORM's CARD OF 'hairpinlaw10.RallyConsole'. -/
def rallyConsoleUptoCard : Claim7 := { stood := { row := rallyConsoleUptoRow, standIns := [], harness := (true, "48cff037cd9ec03bb2f0ad3c6bc3b7b0662e0e03dba38e1e5e24c01786ee1e33"), looks := true }, kinds := [], alts := [], laidByText := true, laidKinds := [.data, .data, .data, .data, .sentinel, .sentinel, .pinned], laidTests := true, laidLooks := .later }
def RallyConsoleUptoCardSaid : Prop := Claim7.holds Tryz.pinned (.plain (OpenSpec.upto rallyConsoleSpec)) rallyConsoleUptoCard

/-- THE SECOND FORM's CARD OF 'hairpinlaw10.RallyChecks'. -/
def rallyChecksUptoCard : Claim7 := { stood := { row := rallyChecksUptoRow, standIns := [], harness := (true, "48cff037cd9ec03bb2f0ad3c6bc3b7b0662e0e03dba38e1e5e24c01786ee1e33"), looks := true }, kinds := [], alts := [], laidByText := true, laidKinds := [.data, .data, .data, .data, .sentinel, .sentinel, .pinned], laidTests := true, laidLooks := .later }
def RallyChecksUptoCardSaid : Prop := Claim7.holds Tryz.pinned (.plain (OpenSpec.upto rallyChecksSpec)) rallyChecksUptoCard

/-- THE SECOND FORM's CARD OF 'hairpinlaw10.RallyDoes'. -/
def rallyDoesUptoCard : Claim7 := { stood := { row := rallyDoesUptoRow, standIns := [], harness := (true, "48cff037cd9ec03bb2f0ad3c6bc3b7b0662e0e03dba38e1e5e24c01786ee1e33"), looks := true }, kinds := [], alts := [], laidByText := true, laidKinds := [.data, .data, .data, .data, .sentinel, .sentinel, .pinned], laidTests := true, laidLooks := .later }
def RallyDoesUptoCardSaid : Prop := Claim7.holds Tryz.pinned (.plain (OpenSpec.upto rallyDoesSpec)) rallyDoesUptoCard

/-- THE SECOND FORM's CARD OF 'hairpinlaw10.RallyStarts'. -/
def rallyStartsUptoCard : Claim7 := { stood := { row := rallyStartsUptoRow, standIns := [], harness := (true, "48cff037cd9ec03bb2f0ad3c6bc3b7b0662e0e03dba38e1e5e24c01786ee1e33"), looks := true }, kinds := [], alts := [], laidByText := true, laidKinds := [.data, .data, .data, .data, .sentinel, .sentinel, .pinned], laidTests := true, laidLooks := .later }
def RallyStartsUptoCardSaid : Prop := Claim7.holds Tryz.pinned (.plain (OpenSpec.upto rallyStartsSpec)) rallyStartsUptoCard

/-- THE SECOND FORM's CARD OF 'hairpinlaw10.RallyHonest'. -/
def rallyHonestUptoCard : Claim7 := { stood := { row := rallyHonestUptoRow, standIns := [], harness := (true, "48cff037cd9ec03bb2f0ad3c6bc3b7b0662e0e03dba38e1e5e24c01786ee1e33"), looks := true }, kinds := [], alts := [], laidByText := true, laidKinds := [.data, .data, .data, .data, .sentinel, .sentinel, .pinned], laidTests := true, laidLooks := .later }
def RallyHonestUptoCardSaid : Prop := Claim7.holds Tryz.pinned (.plain (OpenSpec.upto rallyHonestSpec)) rallyHonestUptoCard

/-- THE SECOND FORM's CARD OF 'hairpinlaw10.RallyTaken'. -/
def rallyTakenUptoCard : Claim7 := { stood := { row := rallyTakenUptoRow, standIns := [], harness := (true, "48cff037cd9ec03bb2f0ad3c6bc3b7b0662e0e03dba38e1e5e24c01786ee1e33"), looks := true }, kinds := [], alts := [], laidByText := true, laidKinds := [.data, .data, .data, .data, .sentinel, .sentinel, .pinned], laidTests := true, laidLooks := .later }
def RallyTakenUptoCardSaid : Prop := Claim7.holds Tryz.pinned (.plain (OpenSpec.upto rallyTakenSpec)) rallyTakenUptoCard
end Rows
end Go.Proofs.YtakiijkfjjmppaaGreatDoor
