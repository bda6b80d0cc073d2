/-
  The closed facts of the card RallyChecks.
-/
import Derived.Test.YtakiijkfjjmppaaGreatDoorKRC
import Derived.Test.YtakiijkfjjmppaaGreatDoorTie
import Derived.Test.YtakiijkfjjmppaaGreatDoorCards
import Derived.SevenTiedAt
namespace Go.Proofs.YtakiijkfjjmppaaGreatDoor
open Go
theorem qKA : Rows.rallyChecksRow.wfByText (OpenSpec.ofChange Rows.rallyChecksSpec) = true := by kernel_rfl
theorem qKB : Tryz.pinned.checked.prog.mainIs = some (true, "48cff037cd9ec03bb2f0ad3c6bc3b7b0662e0e03dba38e1e5e24c01786ee1e33".toList) := by kernel_rfl
theorem qKC : true = Tryz.pinned.checked.prog.looks [] := by kernel_rfl
theorem qKD : false = Rows.rallyChecksRow.goesBy Tryz.pinned.checked.prog := by kernel_rfl
theorem qKE : Tryz.prog.funcNamed "hairpin/hairpinlaw10.RallyChecks" = some 4 := by kernel_rfl
theorem qKF : ([38].all fun u => !Tryz.prog.wantsStandIn u) = true := by kernel_rfl
end Go.Proofs.YtakiijkfjjmppaaGreatDoor
