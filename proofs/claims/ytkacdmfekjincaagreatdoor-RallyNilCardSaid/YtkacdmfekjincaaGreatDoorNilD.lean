/-
  The closed facts of the card RallyNil.
-/
import Derived.Test.YtkacdmfekjincaaGreatDoorNilC
import Derived.Test.YtkacdmfekjincaaGreatDoorTie
import Derived.Test.YtkacdmfekjincaaGreatDoorCards
import Derived.SevenTiedAt
namespace Go.Proofs.YtkacdmfekjincaaGreatDoor
open Go
theorem nilA : Rows.rallyNilRow.wfByText (OpenSpec.ofChange Rows.rallyNilSpec) = true := by kernel_rfl
theorem nilB : Tryz.pinned.checked.prog.mainIs = some (true, "30b9684ee9cf2f4bc30fe64fa7678ae1cbb76fc56fef8b70524dc6bab4798508".toList) := by kernel_rfl
theorem nilC : true = Tryz.pinned.checked.prog.looks [] := by kernel_rfl
theorem nilD : false = Rows.rallyNilRow.goesBy Tryz.pinned.checked.prog := by kernel_rfl
theorem nilE : Tryz.prog.funcNamed "hairpin/hairpinlaw10.RallyNil" = some 4 := by kernel_rfl
theorem nilF : ([9, 3, 3].all fun u => !Tryz.prog.wantsStandIn u) = true := by kernel_rfl
end Go.Proofs.YtkacdmfekjincaaGreatDoor
