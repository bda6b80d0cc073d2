/-
  The closed facts of the card RallyChains.
-/
import Derived.Test.YtkacdmfekjincaaGreatDoorChC
import Derived.Test.YtkacdmfekjincaaGreatDoorTie
import Derived.Test.YtkacdmfekjincaaGreatDoorCards
import Derived.SevenTiedAt
namespace Go.Proofs.YtkacdmfekjincaaGreatDoor
open Go
theorem chA : Rows.rallyChainsRow.wfByText (OpenSpec.ofChange Rows.rallyChainsSpec) = true := by kernel_rfl
theorem chB : Tryz.pinned.checked.prog.mainIs = some (true, "30b9684ee9cf2f4bc30fe64fa7678ae1cbb76fc56fef8b70524dc6bab4798508".toList) := by kernel_rfl
theorem chC : true = Tryz.pinned.checked.prog.looks [] := by kernel_rfl
theorem chD : false = Rows.rallyChainsRow.goesBy Tryz.pinned.checked.prog := by kernel_rfl
theorem chE : Tryz.prog.funcNamed "hairpin/hairpinlaw10.RallyChains" = some 3 := by kernel_rfl
theorem chF9 : ([22, 23, 23].all fun u => !Tryz.prog.wantsStandIn u) = true := by kernel_rfl
end Go.Proofs.YtkacdmfekjincaaGreatDoor
