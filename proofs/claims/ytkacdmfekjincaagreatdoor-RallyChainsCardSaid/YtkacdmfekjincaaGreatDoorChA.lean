/-
  A world that the row RallyChains fits stands: its memory is well formed.
-/
import Derived.Test.YtkacdmfekjincaaGreatDoorWM
import Derived.Test.YtkacdmfekjincaaGreatDoorRows
import Derived.Lay
import Derived.Lib.LaidTab
import Derived.Lib.LaidU8
import Derived.LaidLaws
import Derived.LaidHandle
import Derived.MakeChecks
import Derived.ProofKit
import Derived.OpenShut
import Derived.Stop.Joined
namespace Go.Proofs.YtkacdmfekjincaaGreatDoor
open Go Go.ChangeMaps Go.ChangeShapes Go.WideShapes Go.ChangeAt Go.RowKit Go.Lib
noncomputable abbrev witC (os : Os) : World := World.laidAll Tryz.prog os Rows.rallyChainsRow.laid
abbrev wargsC : Array Value := #[.slice none 0 0, .slice none 0 0, .slice none 0 0]
set_option maxRecDepth 100000 in
theorem witC_shaped (os : Os) : ((witC os).forCall (fun _ _ => 0) ⟨#[], wargsC, []⟩).Shaped Tryz.prog := World.shaped_of_ZipB (by kernel_rfl) (by kernel_rfl)
end Go.Proofs.YtkacdmfekjincaaGreatDoor
