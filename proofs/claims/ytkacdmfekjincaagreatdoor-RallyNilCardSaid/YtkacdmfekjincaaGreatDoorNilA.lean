/-
  A world that the row RallyNil fits stands: its memory is well formed.
-/
import Derived.Test.YtkacdmfekjincaaGreatDoorWL
import Derived.Test.YtkacdmfekjincaaGreatDoorRows
import Derived.Lay
import Derived.Lib.LaidTab
import Derived.Lib.LaidU8
import Derived.LaidLaws
import Derived.LaidHandle
import Derived.MakeChecks
import Derived.ProofKit
import Derived.OpenShut
import Derived.Stop.Joined
namespace Go.Proofs.YtkacdmfekjincaaGreatDoor
open Go Go.ChangeMaps Go.ChangeShapes Go.WideShapes Go.ChangeAt Go.RowKit Go.Lib
noncomputable abbrev witN (os : Os) : World := World.laidAll Tryz.prog os Rows.rallyNilRow.laid
abbrev wargsN : Array Value := #[.string ⟨#[]⟩, .int .i64 0, .int .i64 0]
set_option maxRecDepth 100000 in
theorem witN_shaped (os : Os) : ((witN os).forCall (fun _ _ => 0) ⟨#[], wargsN, []⟩).Shaped Tryz.prog := World.shaped_of_ZipB (by kernel_rfl) (by kernel_rfl)
end Go.Proofs.YtkacdmfekjincaaGreatDoor
