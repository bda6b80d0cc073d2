/-
  The closed facts of the row RallyChains, joined.
-/
import Derived.Test.YtkacdmfekjincaaGreatDoorChF
namespace Go.Proofs.YtkacdmfekjincaaGreatDoor
open Go
set_option maxRecDepth 100000
theorem joinedC : joinedFacts Tryz.prog 3 Tryz.f3 Rows.rallyChainsSpec Rows.rallyChainsRow = true := by
  unfold joinedFacts
  exact btC (btC (btC (btC (btC (btC (btC (btC (btC (btC (btC (btC (btC (btC (btC (btC (btC (btC (btC (btC (btC (btC (btC (btC (btC (btC (btC (btC (btC (btC (btC jc1 jc2) jc3) jc4) jc5) jc6) jc7) jc8) jc9) jc10) jc11) jc12) jc13) jc14) jc15) jc16) jc17) jc18) jc19) jc20) jc21) jc22) jc23) jc24) jc25) jc26) jc27) jc28) jc29) jc30) jc31) jc32
end Go.Proofs.YtkacdmfekjincaaGreatDoor
