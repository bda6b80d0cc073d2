/-
  The closed facts of the row RallyNil, joined.
-/
import Derived.Test.YtkacdmfekjincaaGreatDoorNilF
namespace Go.Proofs.YtkacdmfekjincaaGreatDoor
open Go
set_option maxRecDepth 100000
theorem joinedN : joinedFacts Tryz.prog 4 Tryz.f4 Rows.rallyNilSpec Rows.rallyNilRow = true := by
  unfold joinedFacts
  exact bt (bt (bt (bt (bt (bt (bt (bt (bt (bt (bt (bt (bt (bt (bt (bt (bt (bt (bt (bt (bt (bt (bt (bt (bt (bt (bt (bt (bt (bt (bt jn1 jn2) jn3) jn4) jn5) jn6) jn7) jn8) jn9) jn10) jn11) jn12) jn13) jn14) jn15) jn16) jn17) jn18) jn19) jn20) jn21) jn22) jn23) jn24) jn25) jn26) jn27) jn28) jn29) jn30) jn31) jn32
end Go.Proofs.YtkacdmfekjincaaGreatDoor
