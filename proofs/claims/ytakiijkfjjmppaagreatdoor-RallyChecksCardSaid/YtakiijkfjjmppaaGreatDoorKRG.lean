/-
  The closed facts of the row RallyChecks, joined.
-/
import Derived.Test.YtakiijkfjjmppaaGreatDoorKRF
namespace Go.Proofs.YtakiijkfjjmppaaGreatDoor
open Go
set_option maxRecDepth 100000
theorem joinedK : joinedFacts Tryz.prog 4 Tryz.f4 Rows.rallyChecksSpec Rows.rallyChecksRow = true := by
  unfold joinedFacts
  exact qH (qH (qH (qH (qH (qH (qH (qH (qH (qH (qH (qH (qH (qH (qH (qH (qH (qH (qH (qH (qH (qH (qH (qH (qH (qH (qH (qH (qH (qH (qH jK1 jK2) jK3) jK4) jK5) jK6) jK7) jK8) jK9) jK10) jK11) jK12) jK13) jK14) jK15) jK16) jK17) jK18) jK19) jK20) jK21) jK22) jK23) jK24) jK25) jK26) jK27) jK28) jK29) jK30) jK31) jK32
end Go.Proofs.YtakiijkfjjmppaaGreatDoor
