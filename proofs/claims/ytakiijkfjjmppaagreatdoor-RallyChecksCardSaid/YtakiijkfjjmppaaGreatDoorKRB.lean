/-
  A world that the row RallyChecks fits stands: its input and its listed variables fit.
-/
import Derived.Test.YtakiijkfjjmppaaGreatDoorKRA
import Derived.Test.YtakiijkfjjmppaaGreatDoorRows
import Derived.Lay
import Derived.Lib.LaidTab
import Derived.Lib.LaidU8
import Derived.LaidLaws
import Derived.LaidHandle
import Derived.MakeChecks
import Derived.ProofKit
import Derived.OpenShut
import Derived.Stop.Joined
set_option linter.unusedVariables false
set_option linter.unusedSimpArgs false
namespace Go.Proofs.YtakiijkfjjmppaaGreatDoor
open Go Go.ChangeMaps Go.ChangeShapes Go.WideShapes Go.ChangeAt Go.RowKit Go.Lib
theorem yD : (Rows.rallyChecksRow.laid.all fun x => x.2.handleName?.isNone) = true := by kernel_rfl
set_option maxRecDepth 100000 in
theorem witK_ok (os : Os) : Input.okWideB Tryz.prog ((witK os).forCall (fun _ _ => 0) ⟨#[], nN, []⟩) 4 ⟨#[], nN, []⟩ = true := by kernel_rfl
set_option maxRecDepth 100000 in
theorem bJ2 (os : Os) (H : Type) (enc : TypeId × Value → H) : Rows.rallyChecksSpec.preB enc Tryz.prog Tryz.f4 [] false ((witK os).forCall (fun _ _ => 0) ⟨#[], nN, []⟩).memory nN 8 = true := by kernel_rfl
set_option maxRecDepth 100000 in
theorem aS5 (os : Os) (H : Type) (enc : TypeId × Value → H) : Rows.rallyChecksSpec.sizedB enc Tryz.prog Tryz.f4 false ((witK os).forCall (fun _ _ => 0) ⟨#[], nN, []⟩).memory nN 8 = true := by kernel_rfl
set_option maxRecDepth 100000 in
theorem bA1 (os : Os) : laidMetH Tryz.prog Rows.rallyChecksRow.laid ((witK os).forCall (fun _ _ => 0) ⟨#[], nN, []⟩).memory := by
  rw [MakeChecks.laidMetH_plain _ _ _ yD]; exact laidMet_laidAll _ (by kernel_rfl) (by kernel_rfl)
end Go.Proofs.YtakiijkfjjmppaaGreatDoor
