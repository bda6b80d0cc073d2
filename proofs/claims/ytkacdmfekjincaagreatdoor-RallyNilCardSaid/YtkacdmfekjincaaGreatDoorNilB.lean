/-
  A world that the row RallyNil fits stands: its input and its listed variables fit.
-/
import Derived.Test.YtkacdmfekjincaaGreatDoorNilA
import Derived.Test.YtkacdmfekjincaaGreatDoorRows
import Derived.Lay
import Derived.Lib.LaidTab
import Derived.Lib.LaidU8
import Derived.LaidLaws
import Derived.LaidHandle
import Derived.MakeChecks
import Derived.ProofKit
import Derived.OpenShut
import Derived.Stop.Joined
namespace Go.Proofs.YtkacdmfekjincaaGreatDoor
open Go Go.ChangeMaps Go.ChangeShapes Go.WideShapes Go.ChangeAt Go.RowKit Go.Lib
theorem plainLaid : (Rows.rallyNilRow.laid.all fun x => x.2.handleName?.isNone) = true := by kernel_rfl
set_option maxRecDepth 100000 in
theorem witN_ok (os : Os) : Input.okWideB Tryz.prog ((witN os).forCall (fun _ _ => 0) ⟨#[], wargsN, []⟩) 4 ⟨#[], wargsN, []⟩ = true := by kernel_rfl
set_option maxRecDepth 100000 in
theorem witN_pre (os : Os) (H : Type) (enc : TypeId × Value → H) : Rows.rallyNilSpec.preB enc Tryz.prog Tryz.f4 [] false ((witN os).forCall (fun _ _ => 0) ⟨#[], wargsN, []⟩).memory wargsN 8 = true := by kernel_rfl
set_option maxRecDepth 100000 in
theorem witN_sized (os : Os) (H : Type) (enc : TypeId × Value → H) : Rows.rallyNilSpec.sizedB enc Tryz.prog Tryz.f4 false ((witN os).forCall (fun _ _ => 0) ⟨#[], wargsN, []⟩).memory wargsN 8 = true := by kernel_rfl
set_option maxRecDepth 100000 in
theorem witN_laid (os : Os) : laidMetH Tryz.prog Rows.rallyNilRow.laid ((witN os).forCall (fun _ _ => 0) ⟨#[], wargsN, []⟩).memory := by
  rw [MakeChecks.laidMetH_plain _ _ _ plainLaid]; exact laidMet_laidAll _ (by kernel_rfl) (by kernel_rfl)
end Go.Proofs.YtkacdmfekjincaaGreatDoor
