/-
  A world that the row RallyChains fits stands: its input and its listed variables fit.
-/
import Derived.Test.YtkacdmfekjincaaGreatDoorChA
import Derived.Test.YtkacdmfekjincaaGreatDoorRows
import Derived.Lay
import Derived.Lib.LaidTab
import Derived.Lib.LaidU8
import Derived.LaidLaws
import Derived.LaidHandle
import Derived.MakeChecks
import Derived.ProofKit
import Derived.OpenShut
import Derived.Stop.Joined
namespace Go.Proofs.YtkacdmfekjincaaGreatDoor
open Go Go.ChangeMaps Go.ChangeShapes Go.WideShapes Go.ChangeAt Go.RowKit Go.Lib
theorem plainLaidC : (Rows.rallyChainsRow.laid.all fun x => x.2.handleName?.isNone) = true := by kernel_rfl
set_option maxRecDepth 100000 in
theorem witC_ok (os : Os) : Input.okWideB Tryz.prog ((witC os).forCall (fun _ _ => 0) ⟨#[], wargsC, []⟩) 3 ⟨#[], wargsC, []⟩ = true := by kernel_rfl
set_option maxRecDepth 100000 in
theorem witC_pre (os : Os) (H : Type) (enc : TypeId × Value → H) : Rows.rallyChainsSpec.preB enc Tryz.prog Tryz.f3 [] false ((witC os).forCall (fun _ _ => 0) ⟨#[], wargsC, []⟩).memory wargsC 8 = true := by kernel_rfl
set_option maxRecDepth 100000 in
theorem witC_sized (os : Os) (H : Type) (enc : TypeId × Value → H) : Rows.rallyChainsSpec.sizedB enc Tryz.prog Tryz.f3 false ((witC os).forCall (fun _ _ => 0) ⟨#[], wargsC, []⟩).memory wargsC 8 = true := by kernel_rfl
set_option maxRecDepth 100000 in
theorem witC_laid (os : Os) : laidMetH Tryz.prog Rows.rallyChainsRow.laid ((witC os).forCall (fun _ _ => 0) ⟨#[], wargsC, []⟩).memory := by
  rw [MakeChecks.laidMetH_plain _ _ _ plainLaidC]; exact laidMet_laidAll _ (by kernel_rfl) (by kernel_rfl)
end Go.Proofs.YtkacdmfekjincaaGreatDoor
