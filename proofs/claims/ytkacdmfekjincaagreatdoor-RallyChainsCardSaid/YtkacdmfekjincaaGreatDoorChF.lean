/-
  The closed facts of the row RallyChains, one by one.
-/
import Derived.Test.YtkacdmfekjincaaGreatDoorWM
import Derived.Test.YtkacdmfekjincaaGreatDoorRows
import Derived.JoinedOf
namespace Go.Proofs.YtkacdmfekjincaaGreatDoor
open Go
theorem btC {a b : Bool} (h : a = true) (k : b = true) : (a && b) = true := by rw [h, k]; rfl
theorem jc1 : Rows.rallyChainsRow.wf (OpenSpec.ofChange Rows.rallyChainsSpec) = true := by kernel_rfl
theorem jc2 : laidOutB Tryz.prog = true := by kernel_rfl
theorem jc3 : mapsRowed Tryz.prog = true := by kernel_rfl
theorem jc4 : Tryz.f3.params.all (Tryz.prog.readableRec ·) = true := by kernel_rfl
theorem jc5 : namedTie Tryz.prog Rows.rallyChainsRow.named Rows.rallyChainsSpec.vars = true := by kernel_rfl
theorem jc6 : (Rows.rallyChainsRow.stops == []) = true := by kernel_rfl
theorem jc7 : (Tryz.prog.stops == []) = true := by kernel_rfl
theorem jc8 : (Rows.rallyChainsRow.knobs == []) = true := by kernel_rfl
theorem jc9 : (Tryz.prog.stopKnobs == []) = true := by kernel_rfl
theorem jc10 : (Rows.rallyChainsRow.inPlace == Tryz.prog.inPlace 3) = true := by kernel_rfl
theorem jc11 : (Rows.rallyChainsRow.unfollowed == Tryz.prog.unfollowed 3) = true := by kernel_rfl
theorem jc12 : (Rows.rallyChainsRow.recurses == Tryz.prog.recurses 3) = true := by kernel_rfl
theorem jc13 : (Rows.rallyChainsRow.named == Tryz.prog.varsNamed 3) = true := by kernel_rfl
theorem jc14 : (Rows.rallyChainsRow.maps == (Tryz.f3.params.toList ++ Rows.rallyChainsSpec.plain.varTypes Tryz.prog).any (Tryz.prog.mapsRec ·)) = true := by kernel_rfl
theorem jc15 : (Rows.rallyChainsRow.ifaces == (Tryz.f3.params.toList ++ Rows.rallyChainsSpec.plain.varTypes Tryz.prog).any (Tryz.prog.ifacesRec ·)) = true := by kernel_rfl
theorem jc16 : (Rows.rallyChainsRow.mapsOut == Tryz.prog.mapsAmong Tryz.f3.resultTypes.toList) = true := by kernel_rfl
theorem jc17 : (Rows.rallyChainsRow.loops == (Tryz.f3.params.toList ++ Rows.rallyChainsSpec.plain.varTypes Tryz.prog).any (Tryz.prog.loopsFrom ·)) = true := by kernel_rfl
theorem jc18 : (Rows.rallyChainsRow.wideKeys == (Tryz.f3.params.toList ++ Rows.rallyChainsSpec.plain.varTypes Tryz.prog ++ Tryz.f3.resultTypes.toList).any (Tryz.prog.wideKeysFrom ·)) = true := by kernel_rfl
theorem jc19 : Rows.rallyChainsSpec.vars.all (Tryz.prog.varReadable ·) = true := by kernel_rfl
theorem jc20 : Tryz.f3.resultTypes.all (fun t => Tryz.prog.readableRec t && decide (t < Tryz.prog.types.size)) = true := by kernel_rfl
theorem jc21 : (Rows.rallyChainsRow.ifacesOut == Tryz.f3.resultTypes.toList.any (Tryz.prog.ifacesRec ·)) = true := by kernel_rfl
theorem jc22 : (Rows.rallyChainsRow.loopsOut == Tryz.f3.resultTypes.toList.any (Tryz.prog.loopsFrom ·)) = true := by kernel_rfl
theorem jc23 : (Rows.rallyChainsRow.plainKeys == Tryz.prog.plainKeys) = true := by kernel_rfl
theorem jc24 : Rows.rallyChainsRow.shortTexts.isNone = true := by kernel_rfl
theorem jc25 : Tryz.prog.stopsHeard = true := by kernel_rfl
theorem jc26 : Tryz.prog.mayEnter = true := by kernel_rfl
theorem jc27 : (Rows.rallyChainsRow.lifted == Tryz.prog.liftsFinal) = true := by kernel_rfl
theorem jc28 : (Tryz.prog.make == some Rows.rallyChainsRow.make) = true := by kernel_rfl
theorem jc29 : (Rows.rallyChainsRow.kinds == (if Rows.rallyChainsRow.domain.isEmpty then [] else Tryz.f3.params.toList.map fun t => match Tryz.prog.underlying t with | some (.int k) => some k | _ => none)) = true := by kernel_rfl
theorem jc30 : (Rows.rallyChainsRow.pinned == Rows.rallyChainsRow.pinnedBy) = true := by kernel_rfl
theorem jc31 : (Rows.rallyChainsRow.veiled == (Tryz.f3.params.toList ++ Rows.rallyChainsSpec.plain.varTypes Tryz.prog ++ Tryz.f3.resultTypes.toList).any (Tryz.prog.veiledRec ·)) = true := by kernel_rfl
theorem jc32 : Rows.rallyChainsRow.veiledFits Tryz.prog Tryz.f3.params.toList (Tryz.f3.params.toList ++ Rows.rallyChainsSpec.plain.varTypes Tryz.prog ++ Tryz.f3.resultTypes.toList) = true := by kernel_rfl
end Go.Proofs.YtkacdmfekjincaaGreatDoor
