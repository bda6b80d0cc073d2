/-
  The closed facts of the row RallyNil, one by one.
-/
import Derived.Test.YtkacdmfekjincaaGreatDoorWL
import Derived.Test.YtkacdmfekjincaaGreatDoorRows
import Derived.JoinedOf
namespace Go.Proofs.YtkacdmfekjincaaGreatDoor
open Go
theorem bt {a b : Bool} (h : a = true) (k : b = true) : (a && b) = true := by rw [h, k]; rfl
theorem jn1 : Rows.rallyNilRow.wf (OpenSpec.ofChange Rows.rallyNilSpec) = true := by kernel_rfl
theorem jn2 : laidOutB Tryz.prog = true := by kernel_rfl
theorem jn3 : mapsRowed Tryz.prog = true := by kernel_rfl
theorem jn4 : Tryz.f4.params.all (Tryz.prog.readableRec ·) = true := by kernel_rfl
theorem jn5 : namedTie Tryz.prog Rows.rallyNilRow.named Rows.rallyNilSpec.vars = true := by kernel_rfl
theorem jn6 : (Rows.rallyNilRow.stops == []) = true := by kernel_rfl
theorem jn7 : (Tryz.prog.stops == []) = true := by kernel_rfl
theorem jn8 : (Rows.rallyNilRow.knobs == []) = true := by kernel_rfl
theorem jn9 : (Tryz.prog.stopKnobs == []) = true := by kernel_rfl
theorem jn10 : (Rows.rallyNilRow.inPlace == Tryz.prog.inPlace 4) = true := by kernel_rfl
theorem jn11 : (Rows.rallyNilRow.unfollowed == Tryz.prog.unfollowed 4) = true := by kernel_rfl
theorem jn12 : (Rows.rallyNilRow.recurses == Tryz.prog.recurses 4) = true := by kernel_rfl
theorem jn13 : (Rows.rallyNilRow.named == Tryz.prog.varsNamed 4) = true := by kernel_rfl
theorem jn14 : (Rows.rallyNilRow.maps == (Tryz.f4.params.toList ++ Rows.rallyNilSpec.plain.varTypes Tryz.prog).any (Tryz.prog.mapsRec ·)) = true := by kernel_rfl
theorem jn15 : (Rows.rallyNilRow.ifaces == (Tryz.f4.params.toList ++ Rows.rallyNilSpec.plain.varTypes Tryz.prog).any (Tryz.prog.ifacesRec ·)) = true := by kernel_rfl
theorem jn16 : (Rows.rallyNilRow.mapsOut == Tryz.prog.mapsAmong Tryz.f4.resultTypes.toList) = true := by kernel_rfl
theorem jn17 : (Rows.rallyNilRow.loops == (Tryz.f4.params.toList ++ Rows.rallyNilSpec.plain.varTypes Tryz.prog).any (Tryz.prog.loopsFrom ·)) = true := by kernel_rfl
theorem jn18 : (Rows.rallyNilRow.wideKeys == (Tryz.f4.params.toList ++ Rows.rallyNilSpec.plain.varTypes Tryz.prog ++ Tryz.f4.resultTypes.toList).any (Tryz.prog.wideKeysFrom ·)) = true := by kernel_rfl
theorem jn19 : Rows.rallyNilSpec.vars.all (Tryz.prog.varReadable ·) = true := by kernel_rfl
theorem jn20 : Tryz.f4.resultTypes.all (fun t => Tryz.prog.readableRec t && decide (t < Tryz.prog.types.size)) = true := by kernel_rfl
theorem jn21 : (Rows.rallyNilRow.ifacesOut == Tryz.f4.resultTypes.toList.any (Tryz.prog.ifacesRec ·)) = true := by kernel_rfl
theorem jn22 : (Rows.rallyNilRow.loopsOut == Tryz.f4.resultTypes.toList.any (Tryz.prog.loopsFrom ·)) = true := by kernel_rfl
theorem jn23 : (Rows.rallyNilRow.plainKeys == Tryz.prog.plainKeys) = true := by kernel_rfl
theorem jn24 : Rows.rallyNilRow.shortTexts.isNone = true := by kernel_rfl
theorem jn25 : Tryz.prog.stopsHeard = true := by kernel_rfl
theorem jn26 : Tryz.prog.mayEnter = true := by kernel_rfl
theorem jn27 : (Rows.rallyNilRow.lifted == Tryz.prog.liftsFinal) = true := by kernel_rfl
theorem jn28 : (Tryz.prog.make == some Rows.rallyNilRow.make) = true := by kernel_rfl
theorem jn29 : (Rows.rallyNilRow.kinds == (if Rows.rallyNilRow.domain.isEmpty then [] else Tryz.f4.params.toList.map fun t => match Tryz.prog.underlying t with | some (.int k) => some k | _ => none)) = true := by kernel_rfl
theorem jn30 : (Rows.rallyNilRow.pinned == Rows.rallyNilRow.pinnedBy) = true := by kernel_rfl
theorem jn31 : (Rows.rallyNilRow.veiled == (Tryz.f4.params.toList ++ Rows.rallyNilSpec.plain.varTypes Tryz.prog ++ Tryz.f4.resultTypes.toList).any (Tryz.prog.veiledRec ·)) = true := by kernel_rfl
theorem jn32 : Rows.rallyNilRow.veiledFits Tryz.prog Tryz.f4.params.toList (Tryz.f4.params.toList ++ Rows.rallyNilSpec.plain.varTypes Tryz.prog ++ Tryz.f4.resultTypes.toList) = true := by kernel_rfl
end Go.Proofs.YtkacdmfekjincaaGreatDoor
