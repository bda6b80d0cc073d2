/-
  The closed facts of the row RallyChecks, one by one.
-/
import Derived.Test.YtakiijkfjjmppaaGreatDoorKWM
import Derived.Test.YtakiijkfjjmppaaGreatDoorRows
import Derived.JoinedOf
namespace Go.Proofs.YtakiijkfjjmppaaGreatDoor
open Go
theorem qH {a b : Bool} (h : a = true) (k : b = true) : (a && b) = true := by rw [h, k]; rfl
theorem jK1 : Rows.rallyChecksRow.wf (OpenSpec.ofChange Rows.rallyChecksSpec) = true := by kernel_rfl
theorem jK2 : laidOutB Tryz.prog = true := by kernel_rfl
theorem jK3 : mapsRowed Tryz.prog = true := by kernel_rfl
theorem jK4 : Tryz.f4.params.all (Tryz.prog.readableRec ·) = true := by kernel_rfl
theorem jK5 : namedTie Tryz.prog Rows.rallyChecksRow.named Rows.rallyChecksSpec.vars = true := by kernel_rfl
theorem jK6 : (Rows.rallyChecksRow.stops == []) = true := by kernel_rfl
theorem jK7 : (Tryz.prog.stops == []) = true := by kernel_rfl
theorem jK8 : (Rows.rallyChecksRow.knobs == []) = true := by kernel_rfl
theorem jK9 : (Tryz.prog.stopKnobs == []) = true := by kernel_rfl
theorem jK10 : (Rows.rallyChecksRow.inPlace == Tryz.prog.inPlace 4) = true := by kernel_rfl
theorem jK11 : (Rows.rallyChecksRow.unfollowed == Tryz.prog.unfollowed 4) = true := by kernel_rfl
theorem jK12 : (Rows.rallyChecksRow.recurses == Tryz.prog.recurses 4) = true := by kernel_rfl
theorem jK13 : (Rows.rallyChecksRow.named == Tryz.prog.varsNamed 4) = true := by kernel_rfl
theorem jK14 : (Rows.rallyChecksRow.maps == (Tryz.f4.params.toList ++ Rows.rallyChecksSpec.plain.varTypes Tryz.prog).any (Tryz.prog.mapsRec ·)) = true := by kernel_rfl
theorem jK15 : (Rows.rallyChecksRow.ifaces == (Tryz.f4.params.toList ++ Rows.rallyChecksSpec.plain.varTypes Tryz.prog).any (Tryz.prog.ifacesRec ·)) = true := by kernel_rfl
theorem jK16 : (Rows.rallyChecksRow.mapsOut == Tryz.prog.mapsAmong Tryz.f4.resultTypes.toList) = true := by kernel_rfl
theorem jK17 : (Rows.rallyChecksRow.loops == (Tryz.f4.params.toList ++ Rows.rallyChecksSpec.plain.varTypes Tryz.prog).any (Tryz.prog.loopsFrom ·)) = true := by kernel_rfl
theorem jK18 : (Rows.rallyChecksRow.wideKeys == (Tryz.f4.params.toList ++ Rows.rallyChecksSpec.plain.varTypes Tryz.prog ++ Tryz.f4.resultTypes.toList).any (Tryz.prog.wideKeysFrom ·)) = true := by kernel_rfl
theorem jK19 : Rows.rallyChecksSpec.vars.all (Tryz.prog.varReadable ·) = true := by kernel_rfl
theorem jK20 : Tryz.f4.resultTypes.all (fun t => Tryz.prog.readableRec t && decide (t < Tryz.prog.types.size)) = true := by kernel_rfl
theorem jK21 : (Rows.rallyChecksRow.ifacesOut == Tryz.f4.resultTypes.toList.any (Tryz.prog.ifacesRec ·)) = true := by kernel_rfl
theorem jK22 : (Rows.rallyChecksRow.loopsOut == Tryz.f4.resultTypes.toList.any (Tryz.prog.loopsFrom ·)) = true := by kernel_rfl
theorem jK23 : (Rows.rallyChecksRow.plainKeys == Tryz.prog.plainKeys) = true := by kernel_rfl
theorem jK24 : Rows.rallyChecksRow.shortTexts.isNone = true := by kernel_rfl
theorem jK25 : Tryz.prog.stopsHeard = true := by kernel_rfl
theorem jK26 : Tryz.prog.mayEnter = true := by kernel_rfl
theorem jK27 : (Rows.rallyChecksRow.lifted == Tryz.prog.liftsFinal) = true := by kernel_rfl
theorem jK28 : (Tryz.prog.make == some Rows.rallyChecksRow.make) = true := by kernel_rfl
theorem jK29 : (Rows.rallyChecksRow.kinds == (if Rows.rallyChecksRow.domain.isEmpty then [] else Tryz.f4.params.toList.map fun t => match Tryz.prog.underlying t with | some (.int k) => some k | _ => none)) = true := by kernel_rfl
theorem jK30 : (Rows.rallyChecksRow.pinned == Rows.rallyChecksRow.pinnedBy) = true := by kernel_rfl
theorem jK31 : (Rows.rallyChecksRow.veiled == (Tryz.f4.params.toList ++ Rows.rallyChecksSpec.plain.varTypes Tryz.prog ++ Tryz.f4.resultTypes.toList).any (Tryz.prog.veiledRec ·)) = true := by kernel_rfl
theorem jK32 : Rows.rallyChecksRow.veiledFits Tryz.prog Tryz.f4.params.toList (Tryz.f4.params.toList ++ Rows.rallyChecksSpec.plain.varTypes Tryz.prog ++ Tryz.f4.resultTypes.toList) = true := by kernel_rfl
end Go.Proofs.YtakiijkfjjmppaaGreatDoor
