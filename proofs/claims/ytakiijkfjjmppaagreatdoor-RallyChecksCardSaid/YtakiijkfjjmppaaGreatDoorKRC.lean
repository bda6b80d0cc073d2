/-
  RallyChecksSaid is proved: the call returns true and leaves its arguments as they were, where the listed variables hold what the row lists.
-/
import Derived.Test.YtakiijkfjjmppaaGreatDoorKRB
import Derived.Test.YtakiijkfjjmppaaGreatDoorKRG
import Derived.Test.YtakiijkfjjmppaaGreatDoorKRS
import Derived.Test.YtakiijkfjjmppaaGreatDoorRows
import Derived.Lay
import Derived.Lib.LaidTab
import Derived.Lib.LaidU8
import Derived.LaidLaws
import Derived.LaidHandle
import Derived.MakeChecks
import Derived.ProofKit
import Derived.OpenShut
import Derived.Stop.Joined
set_option linter.unusedVariables false
set_option linter.unusedSimpArgs false
namespace Go.Proofs.YtakiijkfjjmppaaGreatDoor
open Go Go.ChangeMaps Go.ChangeShapes Go.WideShapes Go.ChangeAt Go.RowKit Go.Lib
theorem ownK : ownKnob Tryz.prog.godebug = none := by kernel_rfl
def aX8 : List Int := [0, 1, 56, 2, 57, 49, 28, 3, 61, 58, 42, 50, 38, 29, 17, 4, 62, 47, 59, 36, 45, 43, 51, 22, 53, 39, 33, 30, 24, 18, 12, 5, 63, 55, 48, 27, 60, 41, 37, 16, 46, 35, 44, 21, 52, 32, 23, 11, 54, 26, 40, 15, 34, 20, 31, 10, 25, 14, 19, 9, 13, 8, 7, 6]
theorem aJ3 {w : World} (h : laidMetH Tryz.prog Rows.rallyChecksRow.laid w) : Go.Proofs.W.Tab w := by
  rw [MakeChecks.laidMetH_plain _ _ _ yD] at h
  obtain ⟨g, t, cs, fuel, p, hg, hty, hvar, hd⟩ := laidMet.reads h (n := "math/bits.deBruijn64tab") (d := Rows.laid_math_bits_deBruijn64tab) (by simp [Rows.rallyChecksRow])
  obtain rfl := Option.some.inj ((show Tryz.prog.globalNamed "math/bits.deBruijn64tab" = some 7 by kernel_rfl).symm.trans hg)
  obtain rfl := Option.some.inj ((show (Tryz.prog.globals[7]?).map (·.type) = some 401 by kernel_rfl).symm.trans hty)
  have hcs := cells_of_tab (zs := aX8) Tryz.underlying401 Tryz.underlying5 (by kernel_rfl) (by kernel_rfl) hd
  have := World.var?_cell hg hvar 15
  rw [← Array.getElem?_toList, hcs] at this
  show w.cell? ⟨7, 15, none⟩ = some (.int .u8 4)
  simpa [aX8] using this
theorem readK : ([38].all fun t => Tryz.prog.readableRec t && decide (t < Tryz.prog.types.size)) = true := by kernel_rfl
set_option maxRecDepth 100000 in
theorem rC (os : Os) (started : os.Started) (H : Type) (enc : TypeId × Value → H) :
    ReturnsInHanded {} Tryz.checked os 4 .any (fun w args => (Rows.rallyChecksSpec.pre enc Tryz.prog Tryz.f4 [] false w args ∧ laidMetH Tryz.prog Rows.rallyChecksRow.laid w) ∧ sizedMet enc Tryz.prog Tryz.f4 (OpenSpec.ofChange Rows.rallyChecksSpec) false w args)
      (Rows.rallyChecksSpec.post enc Tryz.prog Tryz.f4 false true false false) := by
  refine returnsInHanded_of_change_and (C := Tryz.checked) (X := fun w _ => laidMetH Tryz.prog Rows.rallyChecksRow.laid w) (fun _ _ _ hh h => h.of_heap hh) ownK started (by kernel_rfl) Tryz.func4
    (ChangeSpec.witness_shaped (enc := enc) (C := Tryz.checked) (os := os) (X := fun w _ => laidMetH Tryz.prog Rows.rallyChecksRow.laid w) false (witK os) nN 8 (World.laidAll_os _ _ _)
      (aL6 os) (witK_ok os) (bJ2 os H enc) (aS5 os H enc) (bA1 os)) ?_
  intro W base args ds gs before hval0 hW _ hwt0 hL _
  have hval : ∀ (j : Nat) t v, Tryz.f4.params[j]? = some t → args[j]? = some v → Value.okWide Tryz.prog W .any base t v := hval0
  have hW' := hW
  have hlt := hW.lt
  obtain ⟨p, q, hA0, hV, rfl, _, _⟩ := hW
  have hA : DataW.TrodAll enc Tryz.prog W 0 (fun _ => true) true Tryz.f4.params.toList args.toList ds p := hA0
  have hwt : (DataW.weightsEach Tryz.prog (Tryz.f4.params.toList ++ []) (ds ++ gs)).all (· ≤ reachBytes) = true := hwt0
  rw [Tryz.params4] at hA hval hwt
  have hA9 := hA
  obtain ⟨rfl, rfl⟩ := trodVars_none hV
  obtain ⟨v0, vs0, d0, ds0, p0, q0, eq0, rfl, rfl, h0, hA10⟩ := trodAll_cons hA
  obtain ⟨rfl, rfl, rfl⟩ := trodAll_nil hA10
  obtain rfl : args = #[v0] := by
      apply Array.toList_inj.1
      rw [eq0]
  simp only [List.append_nil, DataW.weightsEach, List.all_append, Bool.and_eq_true] at hwt hW' hlt hA9
  have hw0 := hwt
  have g0 := Sl.Rdg.of h0 (hw0)
  obtain ⟨cs0, rfl, _⟩ := WideShapes.okWide_struct Tryz.underlying38 (hval 0 38 v0 rfl rfl)
  obtain ⟨s, a, he0, hin, hwf⟩ := aQ8 _ g0
  obtain rfl : cs0 = (s.cells a).toArray := by rw [← he0]; simp [Value.cells]
  have hT := aJ3 hL
  refine (Go.Proofs.W.rallyChecks_c (w0 := W) (M := []) hT (hin []) hwf W (Sl.Ok.start W)).mono fun e W' ⟨he, hok⟩ => ?_
  subst he
  have kA := Sl.trodAll_below rsLaid hok.below readK hA9 hlt
  exact ⟨_, rfl, _, _, _, [], _, [], hW', trodAll_mk1 (shut_bool Tryz.underlying4 _), kA, rfl, hok.below.frame _, fun h => by cases h⟩
theorem uA : Rows.RallyChecksSaid :=
  OpenClaim.holds_of_wide 4 Tryz.f4 rfl rfl rfl rfl rfl rfl rfl ⟨rfl, rfl, rfl, rfl, rfl⟩ rfl rfl rfl rfl rfl (by kernel_rfl) Tryz.func4 joinedK
    (of_decide_eq_true (by kernel_rfl)) (by unfold Func.isWrapper; first | (rw [if_pos (by decide +kernel)]; kernel_rfl) | (rw [if_neg (by decide +kernel)]; exact ⟨rfl, rfl⟩))
    (fun os started H enc _ => rC os started H enc)
end Go.Proofs.YtakiijkfjjmppaaGreatDoor
