/-
  RallyChainsSaid is proved: the call returns true and leaves its arguments as they were, where the listed variables hold what the row lists.
-/
import Derived.Test.YtkacdmfekjincaaGreatDoorChB
import Derived.Test.YtkacdmfekjincaaGreatDoorChG
import Derived.Test.YtkacdmfekjincaaGreatDoorRows
import Derived.Test.YtkacdmfekjincaaGreatDoorSlC
import Derived.Carry
import Derived.Lay
import Derived.Lib.LaidTab
import Derived.Lib.LaidU8
import Derived.LaidLaws
import Derived.LaidHandle
import Derived.MakeChecks
import Derived.ProofKit
import Derived.OpenShut
import Derived.Stop.Joined
namespace Go.Proofs.YtkacdmfekjincaaGreatDoor
open Go Go.ChangeMaps Go.ChangeShapes Go.WideShapes Go.ChangeAt Go.RowKit Go.Lib
theorem ownC : ownKnob Tryz.prog.godebug = none := by kernel_rfl
def bruijnC : List Int := [0, 1, 56, 2, 57, 49, 28, 3, 61, 58, 42, 50, 38, 29, 17, 4, 62, 47, 59, 36, 45, 43, 51, 22, 53, 39, 33, 30, 24, 18, 12, 5, 63, 55, 48, 27, 60, 41, 37, 16, 46, 35, 44, 21, 52, 32, 23, 11, 54, 26, 40, 15, 34, 20, 31, 10, 25, 14, 19, 9, 13, 8, 7, 6]
theorem tab_of_laidC {w : World} (h : laidMetH Tryz.prog Rows.rallyChainsRow.laid w) : Go.Proofs.W.Tab w := by
  rw [MakeChecks.laidMetH_plain _ _ _ plainLaidC] at h
  obtain ⟨g, t, cs, fuel, p, hg, hty, hvar, hd⟩ := laidMet.reads h (n := "math/bits.deBruijn64tab") (d := Rows.laid_math_bits_deBruijn64tab) (by simp [Rows.rallyChainsRow])
  obtain rfl := Option.some.inj ((show Tryz.prog.globalNamed "math/bits.deBruijn64tab" = some 7 by kernel_rfl).symm.trans hg)
  obtain rfl := Option.some.inj ((show (Tryz.prog.globals[7]?).map (·.type) = some 405 by kernel_rfl).symm.trans hty)
  have hcs := cells_of_tab (zs := bruijnC) Tryz.underlying405 Tryz.underlying5 (by kernel_rfl) (by kernel_rfl) hd
  have := World.var?_cell hg hvar 15
  rw [← Array.getElem?_toList, hcs] at this
  show w.cell? ⟨7, 15, none⟩ = some (.int .u8 4)
  simpa [bruijnC] using this
theorem cellC9 : Tryz.prog.cellsOf 9 = 1 := by kernel_rfl
theorem cellC27 : Tryz.prog.cellsOf 27 = 2 := by kernel_rfl
theorem byteC9 : 0 < Tryz.prog.bytesOf 9 := by
  have : Tryz.prog.bytesOf 9 = 16 := by kernel_rfl
  omega
theorem byteC27 : 0 < Tryz.prog.bytesOf 27 := by
  have : Tryz.prog.bytesOf 27 = 32 := by kernel_rfl
  omega
theorem str_elem {H : Type} {enc : TypeId × Value → H} {w : World} {sp : Nat → Bool} {held : Bool} (fuel : Nat) (cs : List Value) (y : DataW H × List MemPlace) (h : DataW.trod enc Tryz.prog w 0 sp held fuel 9 cs = some y) : ∃ s : ByteArray, cs = [.string s] := by
  obtain ⟨s, e, _⟩ := DataW.trod_string Tryz.underlying9 h
  exact ⟨s, e⟩
theorem entry_elem {H : Type} {enc : TypeId × Value → H} {w : World} {sp : Nat → Bool} {held : Bool} (fuel : Nat) (cs : List Value) (y : DataW H × List MemPlace) (h : DataW.trod enc Tryz.prog w 0 sp held fuel 27 cs = some y) : ∃ e : ByteArray × ByteArray, cs = [.string e.1, .string e.2] := by
  obtain ⟨xs, n, _, _, hl, hx, hall⟩ := DataW.trod_struct Tryz.underlying27 h
  rw [cellC27] at hl
  have hx2 : xs.length = 2 := hx
  obtain ⟨c0, c1, rfl⟩ : ∃ a b, cs = [a, b] := by
    rcases cs with _ | ⟨a, _ | ⟨b, _ | ⟨c, r⟩⟩⟩
    · exact absurd hl (by simp)
    · exact absurd hl (by simp)
    · exact ⟨a, b, rfl⟩
    · exact absurd hl (by simp)
  have h0 := hall 0 _ rfl
  have h1 := hall 1 _ rfl
  rw [List.getElem?_eq_getElem (by omega)] at h0 h1
  obtain ⟨s, e0, _⟩ := DataW.trod_string Tryz.underlying9 h0
  obtain ⟨t, e1, _⟩ := DataW.trod_string Tryz.underlying9 h1
  have e0' : (([c0, c1] : List Value).drop 0).take (Tryz.prog.cellsOf 9) = [.string s] := e0
  have e1' : (([c0, c1] : List Value).drop 1).take (Tryz.prog.cellsOf 9) = [.string t] := e1
  rw [cellC9] at e0' e1'
  simp at e0' e1'
  exact ⟨(s, t), by rw [e0', e1']⟩
theorem laidOutC : laidOutB Tryz.prog = true := by kernel_rfl
theorem readC22 : Tryz.prog.readableRec 22 = true := by kernel_rfl
theorem readC23 : Tryz.prog.readableRec 23 = true := by kernel_rfl
theorem sizeC : Tryz.prog.types.size = 430 := by kernel_rfl
set_option maxRecDepth 100000 in
theorem rallyChains_lifted (os : Os) (started : os.Started) (H : Type) (enc : TypeId × Value → H) :
    ReturnsInHanded {} Tryz.checked os 3 .any (fun w args => (Rows.rallyChainsSpec.pre enc Tryz.prog Tryz.f3 [] false w args ∧ laidMetH Tryz.prog Rows.rallyChainsRow.laid w) ∧ sizedMet enc Tryz.prog Tryz.f3 (OpenSpec.ofChange Rows.rallyChainsSpec) false w args)
      (Rows.rallyChainsSpec.post enc Tryz.prog Tryz.f3 false true false false) := by
  refine returnsInHanded_of_change_and (C := Tryz.checked) (X := fun w _ => laidMetH Tryz.prog Rows.rallyChainsRow.laid w) (fun _ _ _ hh h => h.of_heap hh) ownC started (by kernel_rfl) Tryz.func3
    (ChangeSpec.witness_shaped (enc := enc) (C := Tryz.checked) (os := os) (X := fun w _ => laidMetH Tryz.prog Rows.rallyChainsRow.laid w) false (witC os) wargsC 8 (World.laidAll_os _ _ _)
      (witC_shaped os) (witC_ok os) (witC_pre os H enc) (witC_sized os H enc) (witC_laid os)) ?_
  intro W base args ds gs before hval0 hW _ hwt0 hL _
  have hval : ∀ (j : Nat) t v, Tryz.f3.params[j]? = some t → args[j]? = some v → Value.okWide Tryz.prog W .any base t v := hval0
  have hW' := hW
  have hlt := hW.lt
  obtain ⟨p, q, hA0, hV, rfl, _, _⟩ := hW
  have hA : DataW.TrodAll enc Tryz.prog W 0 (fun _ => true) true Tryz.f3.params.toList args.toList ds p := hA0
  have hwt : (DataW.weightsEach Tryz.prog (Tryz.f3.params.toList ++ []) (ds ++ gs)).all (· ≤ reachBytes) = true := hwt0
  rw [Tryz.params3] at hA hval hwt
  obtain ⟨v0, v1, v2, d0, d1, d2, p0, p1, p2, rfl, rfl, rfl, h0, h1, h2⟩ := trodAll_three hA
  obtain ⟨rfl, rfl⟩ := trodVars_none hV
  simp only [List.append_nil, DataW.weightsEach, List.all_append, Bool.and_eq_true] at hwt
  obtain ⟨A, nl, cl, ls, rfl, hl⟩ := Sl.sl_elems Go.Proofs.W.encS Tryz.underlying22 cellC9 (by decide) (fun _ => rfl) (fun f cs y h => str_elem f cs y h) (hval 0 22 v0 rfl rfl) h0 byteC9 hwt.1
  obtain ⟨B, na, ca, es, rfl, ha⟩ := Sl.sl_elems Go.Proofs.W.encE Tryz.underlying23 cellC27 (by decide) (fun _ => rfl) (fun f cs y h => entry_elem f cs y h) (hval 1 23 v1 rfl rfl) h1 byteC27 hwt.2.1
  obtain ⟨C, nb, cb, fs, rfl, hb⟩ := Sl.sl_elems Go.Proofs.W.encE Tryz.underlying23 cellC27 (by decide) (fun _ => rfl) (fun f cs y h => entry_elem f cs y h) (hval 2 23 v2 rfl rfl) h2 byteC27 hwt.2.2
  simp only [List.append_nil] at hW' hlt
  have hT := tab_of_laidC hL
  refine (Go.Proofs.W.rallyChains_c (w0 := W) (M := []) (cl := cl) (ca := ca) (cb := cb) hT (hl []) (ha []) (hb []) W (Sl.Ok.start W)).mono fun e W' ⟨he, hok⟩ => ?_
  subst he
  have k0 := Below.trod laidOutC readC22 (by rw [sizeC]; decide) h0 hok.below (fun x hx => hlt x (List.mem_append_left _ (List.mem_append_left _ hx)))
  have k1 := Below.trod laidOutC readC23 (by rw [sizeC]; decide) h1 hok.below (fun x hx => hlt x (List.mem_append_left _ (List.mem_append_right _ hx)))
  have k2 := Below.trod laidOutC readC23 (by rw [sizeC]; decide) h2 hok.below (fun x hx => hlt x (List.mem_append_right _ hx))
  exact ⟨_, rfl, _, _, _, [], _, [], hW', trodAll_mk1 (shut_bool Tryz.underlying4 _), trodAll_mk3 k0 k1 k2, rfl, hok.below.frame _, fun h => by cases h⟩
theorem rallyChains_said : Rows.RallyChainsSaid :=
  OpenClaim.holds_of_wide 3 Tryz.f3 rfl rfl rfl rfl rfl rfl rfl ⟨rfl, rfl, rfl, rfl, rfl⟩ rfl rfl rfl rfl rfl (by kernel_rfl) Tryz.func3 joinedC
    (of_decide_eq_true (by kernel_rfl)) (by unfold Func.isWrapper; first | (rw [if_pos (by decide +kernel)]; kernel_rfl) | (rw [if_neg (by decide +kernel)]; exact ⟨rfl, rfl⟩))
    (fun os started H enc _ => rallyChains_lifted os started H enc)
end Go.Proofs.YtkacdmfekjincaaGreatDoor
