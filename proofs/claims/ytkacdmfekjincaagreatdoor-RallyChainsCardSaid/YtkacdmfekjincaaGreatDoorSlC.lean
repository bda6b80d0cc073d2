/-
  A slice of the arguments can be read: nothing of the program is said here.
-/
import Derived.Test.YtkacdmfekjincaaGreatDoorSlB
import Derived.ChangeArms
import Derived.WideShapes
import GoSem.ClaimJoined
import Derived.Lib.LaidU8
set_option linter.unusedVariables false
set_option linter.unusedSectionVars false
set_option linter.unusedSimpArgs false
namespace Go.Sl
open Go
theorem exists_list {α : Type} {Q : Nat → α → Prop} : ∀ n, (∀ i, i < n → ∃ e, Q i e) → ∃ l : List α, l.length = n ∧ ∀ i e, l[i]? = some e → Q i e
  | 0, _ => ⟨[], rfl, fun i e h => by simp at h⟩
  | n + 1, h => by
    obtain ⟨l, hl, hq⟩ := exists_list n (fun i hi => h i (by omega))
    obtain ⟨e, he⟩ := h n (by omega)
    refine ⟨l ++ [e], by simp [hl], fun i x hx => ?_⟩
    rcases Nat.lt_or_ge i n with hi | hi
    · rw [List.getElem?_append_left (by omega)] at hx; exact hq i x hx
    · rw [List.getElem?_append_right (by omega)] at hx
      obtain rfl : i = n := by
        have := (List.getElem?_eq_some_iff.1 hx).1
        simp at this; omega
      simp [hl] at hx; subst hx; exact he
section
variable {H : Type} {enc : TypeId × Value → H} {P : Program} {w : World} {sp : Nat → Bool} {held : Bool} {r : Reach} {b0 : Nat}
theorem sl_elems {t e : TypeId} {v : Value} {d : DataW H} {ps : List MemPlace} {z : Nat} {α : Type} (en : α → List Value) (ht : P.underlying t = some (.slice e)) (hz : P.cellsOf e = z) (h0 : 0 < z) (hw : ∀ x, (en x).length = z)
    (helem : ∀ (fuel : Nat) (cs : List Value) (y : DataW H × List MemPlace), DataW.trod enc P w 0 sp held fuel e cs = some y → ∃ x, cs = en x)
    (hv : Value.okWide P w r b0 t v) (h : DataW.Trod enc P w 0 sp held t v d ps) (hb : 0 < P.bytesOf e) (hwt : (d.weights P t).all (· ≤ reachBytes) = true) : ∃ A n c, ∃ xs : List α, v = .slice A n c ∧ ∀ M, SlRd w M z A n (xs.map en) := by
  subst hz
  obtain ⟨A, n, c, rfl⟩ := WideShapes.okWide_slice ht hv
  obtain ⟨fuel, hf⟩ := h
  rcases DataW.trod_slice ht hf with ⟨hc, _⟩ | ⟨a, len, cap, elems, rest, m, _, hcs, hd, _, hl, hm, hlen, hel, _⟩
  · simp [Value.cells] at hc
    obtain ⟨rfl, rfl, rfl⟩ := hc
    exact ⟨none, 0, 0, [], rfl, fun M => .nil⟩
  · simp [Value.cells] at hcs
    obtain ⟨rfl, rfl, rfl⟩ := hcs
    have hn2 : n ≤ reachBytes := by
      obtain ⟨rfl, _⟩ := Prod.mk.inj hd
      simp only [DataW.weights, ht, List.all_cons, Bool.and_eq_true, decide_eq_true_eq, List.length_map] at hwt
      exact Nat.le_trans (Nat.le_trans (by omega) (Nat.le_mul_of_pos_right _ hb)) hwt.1
    have key : ∀ i, i < n → ∃ x, ∀ k v, (en x)[k]? = some v → w.cell? ((a.add (i * P.cellsOf e)).add k) = some v := by
      intro i hi
      have h1 := hel i hi
      obtain ⟨y, hy⟩ : ∃ y, elems[i]? = some y := ⟨elems[i]'(by omega), List.getElem?_eq_getElem (by omega)⟩
      rw [hy] at h1
      obtain ⟨cs, hcs, htr⟩ := Option.bind_eq_some_iff.1 h1
      obtain ⟨x, rfl⟩ := helem _ _ _ htr
      obtain ⟨_, hlc, hcell⟩ := World.cells?_some hcs
      exact ⟨x, fun k v hk => by rw [hcell k (by have := (List.getElem?_eq_some_iff.1 hk).1; omega), hk]⟩
    obtain ⟨xs, hxl, hx⟩ := exists_list n key
    refine ⟨_, _, _, xs, rfl, fun M => ⟨by simp [hxl], fun x hx => ?_, Nat.le_trans hn2 (by decide), fun hn => ?_⟩⟩
    · obtain ⟨y, _, rfl⟩ := List.mem_map.1 hx; exact hw y
    · obtain ⟨B, o, s⟩ := a
      obtain ⟨x0, hx0⟩ : ∃ x0, xs[0]? = some x0 := ⟨xs[0]'(by omega), List.getElem?_eq_getElem (by omega)⟩
      obtain ⟨v0, hv0⟩ : ∃ v0, (en x0)[0]? = some v0 := ⟨(en x0)[0]'(by rw [hw]; exact h0), List.getElem?_eq_getElem _⟩
      have h00 := hx 0 x0 hx0 0 v0 hv0
      have e0 : ((⟨B, o, s⟩ : Addr).add (0 * P.cellsOf e)).add 0 = ⟨B, o, s⟩ := by simp [Addr.add]
      rw [e0] at h00
      obtain rfl := Proofs.cell_spot h00
      refine ⟨B, o, rfl, fun j x hj k v hk => rd_old ?_⟩
      rw [List.getElem?_map] at hj
      obtain ⟨y, hy, rfl⟩ := Option.map_eq_some_iff.1 hj
      have := hx j y hy k v hk
      rw [Addr.add_lit, Addr.add_lit] at this
      exact this
end
end Go.Sl
