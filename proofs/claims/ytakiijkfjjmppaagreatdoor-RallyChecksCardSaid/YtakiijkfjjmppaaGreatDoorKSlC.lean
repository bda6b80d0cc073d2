/-
 What arguments read as: nothing of the program is said here.
-/
import Derived.Test.YtakiijkfjjmppaaGreatDoorKSlB
import Derived.ChangeArms
import Derived.WideShapes
import GoSem.ClaimJoined
import Derived.Lib.LaidU8
import Derived.Carry
import Derived.OpenShut
set_option linter.unusedVariables false
set_option linter.unusedSectionVars false
set_option linter.unusedSimpArgs false
namespace Go.Sl
open Go
theorem uB {α : Type} {Q : Nat → α → Prop} : ∀ n, (∀ i, i < n → ∃ e, Q i e) → ∃ l : List α, l.length = n ∧ ∀ i e, l[i]? = some e → Q i e
 | 0, _ => ⟨[], rfl, fun i e h => by simp at h⟩
 | n + 1, h => by
  obtain ⟨l, hl, hq⟩ := uB n (fun i hi => h i (by omega))
  obtain ⟨e, he⟩ := h n (by omega)
  refine ⟨l ++ [e], by simp [hl], fun i x hx => ?_⟩
  rcases Nat.lt_or_ge i n with hi | hi
  ·rw [List.getElem?_append_left (by omega)] at hx; exact hq i x hx
  ·rw [List.getElem?_append_right (by omega)] at hx
   obtain rfl : i = n := by
    have := (List.getElem?_eq_some_iff.1 hx).1
    simp at this; omega
   simp [hl] at hx; subst hx; exact he
section
variable {H : Type} {enc : TypeId × Value → H} {P : Program} {w : World} {sp : Nat → Bool} {held : Bool} {r : Reach} {b0 : Nat}
end
end Go.Sl
set_option linter.unusedVariables false
set_option linter.unusedSectionVars false
set_option linter.unusedSimpArgs false
namespace Go.Sl
open Go
section
variable {H : Type} {enc : TypeId × Value → H} {P : Program} {w : World} {sp : Nat → Bool} {held : Bool}
def Rdg (enc : TypeId × Value → H) (P : Program) (w : World) (sp : Nat → Bool) (held : Bool) (T : TypeId) (cs : List Value) : Prop :=
 ∃ fuel y, DataW.trod enc P w 0 sp held fuel T cs = some y ∧ (y.1.weights P T).all (· ≤ reachBytes) = true
theorem bC0 {l : List TypeId} {ds : List (DataW H)} (h : (DataW.weightsEach P l ds).all (· ≤ reachBytes) = true) : ∀ (i : Nat) t d, l[i]? = some t → ds[i]? = some d → (d.weights P t).all (· ≤ reachBytes) = true := by
 induction l generalizing ds with
 | nil => intro i t d h1; simp at h1
 | cons t0 l ih =>
  cases ds with
  | nil => intro i t d h1 h2; simp at h2
  | cons d0 ds =>
   simp only [DataW.weightsEach, List.all_append, Bool.and_eq_true] at h
   intro i t d h1 h2
   cases i with
   | zero => simp at h1 h2; subst h1 h2; exact h.1
   | succ i => exact ih h.2 i t d (by simpa using h1) (by simpa using h2)
theorem bC1 {e : TypeId} {ds : List (DataW H)} (h : (DataW.weightsAll P e ds).all (· ≤ reachBytes) = true) : ∀ d ∈ ds, (d.weights P e).all (· ≤ reachBytes) = true := by
 induction ds with
 | nil => intro d hd; simp at hd
 | cons d0 ds ih =>
  simp only [DataW.weightsAll, List.all_append, Bool.and_eq_true] at h
  intro d hd
  rcases List.mem_cons.1 hd with rfl | hd
  ·exact h.1
  ·exact ih h.2 d hd
theorem Rdg.int {T : TypeId} {cs : List Value} {k : IntKind} (hT : P.underlying T = some (.int k)) (h : Rdg enc P w sp held T cs) : ∃ n, cs = [.int k n] ∧ (Lit.int k n).wf = true := by
 obtain ⟨f, y, hy, _⟩ := h
 obtain ⟨n, h1, _, h3⟩ := DataW.trod_int hT hy
 exact ⟨n, h1, h3⟩
theorem Rdg.bool {T : TypeId} {cs : List Value} (hT : P.underlying T = some .bool) (h : Rdg enc P w sp held T cs) : ∃ b, cs = [.bool b] := by
 obtain ⟨f, y, hy, _⟩ := h
 obtain ⟨n, h1, _⟩ := DataW.trod_bool hT hy
 exact ⟨n, h1⟩
theorem Rdg.str {T : TypeId} {cs : List Value} (hT : P.underlying T = some .string) (h : Rdg enc P w sp held T cs) : ∃ s : ByteArray, cs = [.string s] ∧ s.size ≤ reachBytes := by
 obtain ⟨f, y, hy, hw⟩ := h
 obtain ⟨s, h1, h2, _⟩ := DataW.trod_string hT hy
 subst h2
 simp only [DataW.weights, List.all_cons, List.all_nil, Bool.and_true, decide_eq_true_eq] at hw
 have e : s.data.toList.length = s.size := by rw [Array.length_toList]; rfl
 exact ⟨s, h1, e ▸ hw⟩
theorem Rdg.struct {T : TypeId} {cs : List Value} {fs : Array Field} (hT : P.underlying T = some (.struct fs)) (h : Rdg enc P w sp held T cs) :
  cs.length = P.cellsOf T ∧ ∀ (i : Nat) (f : Field), fs[i]? = some f → Rdg enc P w sp held f.type ((cs.drop f.offset).take (P.cellsOf f.type)) := by
 obtain ⟨g, y, hy, hw⟩ := h
 obtain ⟨xs, n, _, rfl, hl, hn, hall⟩ := DataW.trod_struct hT hy
 refine ⟨hl, fun i f hf => ?_⟩
 have h1 := hall i f hf
 have hi : i < xs.length := by have := (Array.getElem?_eq_some_iff.1 hf).1; omega
 rw [List.getElem?_eq_getElem hi] at h1
 refine ⟨n, _, h1, ?_⟩
 simp only [DataW.weights, hT] at hw
 exact bC0 hw i f.type _ (by simp [hf]) (by simp [hi])
theorem Rdg.slice {t e : TypeId} {cs : List Value} {z : Nat} {α : Type} {Q : α → Prop} (en : α → List Value) (ht : P.underlying t = some (.slice e)) (hz : P.cellsOf e = z) (h0 : 0 < z) (hw : ∀ x, (en x).length = z)
  (helem : ∀ cs, Rdg enc P w sp held e cs → ∃ x, cs = en x ∧ Q x) (h : Rdg enc P w sp held t cs) (hb : 0 < P.bytesOf e) :
  ∃ A c, ∃ xs : List α, cs = [.slice A xs.length c] ∧ (A = none → xs.length = 0 ∧ c = 0) ∧ xs.length ≤ reachBytes ∧ (∀ x ∈ xs, Q x) ∧ ∀ M, SlRd w M z A xs.length (xs.map en) := by
 subst hz
 obtain ⟨fuel, y, hf, hwt⟩ := h
 rcases DataW.trod_slice ht hf with ⟨hc, _⟩ | ⟨a, n, cap, elems, rest, m, _, hcs, hd, _, hl, hm, hlen, hel, _⟩
 ·subst hc
  exact ⟨none, 0, [], rfl, fun _ => ⟨rfl, rfl⟩, Nat.zero_le _, by simp, fun M => .nil⟩
 ·subst hcs
  subst hd
  simp only [DataW.weights, ht, List.all_cons, List.all_append, Bool.and_eq_true, decide_eq_true_eq, List.length_map] at hwt
  have hn2 : n ≤ reachBytes := Nat.le_trans (Nat.le_trans (by omega) (Nat.le_mul_of_pos_right _ hb)) hwt.1
  have key : ∀ i, i < n → ∃ x, Q x ∧ ∀ k v, (en x)[k]? = some v → w.cell? ((a.add (i * P.cellsOf e)).add k) = some v := by
   intro i hi
   have h1 := hel i hi
   obtain ⟨y, hy⟩ : ∃ y, elems[i]? = some y := ⟨elems[i]'(by omega), List.getElem?_eq_getElem (by omega)⟩
   rw [hy] at h1
   obtain ⟨cs, hcs, htr⟩ := Option.bind_eq_some_iff.1 h1
   obtain ⟨x, rfl, hq⟩ := helem cs ⟨_, _, htr, bC1 hwt.2.1 _ (List.mem_map_of_mem (List.mem_of_getElem? hy))⟩
   obtain ⟨_, hlc, hcell⟩ := World.cells?_some hcs
   exact ⟨x, hq, fun k v hk => by rw [hcell k (by have := (List.getElem?_eq_some_iff.1 hk).1; omega), hk]⟩
  obtain ⟨xs, hxl, hx⟩ := uB n key
  subst hxl
  refine ⟨_, cap, xs, rfl, (fun h => by cases h), hn2, fun x hx' => ?_, fun M => ⟨by simp, fun x hx => ?_, Nat.le_trans hn2 (by decide), fun hn => ?_⟩⟩
  ·obtain ⟨i, hi⟩ := List.getElem?_of_mem hx'
   exact (hx i x hi).1
  ·obtain ⟨y, _, rfl⟩ := List.mem_map.1 hx; exact hw y
  ·obtain ⟨B, o, s⟩ := a
   obtain ⟨x0, hx0⟩ : ∃ x0, xs[0]? = some x0 := ⟨xs[0]'(by omega), List.getElem?_eq_getElem (by omega)⟩
   obtain ⟨v0, hv0⟩ : ∃ v0, (en x0)[0]? = some v0 := ⟨(en x0)[0]'(by rw [hw]; exact h0), List.getElem?_eq_getElem _⟩
   have h00 := (hx 0 x0 hx0).2 0 v0 hv0
   have e0 : ((⟨B, o, s⟩ : Addr).add (0 * P.cellsOf e)).add 0 = ⟨B, o, s⟩ := by simp [Addr.add]
   rw [e0] at h00
   obtain rfl := Proofs.cell_spot h00
   refine ⟨B, o, rfl, fun j x hx1 k v hk => bI1 ?_⟩
   rw [List.getElem?_map] at hx1
   obtain ⟨y, hy, rfl⟩ := Option.map_eq_some_iff.1 hx1
   have := (hx j y hy).2 k v hk
   rw [Addr.add_lit, Addr.add_lit] at this
   exact this
theorem Rdg.of {T : TypeId} {v : Value} {d : DataW H} {ps : List MemPlace} (h : DataW.Trod enc P w 0 sp held T v d ps) (hw : (d.weights P T).all (· ≤ reachBytes) = true) : Rdg enc P w sp held T v.cells.toList := by
 obtain ⟨fuel, hf⟩ := h
 exact ⟨fuel, _, hf, hw⟩
end
end Go.Sl
set_option linter.unusedVariables false
set_option linter.unusedSectionVars false
set_option linter.unusedSimpArgs false
namespace Go.Sl
open Go Go.ChangeShapes Go.RowKit
theorem at_cut {cs : List Value} {o n j : Nat} {v : Value} (h : ((cs.drop o).take n)[j]? = some v) : cs[o + j]? = some v := by
 rw [List.getElem?_take] at h
 split at h
 ·rwa [List.getElem?_drop] at h
 ·cases h
theorem at_one {cs : List Value} {n : Nat} {v : Value} (h : cs = [v]) : cs[0]? = some v := by rw [h]; rfl
theorem trodAll_below {H : Type} {enc : TypeId × Value → H} {P : Program} (hl : laidOutB P = true) {W W' : World} (hb : Below W.heap.size W W') :
  ∀ {ts : List TypeId} {vs : List Value} {ds : List (DataW H)} {ps : List MemPlace}, (ts.all fun t => P.readableRec t && decide (t < P.types.size)) = true → DataW.TrodAll enc P W 0 (fun _ => true) true ts vs ds ps → (∀ x ∈ ps, x.block < W.heap.size) →
   DataW.TrodAll enc P W' 0 (fun b => decide (b < W.heap.size)) true ts vs ds ps
 | [], vs, ds, ps, _, h, _ => by
  obtain ⟨rfl, rfl, rfl⟩ := trodAll_nil h
  rfl
 | t :: ts, vs, ds, ps, hr, h, hlt => by
  obtain ⟨v, vs', d, ds', p, q, rfl, rfl, rfl, h1, h2⟩ := trodAll_cons h
  simp only [List.all_cons, Bool.and_eq_true, decide_eq_true_eq] at hr
  exact ⟨p, q, Below.trod hl hr.1.1 hr.1.2 h1 hb (fun x hx => hlt x (List.mem_append_left _ hx)), trodAll_below hl hb hr.2 h2 (fun x hx => hlt x (List.mem_append_right _ hx)), rfl⟩
theorem wf_i64 {n : Int} (h : (Lit.int .i64 n).wf = true) : -9223372036854775808 ≤ n ∧ n ≤ 9223372036854775807 := by
 simp only [Lit.wf, Bool.and_eq_true, decide_eq_true_eq] at h
 exact h
end Go.Sl
