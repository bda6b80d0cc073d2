/-
 The logic of steps that the walks use, second half: nothing of the program is said here.
-/
import Derived.Test.YtakiijkfjjmppaaGreatDoorKSlA
import Derived.RecoverIn
import Derived.Stop.IfaceNil
import Derived.Laws.Bits64b
import Derived.Laws.IdiomStrings
import Derived.Lib.ConvBytes
import Derived.Lib.AppendStr
import Derived.Lib.Builder
import Derived.Lib.UnsafeStr
import Derived.Laws.StructEq
set_option linter.unusedVariables false
set_option linter.unusedSectionVars false
set_option linter.unusedSimpArgs false
namespace Go.Sl
open Go
section
variable {α β : Type} [DecidableEq α]
def aE2 (a : α) : List (α × β) → Option β
 | [] => none
 | p :: l => if p.1 = a then some p.2 else aE2 a l
def aP6 (a : α) (v : β) : List (α × β) → List (α × β)
 | [] => [(a, v)]
 | p :: l => if p.1 = a then (a, v) :: l else p :: aP6 a v l
theorem aK9 (f : β → Value) (a : α) : ∀ (l : List (α × β)), gH a (l.map fun p => (p.1, f p.2)) = (aE2 a l).map f
 | [] => rfl
 | p :: l => by
  simp only [List.map_cons, gH, aE2]
  by_cases h : p.1 = a
  ·simp [h]
  ·simp [h, aK9 f a l]
theorem aL0 (f : β → Value) (a : α) (v : β) : ∀ (l : List (α × β)), fO a (f v) (l.map fun p => (p.1, f p.2)) = (aP6 a v l).map fun p => (p.1, f p.2)
 | [] => rfl
 | p :: l => by
  simp only [List.map_cons, fO, aP6]
  by_cases h : p.1 = a
  ·simp [h]
  ·simp [h, aL0 f a v l]
theorem wN {a : α} {v : β} : ∀ {l : List (α × β)}, aE2 a l = none → aP6 a v l = l ++ [(a, v)]
 | [], _ => rfl
 | p :: l, h => by
  simp only [aE2] at h
  split at h
  ·cases h
  ·rename_i hp
   simp [aP6, hp, wN h]
end
theorem SlRd.one {w0 : World} {M : List Ent} {z b : Nat} {T : TypeId} {x : List Value} (hm : cel b T x ∈ M) (hl : x.length = z) : SlRd w0 M z (some ⟨b, 0, none⟩) 1 [x] :=
 SlRd.of_cel (T := T) (sp := []) (by simpa [bT] using hm) rfl (by simpa using hl) (by decide)
section
variable {P : Program} {Q : Exit → Act → World → Prop} {w0 : World} {N : Nat} {ds : List Deferred} {env : dM} {M : List Ent} {t : TypeId} {Φ : Act → World → Prop}
 {pos : String} {af : Array Edge} {g : Option (Nat × Bool)} {d : Nat} {α : Type} {enc : α → Value} {l : List (α × Value)} {b : Nat}
theorem aL1 {f : FuncId} {fn : Func} {x : Operand} {T : TypeId} {AT : Array TypeId} (hf : P.funcs[f]? = some fn) (hname : (fn.name == "runtime.NumGoroutine") = false)
  (hb : fn.body.isNone = true) (hn : Extern.findNext fn = none) (he : Extern.find fn = some Extern.MapsClone.clone) (hx : env.op x = some (.iface T (.map (some b)))) (hm : kE b enc l ∈ M) (hd : Nat.ble (d + 1) N = true)
  (k : ∀ b', Tr w0 N ds ((d, .iface T (.map (some b'))) :: env) (kE b' enc l :: M) Φ) :
  Eff P Q w0 N ds env M ⟨some d, .call { callee := .value (.func f), args := [x].toArray, argTypes := AT }, t, pos, af, g⟩ Φ :=
 xY (vs := [.iface T (.map (some b))]) hf hname hb hn he (by simp [dM.opl, hx]) hd fun w hw => by
  have h := MapKept.run_getObj_map (P := P) (hw.mem _ hm)
  refine ⟨_, _, ?_, _, hw.alloc _, k w.heap.size⟩
  have e : Extern.MapsClone.clone #[.iface T (.map (some b))] = (getObj b >>= fun o => match o with
   | .map entries clock => (newObj (.map entries clock) >>= fun n => pure (.iface T (.map (some n))))
   | _ => stuck "maps.clone: a map expected") := rfl
  show (Extern.MapsClone.clone #[.iface T (.map (some b))]).run P w = _
  rw [e]
  simp [h, Result.andThen, go_sem]
end
section
variable {P : Program} {Q : Exit → Act → World → Prop} {w0 : World} {N : Nat} {ds : List Deferred} {env : dM} {M : List Ent} {t : TypeId} {Φ : Act → World → Prop}
 {pos : String} {af : Array Edge} {g : Option (Nat × Bool)} {d : Nat} {α : Type} [DecidableEq α] {enc : α → Value} {l : List (α × Value)} {b : Nat}
theorem aL2 {a : α} : ∀ {l : List (α × Value)}, gH a l = none → ∀ z, gH a (l ++ [(a, z)]) = some z
 | [], _, z => by simp [gH]
 | p :: l, h, z => by
  simp only [gH] at h
  split at h
  ·cases h
  ·rename_i hp
   simp only [List.cons_append, gH, hp, if_false]
   exact aL2 h z
theorem bE8 (ups : dM) {x y : Ent} {M' : List Ent} {c : Code} (hu : Upd M x y M') (h1 : ∀ K : Act → World → Prop, Tr w0 N ds (ups ++ env) M' K → Tr w0 N ds env M (c.wp P (Exit.then K Q)))
  (h2 : Tr w0 N ds (ups ++ env) M' (Q .normal)) : Tr w0 N ds env M (c.wp P Q) := bI8 ups M' h1 h2
theorem mM {T kt vT : TypeId} {m k : Operand} {a : α} {z : Value} {n by' : Nat} (hT : P.underlying T = some (.map kt vT)) (K : KeyK P kt enc) (hz : (P.info? vT).map (fun i => (i.zero, i.size, i.bytes)) = some (some z, n, by'))
  (hm : env.op m = some (.map (some b))) (hk : env.op k = some (enc a)) (hd : Nat.ble (d + 1) N = true) {M' : List (α × Value) → List Ent} (hu : ∀ l', Upd M (kE b enc l) (kE b enc l') (M' l'))
  (kk : ∀ (l' : List (α × Value)) (j : Nat) (u : Value), l'[j]? = some (a, u) → u = (gH a l).getD z → gH a l' = some u → (∀ v, l'.set j (a, v) = fO a v l) → Tr w0 N ds ((d, .tuple #[u, .int .i64 (j : Int)]) :: env) (M' l') Φ) :
  Eff P Q w0 N ds env M ⟨some d, .mapEntry T m k, t, pos, af, g⟩ Φ := fun act w ha hw => by
 obtain ⟨i, hi, hh⟩ := Option.map_eq_some_iff.1 hz
 simp only [Prod.mk.injEq] at hh
 have hb : w.heap[b]? = some (.map (dC enc 0 l).toArray l.length) := hw.mem (kE b enc l) (hu l).mem
 have hlt := (Array.getElem?_eq_some_iff.1 hb).1
 have h := MapKept.run_getObj_map (P := P) hb
 have hf := K.fnd a l w
 have hzv : (zeroValue vT).run P w = .ok z w := by simp [zeroValue, typeInfo, hi, hh.1]
 have put : ∀ l', Ok w0 (M' l') { w with heap := w.heap.setIfInBounds b (kE b enc l').o } := fun l' => hw.putObj (hu l')
 cases hfd : fG a 0 l with
 | none =>
  have e := (nF hfd).1
  have e0 := (nF hfd).2
  have hs := MapKept.run_setObj_map (P := P) (.map ((dC enc 0 l).toArray.push { key := enc a, val := z, born := l.length }) (l.length + 1)) hb
  rw [hfd] at hf
  have hr : (Instr.mapEntry T (.map (some b)) (enc a)).run P w = .ok (.tuple #[z, .int .i64 (l.length : Int)]) { w with heap := w.heap.setIfInBounds b (kE b enc (l ++ [(a, z)])).o } := by
   simp only [Instr.mapEntry, Sem.run_bind, run_underlying hT, h, K.chk, hf, Result.andThen_ok, hzv, hs]
   rw [List.push_toArray]
   simp [qZ, goInt]
  simp only [Oper.wp, execOp, Sem.run_bind, ha.op hm, ha.op hk, hr, Result.andThen_ok]
  simp only [Oper.upon, Sem.run_pure]
  exact kk _ l.length z (by simp) (by simp [e0]) (aL2 e0 z) (fun v => by simp [e]) _ _ (ha.put hd _) (put _)
 | some ju =>
  obtain ⟨j, u⟩ := ju
  obtain ⟨k, e1, e2, e3, e4⟩ := pI hfd
  obtain rfl : j = k := by omega
  have hk' := aN2 (a := a) K w
  have hkey : (((dC enc 0 l).toArray[j]?).map (·.key)).getD (enc a) = enc a := by simp [fU, e2]
  have hborn : (((dC enc 0 l).toArray[j]?).map (·.born)).getD 0 = j := by simp [fU, e2]
  have hmod := nU enc e2 (q := (a, u)) (fun e => { e with key := enc a }) rfl
  have hs := MapKept.run_setObj_map (P := P) (.map ((dC enc 0 l).toArray.modify j (fun e => { e with key := enc a })) l.length) hb
  rw [hfd] at hf
  have hr : (Instr.mapEntry T (.map (some b)) (enc a)).run P w = .ok (.tuple #[u, .int .i64 (j : Int)]) { w with heap := w.heap.setIfInBounds b (kE b enc (l.set j (a, u))).o } := by
   simp only [Instr.mapEntry, Sem.run_bind, run_underlying hT, h, K.chk, hf, Result.andThen_ok, hkey, hk', hs, hborn]
   rw [hmod]
   simp [goInt, fU, e2]
  simp only [Oper.wp, execOp, Sem.run_bind, ha.op hm, ha.op hk, hr, Result.andThen_ok]
  simp only [Oper.upon, Sem.run_pure]
  have hjl := (List.getElem?_eq_some_iff.1 e2).1
  have hsame : l.set j (a, u) = l := by rw [List.getElem?_eq_some_iff] at e2; obtain ⟨h7, h8⟩ := e2; rw [← h8]; exact List.set_getElem_self h7
  exact kk _ j u (by simp [hjl]) (by simp [e4]) (by rw [hsame, e4]) (fun v => by simp [e3]) _ _ (ha.put hd _) (put _)
end
def noPanic (Q : Exit → Act → World → Prop) : Exit → Act → World → Prop
 | .panic _, _, _ => False
 | e, a, w => Q e a w
theorem bK.noPanic {Q : Exit → Act → World → Prop} : bK (noPanic Q) := fun c a d v w h => h
theorem tD {P : Program} {Q : Exit → Act → World → Prop} {w0 : World} {N : Nat} {ds : List Deferred} {env : dM} {M : List Ent} {c : Code} (h : Tr w0 N ds env M (c.wp P (noPanic Q))) : Tr w0 N ds env M (c.wp P Q) := fun a w ha hw =>
 wp_mono (h a w ha hw) fun e a w q => by cases e <;> first | exact q | exact q.elim
section
variable {P : Program} {Q : Exit → Act → World → Prop} {w0 : World} {N : Nat} {ds : List Deferred} {env : dM} {M : List Ent} {c : Code}
def wO (P : Program) (c : Code) (Q : Exit → Act → World → Prop) (a : Act) (w : World) : Prop :=
 ∀ (b : Frame) (k : List Item) (cs : List Frame), ∃ e a' w', Q e a' w' ∧ Arrives P (lone (b.at a (.code c :: .inLoop c :: k)) cs w) b k cs e a' w'
theorem eN (h : Tr w0 N ds env M (wO P c Q)) : Tr w0 N ds env M ((Code.loop c).wp P Q) := fun a w ha hw b k cs => by
 obtain ⟨e, a', w', hq, harr⟩ := h a w ha hw b k cs
 exact ⟨e, a', w', hq, .of_steps (.one step_loop) harr⟩
theorem cR (h : Tr w0 N ds env M (c.wp P (Exit.then (wO P c Q) Q))) : Tr w0 N ds env M (wO P c Q) := fun a w ha hw b k cs => by
 obtain ⟨e, a₁, w₁, hq, harr⟩ := h a w ha hw b (.inLoop c :: k) cs
 cases e with
 | normal =>
  obtain ⟨e₂, a₂, w₂, hq₂, harr₂⟩ := hq b k cs
  exact ⟨e₂, a₂, w₂, hq₂, .of_steps (Steps.trans harr (.one step_inLoop)) harr₂⟩
 | exit id => exact ⟨_, a₁, w₁, hq, .pass (x := .inLoop c) rfl (fun _ _ => .inl (by simp)) harr⟩
 | goto l => exact ⟨_, a₁, w₁, hq, .pass (x := .inLoop c) rfl (fun _ _ => .inl (by simp)) harr⟩
 | ret => exact ⟨_, a₁, w₁, hq, .pass (x := .inLoop c) rfl (fun _ _ => .inl (by simp)) harr⟩
 | panic ch => exact ⟨_, a₁, w₁, hq, .pass (x := .inLoop c) rfl (fun _ _ => .inl (by simp)) harr⟩
 | outgrown => exact ⟨_, a₁, w₁, hq, .pass (x := .inLoop c) rfl (fun _ _ => .inl (by simp)) harr⟩
end
end Go.Sl
set_option linter.unusedVariables false
set_option linter.unusedSectionVars false
set_option linter.unusedSimpArgs false
namespace Go.Sl
open Go
section
variable {P : Program} {md : Region.Mode} {ops : Array Oper} {Q : Exit → Act → World → Prop} {k : Nat} {S1 S2 : World → Prop}
def iU (k : Nat) (S1 S2 : World → Prop) (listed : Array Bool) (w : World) : Prop := if listed.getD k true = true then S2 w else S1 w
def qF (P : Program) (md : Region.Mode) (ops : Array Oper) (Q : Exit → Act → World → Prop) (k : Nat) (S1 S2 : World → Prop) : Nat → Array Bool → Act → World → Prop
 | 0, listed, a, w => Region.ready md ops listed = [] ∧ Q .normal a w
 | fuel + 1, listed, a, w =>
  (Region.ready md ops listed = [] → Q .normal a w) ∧
  ∀ i ∈ Region.ready md ops listed, wpOp P ops Q i (fun a' w' => iU k S1 S2 (listed.setIfInBounds i true) w' ∧ qF P md ops Q k S1 S2 fuel (listed.setIfInBounds i true) a' w') a w
theorem qG : ∀ (fuel : Nat) (listed : Array Bool) (a : Act) (w : World), qF P md ops Q k S1 S2 fuel listed a w → wpAny P md ops Q fuel listed a w
 | 0, _, _, _, h => h
 | fuel + 1, _, _, _, h => ⟨h.1, fun i hi => wpOp_mono (fun a' w' h' => qG fuel _ a' w' h'.2) (h.2 i hi)⟩
theorem aE3 {i : Nat} {oi : Oper} {v : Value} (hi : ops[i]? = some oi) (hsel : ∀ (j : Nat) (o : Oper) cs b, ops[j]? = some o → o.op ≠ .select cs b)
  (hQ : ∀ c a w, Q (.panic c) (a.put oi.dst v) w → Q (.panic c) a w) (hik : i ≠ k) {ok : Oper} (hok : ops[k]? = some ok) (hwait : ∃ e ∈ ok.after, Region.binds md e = true ∧ e.on = i) :
  ∀ (fuel : Nat) (listed : Array Bool) (a : Act) (w : World),
   (∀ j oj, ops[j]? = some oj → j ≠ i → listed.getD j true = false → (∀ e ∈ oj.after, Region.binds md e = true → e.on ≠ i) → oi.apart ops oj = true) →
   i ∈ Region.ready md ops listed → listed.getD k true = false → YieldsIf P ops S1 oi v a → S1 w →
   qF P md ops Q k S1 S2 fuel (listed.setIfInBounds i true) (a.put oi.dst v) w → qF P md ops Q k S1 S2 (fuel + 1) listed a w := by
 have held : ∀ (listed : Array Bool) (w : World), listed.getD k true = false → S1 w → iU k S1 S2 (listed.setIfInBounds i true) w := fun listed w hk hS => by
  unfold iU
  rw [getD_set_ne true hik, if_neg (by rw [hk]; simp)]
  exact hS
 intro fuel
 induction fuel with
 | zero =>
  intro listed a w _ hr hk hy hS H
  refine ⟨fun h => (by rw [h] at hr; cases hr), fun j hj => ?_⟩
  by_cases hji : j = i
  ·subst hji; exact hy.wpOp hi hS ⟨held _ _ hk hS, H⟩
  ·have := ready_mono hj hji
   rw [H.1] at this
   cases this
 | succ fuel ih =>
  intro listed a w hfree hr hk hy hS H
  refine ⟨fun h => (by rw [h] at hr; cases hr), fun j hj => ?_⟩
  by_cases hji : j = i
  ·subst hji; exact hy.wpOp hi hS ⟨held _ _ hk hS, H⟩
  ·have h1 := H.2 j (ready_mono hj hji)
   obtain ⟨hjun, oj, hoj, hall⟩ := mem_ready.1 hj
   have hi0 := (mem_ready.1 hr).1
   have hnot : ∀ e ∈ oj.after, Region.binds md e = true → e.on ≠ i := fun e he hb heq => by
    have h1 := hall e he hb
    have h0 := (mem_ready.1 hr).1
    rw [heq] at h1
    rcases Nat.lt_or_ge i listed.size with h' | h'
    ·simp [h'] at h0 h1; rw [h0] at h1; cases h1
    ·simp [Array.getElem?_eq_none h'] at h1
   have hjk : j ≠ k := fun e => by
    subst e
    rw [hok] at hoj
    cases hoj
    obtain ⟨e, he, hb, hon⟩ := hwait
    exact hnot e he hb hon
   have h2 := wpOp_putIf hoj (hfree j oj hoj hji hjun hnot) (fun cs b => hsel i oi cs b hi) (fun cs b => hsel j oj cs b hoj) hQ hy h1
   have hfree' : ∀ k ok, ops[k]? = some ok → k ≠ i → (listed.setIfInBounds j true).getD k true = false →
     (∀ e ∈ ok.after, Region.binds md e = true → e.on ≠ i) → oi.apart ops ok = true := fun k ok hk hki hun hno => by
    refine hfree k ok hk hki ?_ hno
    by_cases hjk : j = k
    ·subst hjk; exact hjun
    ·rw [getD_set_ne true hjk] at hun; exact hun
   have hk' : (listed.setIfInBounds j true).getD k true = false := by rw [getD_set_ne true hjk]; exact hk
   have hS' : ∀ w', iU k S1 S2 ((listed.setIfInBounds i true).setIfInBounds j true) w' → S1 w' := fun w' h => by
    unfold iU at h
    rw [getD_set_ne true hjk, getD_set_ne true hik, if_neg (by rw [hk]; simp)] at h
    exact h
   refine wpOp_mono (fun a' w' h3 => ⟨?_, ih (listed.setIfInBounds j true) a' w' hfree' (ready_mono hr (Ne.symm hji)) hk' h3.1 (hS' w' h3.2.1) ?_⟩) h2
   ·unfold iU
    rw [if_neg (by rw [hk']; simp)]
    exact hS' w' h3.2.1
   ·rw [Array.setIfInBounds_comm _ _ hji]
    exact h3.2.2
theorem yS {i : Nat} {oi : Oper} {v : Value} (hi : ops[i]? = some oi) (hsel : ∀ (j : Nat) (o : Oper) cs b, ops[j]? = some o → o.op ≠ .select cs b)
  (hQ : ∀ c a w, Q (.panic c) (a.put oi.dst v) w → Q (.panic c) a w) (hik : i ≠ k) (h12 : ∀ w, S1 w → S2 w) :
  ∀ (fuel : Nat) (listed : Array Bool) (a : Act) (w : World),
   (∀ j oj, ops[j]? = some oj → j ≠ i → listed.getD j true = false → (∀ e ∈ oj.after, Region.binds md e = true → e.on ≠ i) → oi.apart ops oj = true) →
   i ∈ Region.ready md ops listed → YieldsIf P ops S2 oi v a → iU k S1 S2 listed w →
   qF P md ops Q k S1 S2 fuel (listed.setIfInBounds i true) (a.put oi.dst v) w → qF P md ops Q k S1 S2 (fuel + 1) listed a w := by
 have held : ∀ (listed : Array Bool) (w : World), iU k S1 S2 listed w → iU k S1 S2 (listed.setIfInBounds i true) w := fun listed w h => by
  unfold iU at *
  rw [getD_set_ne true hik]; exact h
 have hS2 : ∀ (listed : Array Bool) (w : World), iU k S1 S2 listed w → S2 w := fun listed w h => by
  unfold iU at h
  split at h
  ·exact h
  ·exact h12 w h
 intro fuel
 induction fuel with
 | zero =>
  intro listed a w _ hr hy hS H
  refine ⟨fun h => (by rw [h] at hr; cases hr), fun j hj => ?_⟩
  by_cases hji : j = i
  ·subst hji; exact hy.wpOp hi (hS2 _ _ hS) ⟨held _ _ hS, H⟩
  ·have := ready_mono hj hji
   rw [H.1] at this
   cases this
 | succ fuel ih =>
  intro listed a w hfree hr hy hS H
  refine ⟨fun h => (by rw [h] at hr; cases hr), fun j hj => ?_⟩
  by_cases hji : j = i
  ·subst hji; exact hy.wpOp hi (hS2 _ _ hS) ⟨held _ _ hS, H⟩
  ·have h1 := H.2 j (ready_mono hj hji)
   obtain ⟨hjun, oj, hoj, hall⟩ := mem_ready.1 hj
   have hi0 := (mem_ready.1 hr).1
   have hnot : ∀ e ∈ oj.after, Region.binds md e = true → e.on ≠ i := fun e he hb heq => by
    have h1 := hall e he hb
    have h0 := (mem_ready.1 hr).1
    rw [heq] at h1
    rcases Nat.lt_or_ge i listed.size with h' | h'
    ·simp [h'] at h0 h1; rw [h0] at h1; cases h1
    ·simp [Array.getElem?_eq_none h'] at h1
   have h2 := wpOp_putIf hoj (hfree j oj hoj hji hjun hnot) (fun cs b => hsel i oi cs b hi) (fun cs b => hsel j oj cs b hoj) hQ hy h1
   have hfree' : ∀ k ok, ops[k]? = some ok → k ≠ i → (listed.setIfInBounds j true).getD k true = false →
     (∀ e ∈ ok.after, Region.binds md e = true → e.on ≠ i) → oi.apart ops ok = true := fun k ok hk hki hun hno => by
    refine hfree k ok hk hki ?_ hno
    by_cases hjk : j = k
    ·subst hjk; exact hjun
    ·rw [getD_set_ne true hjk] at hun; exact hun
   have hS' : ∀ w', iU k S1 S2 ((listed.setIfInBounds i true).setIfInBounds j true) w' → iU k S1 S2 (listed.setIfInBounds j true) w' := fun w' h => by
    unfold iU at *
    rw [Array.setIfInBounds_comm _ _ (Ne.symm hji), getD_set_ne true hik] at h
    exact h
   refine wpOp_mono (fun a' w' h3 => ⟨hS' w' h3.2.1, ih (listed.setIfInBounds j true) a' w' hfree' (ready_mono hr (Ne.symm hji)) h3.1 (hS' w' h3.2.1) ?_⟩) h2
   rw [Array.setIfInBounds_comm _ _ hji]
   exact h3.2.2
end
section
variable {P : Program} {Q : Exit → Act → World → Prop} {w0 : World} {N : Nat} {ds : List Deferred} {env : dM} {M : List Ent} {t : TypeId} {X : Act → World → Prop}
 {pos : String} {af : Array Edge} {d : Nat} {ops : Array Oper} {o : Op} {v : Value} {S1 S2 : List Ent} {k fuel : Nat} {listed : Array Bool}
abbrev WK (P : Program) (w0 : World) (ops : Array Oper) (Q : Exit → Act → World → Prop) (k : Nat) (S1 S2 : List Ent) := qF P .any ops Q k (Ok w0 S1) (Ok w0 S2)
theorem pE {id n : Nat} (k : Nat) (hS2 : S2.Sublist M) (hm : P.follows .mixedOrders = true) (hn : ops.size = n) (h : Tr w0 N ds env M (WK P w0 ops Q k M S2 n (Array.replicate n false))) :
  Tr w0 N ds env M ((Code.region id ops true).wp P Q) := fun a w ha hw => by
 subst hn
 exact wp_region_any hm (qG _ _ _ _ (h a _ ha (hw.drawn _)))
def rR (ops : Array Oper) (k i : Nat) : Bool := match ops[k]? with | some o => o.after.any fun e => Region.binds .any e && Nat.beq e.on i | none => false
theorem yU {k i : Nat} (h : rR ops k i = true) : ∃ ok, ops[k]? = some ok ∧ ∃ e ∈ ok.after, Region.binds .any e = true ∧ e.on = i := by
 unfold rR at h
 cases ho : ops[k]? with
 | none => simp [ho] at h
 | some o =>
  simp only [ho, Array.any_eq_true] at h
  obtain ⟨j, hj, h⟩ := h
  simp only [Bool.and_eq_true] at h
  exact ⟨o, rfl, o.after[j], by simp, h.1, Nat.eq_of_beq_eq_true h.2⟩
theorem k_val (i : Nat) (hi : ops[i]? = some ⟨some d, o, t, pos, af, none⟩) (hs : Region.noSelect ops = true) (hf : Region.free .any ops listed i = true) (hr : (Region.ready .any ops listed).contains i = true)
  (hik : Nat.beq i k = false) (hw8 : rR ops k i = true) (hkl : listed.getD k true = false) (hQ : bK Q) (hSM : S1.Sublist M) (hd : Nat.ble (d + 1) N = true) (hv : fL P w0 N ds env S1 o t v)
  (h : Tr w0 N ds ((d, v) :: env) M (WK P w0 ops Q k S1 S2 fuel (listed.setIfInBounds i true))) :
  Tr w0 N ds env M (WK P w0 ops Q k S1 S2 (fuel + 1) listed) := fun a w ha hw => by
 obtain ⟨ok, hok, hwt⟩ := yU hw8
 exact aE3 hi (Region.noSelect_spec hs) (fun c a w q => hQ c a _ _ w q) (by intro e; subst e; simp at hik) hok hwt fuel listed a w (Region.free_spec hi hf) (by simpa using hr) hkl
  (.inl ⟨rfl, fun w hw => hv a w pos af none (some d) ha hw⟩) (hw.sub hSM) (h _ _ (ha.put hd v) hw)
theorem k_val1 (i : Nat) (hi : ops[i]? = some ⟨some d, o, t, pos, af, none⟩) (hs : Region.noSelect ops = true) (hf : Region.free .any ops listed i = true) (hr : (Region.ready .any ops listed).contains i = true)
  (hik : Nat.beq i k = false) (hkl : listed.getD k true = false) (hS12 : S2.Sublist S1) (hQ : bK Q) (hSM : S1.Sublist M) (hd : Nat.ble (d + 1) N = true) (hv : fL P w0 N ds env S2 o t v)
  (h : Tr w0 N ds ((d, v) :: env) M (WK P w0 ops Q k S1 S2 fuel (listed.setIfInBounds i true))) :
  Tr w0 N ds env M (WK P w0 ops Q k S1 S2 (fuel + 1) listed) := fun a w ha hw =>
 yS hi (Region.noSelect_spec hs) (fun c a w q => hQ c a _ _ w q) (by intro e; subst e; simp at hik) (fun w h => h.sub hS12) fuel listed a w (Region.free_spec hi hf) (by simpa using hr)
  (.inl ⟨rfl, fun w hw => hv a w pos af none (some d) ha hw⟩) (by unfold iU; rw [if_neg (by rw [hkl]; simp)]; exact hw.sub hSM) (h _ _ (ha.put hd v) hw)
theorem eM (i : Nat) {oi : Oper} (hi : ops[i]? = some oi) (hg : oi.guard = none) (hr : Region.ready .any ops listed = [i])
  (h : Eff P Q w0 N ds env M oi (fun a w => iU k (Ok w0 S1) (Ok w0 S2) (listed.setIfInBounds i true) w ∧ WK P w0 ops Q k S1 S2 fuel (listed.setIfInBounds i true) a w)) :
  Tr w0 N ds env M (WK P w0 ops Q k S1 S2 (fuel + 1) listed) := fun a w ha hw => by
 refine ⟨fun h0 => (by rw [h0] at hr; cases hr), fun q hq => ?_⟩
 rw [hr] at hq
 simp only [List.mem_cons, List.not_mem_nil, or_false] at hq
 subst hq
 unfold wpOp
 simp only [hi]
 rw [if_pos (by simp [Region.wanted, hg])]
 exact .inl (h a w ha hw)
theorem fQ {L : Array Bool} (hk : L.getD k true = false) (hS : S1.Sublist M) (h : Tr w0 N ds env M X) : Tr w0 N ds env M (fun a w => iU k (Ok w0 S1) (Ok w0 S2) L w ∧ X a w) := fun a w ha hw =>
 ⟨by unfold iU; rw [if_neg (by rw [hk]; simp)]; exact hw.sub hS, h a w ha hw⟩
theorem eS {L : Array Bool} (hk : L.getD k true = true) (hS : S2.Sublist M) (h : Tr w0 N ds env M X) : Tr w0 N ds env M (fun a w => iU k (Ok w0 S1) (Ok w0 S2) L w ∧ X a w) := fun a w ha hw =>
 ⟨by unfold iU; rw [if_pos hk]; exact hw.sub hS, h a w ha hw⟩
theorem rS (hr : Region.ready .any ops listed = []) (h : Tr w0 N ds env M (Q .normal)) : Tr w0 N ds env M (WK P w0 ops Q k S1 S2 fuel listed) := fun a w ha hw => by
 cases fuel with
 | zero => exact ⟨hr, h a w ha hw⟩
 | succ n => exact ⟨fun _ => h a w ha hw, by rw [hr]; simp⟩
theorem aP7 {α : Type} {c : Code} (env' : α → dM) (new : α → List Ent) (φ : α → Prop) (h1 : ∀ K : Act → World → Prop, (∀ x, φ x → Tr w0 N ds (env' x) (new x ++ M) K) → Tr w0 N ds env M (c.wp P (Exit.then K Q)))
  (h2 : ∀ x, φ x → Tr w0 N ds (env' x) (new x ++ M) (Q .normal)) : Tr w0 N ds env M (c.wp P Q) := aS0 env' (fun x => new x ++ M) φ h1 h2
end
end Go.Sl
set_option linter.unusedVariables false
set_option linter.unusedSectionVars false
set_option linter.unusedSimpArgs false
namespace Go.Sl
open Go
abbrev stE (r : Nat) (s : ByteArray) (p : Nat) : Ent := ⟨r, .stringIter s p⟩
section
variable {P : Program} {Q : Exit → Act → World → Prop} {w0 : World} {N : Nat} {ds : List Deferred} {env : dM} {M : List Ent} {t : TypeId} {Φ : Act → World → Prop}
 {pos : String} {af : Array Edge} {d : Nat} {g : Option (Nat × Bool)} {s : ByteArray}
theorem bE9 {T : TypeId} {x : Operand} (hT : P.underlying T = some .string) (hx : env.op x = some (.string s)) (hd : Nat.ble (d + 1) N = true)
  (k : ∀ r, Tr w0 N ds ((d, .pointer (some ⟨r, 0, none⟩)) :: env) (stE r s 0 :: M) Φ) :
  Eff P Q w0 N ds env M ⟨some d, .range T x, t, pos, af, g⟩ Φ := fun a w ha hw => by
 simp [Oper.wp, execOp, ha.op hx, run_range_string w T s hT, Oper.upon]
 exact k _ _ _ (ha.put hd _) (hw.alloc _)
theorem e_nextS {x : Operand} {r p : Nat} {M' : Nat → List Ent} (hx : env.op x = some (.pointer (some ⟨r, 0, none⟩))) (hd : Nat.ble (d + 1) N = true)
  (hu : ∀ q, Upd M (stE r s p) (stE r s q) (M' q))
  (k0 : s.size ≤ p → Tr w0 N ds ((d, .tuple #[.bool false]) :: env) M Φ)
  (k1 : p < s.size → Tr w0 N ds ((d, .tuple #[.bool true, .int .i64 p, .int .i32 (Utf8.decode s p).1]) :: env) (M' (p + (Utf8.decode s p).2)) Φ) :
  Eff P Q w0 N ds env M ⟨some d, .next x true, t, pos, af, g⟩ Φ := fun a w ha hw => by
 obtain ⟨A, B, hA, hA'⟩ := (hu (p + (Utf8.decode s p).2)).split
 have hit : stE r s p ∈ M := by rw [hA]; simp
 have hi : w.heap[r]? = some (.stringIter s p) := hw.mem _ hit
 have hlt := (Array.getElem?_eq_some_iff.1 hi).1
 by_cases hp : p < s.size
 ·have hr : (Instr.next (.pointer (some ⟨r, 0, none⟩)) true t).run P w = .ok (.tuple #[.bool true, .int .i64 p, .int .i32 (Utf8.decode s p).1]) { w with heap := w.heap.setIfInBounds r (.stringIter s (p + (Utf8.decode s p).2)) } := by
   simp [Instr.next, getObj, setObj, Sem.run, hi, hp, goInt]
  simp only [Oper.wp, execOp, Sem.run_bind, ha.op hx, hr, Result.andThen_ok]
  simp only [Oper.upon, Sem.run_pure]
  refine k1 hp _ _ (ha.put hd _) ?_
  rw [hA']
  rw [hA] at hw
  exact hw.put _ rfl rfl rfl (by simp) (by simp [Array.getElem?_setIfInBounds]; exact hlt) (fun c hc => by simp [Array.getElem?_setIfInBounds, Ne.symm hc])
 ·have hr : (Instr.next (.pointer (some ⟨r, 0, none⟩)) true t).run P w = .ok (.tuple #[.bool false]) w := by
   simp [Instr.next, getObj, Sem.run, hi, hp]
  simp only [Oper.wp, execOp, Sem.run_bind, ha.op hx, hr, Result.andThen_ok]
  simp only [Oper.upon, Sem.run_pure]
  exact k0 (Nat.le_of_not_lt hp) _ _ (ha.put hd _) hw
def rT (s : ByteArray) (c : UInt8) : Int := match (List.range s.size).find? fun i => s[i]! == c with | some i => (i : Int) | none => -1
theorem aL3 {f : FuncId} {fn : Func} {x y : Operand} {AT : Array TypeId} {c : UInt8} (hf : P.funcs[f]? = some fn) (hname : (fn.name == "runtime.NumGoroutine") = false)
  (hb : fn.body.isNone = true) (hn : Extern.findNext fn = none) (he : Extern.find fn = some Extern.BytealgIndexByte.indexByte) (hx : env.op x = some (.string s)) (hy : env.op y = some (.int .u8 (c.toNat : Int))) (hd : Nat.ble (d + 1) N = true)
  (k : Tr w0 N ds ((d, .int .i64 (rT s c)) :: env) M Φ) :
  Eff P Q w0 N ds env M ⟨some d, .call { callee := .value (.func f), args := [x, y].toArray, argTypes := AT }, t, pos, af, g⟩ Φ :=
 xY (vs := [.string s, .int .u8 (c.toNat : Int)]) hf hname hb hn he (by simp [dM.opl, hx, hy]) hd fun w hw => by
  refine ⟨.int .i64 (rT s c), w, ?_, M, hw, k⟩
  show (Extern.Bytes.bytesOf (.string s) >>= fun b => Extern.Bytes.asByte (.int .u8 (c.toNat : Int)) >>= fun c => match (List.range b.size).find? fun i => b[i]! == c with | some i => pure (goInt i) | none => pure (goInt (-1))).run P w = _
  simp [Extern.Bytes.bytesOf, Extern.Bytes.asByte, rT]
  split <;> simp_all [goInt]
theorem e_panic {x : Operand} {T : TypeId} {v : Value} {dst : Option Nat} (hx : env.op x = some (.iface T v)) (h : Tr w0 N ds env M (Q (.panic [{ v := .iface T v, recovered := false }]))) :
  Eff P Q w0 N ds env M ⟨dst, .panic x, t, pos, af, g⟩ Φ := fun a w ha hw => by
 simp [Oper.wp, execOp, ha.op hx, Instr.panic, goPanic, Sem.run, Oper.upon]
 exact h _ _ ha hw
end
end Go.Sl
set_option linter.unusedVariables false
set_option linter.unusedSectionVars false
set_option linter.unusedSimpArgs false
namespace Go.Sl
open Go
def wP (P : Program) (f : FuncId) (e : Array Value → Sem Value) : Prop :=
 ∃ fn, P.funcs[f]? = some fn ∧ (fn.name == "runtime.NumGoroutine") = false ∧ fn.body.isNone = true ∧ Extern.findNext fn = none ∧ Extern.find fn = some e
section
variable {P : Program} {Q : Exit → Act → World → Prop} {w0 : World} {N : Nat} {ds : List Deferred} {env : dM} {M : List Ent} {t : TypeId} {Φ : Act → World → Prop}
 {pos : String} {af : Array Edge} {g : Option (Nat × Bool)} {d : Nat} {α : Type} {enc : α → Value} {l : List (α × Value)} {b : Nat}
theorem aE4 {f : FuncId} {x : Operand} {T : TypeId} {AT : Array TypeId} (h : wP P f Extern.MapsClone.clone) (hx : env.op x = some (.iface T (.map (some b)))) (hm : kE b enc l ∈ M) (hd : Nat.ble (d + 1) N = true)
  (k : ∀ b', Tr w0 N ds ((d, .iface T (.map (some b'))) :: env) (kE b' enc l :: M) Φ) :
  Eff P Q w0 N ds env M ⟨some d, .call { callee := .value (.func f), args := [x].toArray, argTypes := AT }, t, pos, af, g⟩ Φ := by
 obtain ⟨fn, h1, h2, h3, h4, h5⟩ := h
 exact aL1 h1 h2 h3 h4 h5 hx hm hd k
theorem aE5 {f : FuncId} {x y : Operand} {AT : Array TypeId} {s : ByteArray} {c : UInt8} (h : wP P f Extern.BytealgIndexByte.indexByte) (hx : env.op x = some (.string s)) (hy : env.op y = some (.int .u8 (c.toNat : Int))) (hd : Nat.ble (d + 1) N = true)
  (k : Tr w0 N ds ((d, .int .i64 (rT s c)) :: env) M Φ) :
  Eff P Q w0 N ds env M ⟨some d, .call { callee := .value (.func f), args := [x, y].toArray, argTypes := AT }, t, pos, af, g⟩ Φ := by
 obtain ⟨fn, h1, h2, h3, h4, h5⟩ := h
 exact aL3 h1 h2 h3 h4 h5 hx hy hd k
theorem aY0 {f : FuncId} {e : Array Value → Sem Value} {xs : List Operand} {T : Array TypeId} {vs : List Value} (h : wP P f e) (hx : env.opl xs = some vs) (hd : Nat.ble (d + 1) N = true)
  (k : ∀ w, Ok w0 M w → ∃ v w', (e vs.toArray).run P w = .ok v w' ∧ ∃ M', Ok w0 M' w' ∧ Tr w0 N ds ((d, v) :: env) M' Φ) :
  Eff P Q w0 N ds env M ⟨some d, .call { callee := .value (.func f), args := xs.toArray, argTypes := T }, t, pos, af, g⟩ Φ := by
 obtain ⟨fn, h1, h2, h3, h4, h5⟩ := h
 exact xY h1 h2 h3 h4 h5 hx hd k
end
end Go.Sl
set_option linter.unusedVariables false
set_option linter.unusedSectionVars false
set_option linter.unusedSimpArgs false
namespace Go.Sl
open Go
abbrev defC (f : FuncId) (cap : Array Value) : Deferred := { target := .fn (.func f) cap, args := #[] }
def lJ (Q : Exit → Act → World → Prop) (d : Nat) : Prop := ∀ c a v w, Q (.panic c) (a.put (some d) v) w → Q (.panic c) a w
theorem lJ.then {Q : Exit → Act → World → Prop} {K : Act → World → Prop} {d : Nat} (h : lJ Q d) : lJ (Exit.then K Q) d := h
theorem lJ.inBlock {Q : Exit → Act → World → Prop} {i d : Nat} (h : lJ Q d) : lJ (Exit.inBlock i Q) d := h
theorem yV {F : Fence} {n : Nat} {P : Program} {fn : Func} {R : Ending → World → Prop} {tm tm' : Array Value} (h : results fn tm = results fn tm') :
  ∀ ds u w, LeavesInM F n P fn tm R ds u w = LeavesInM F n P fn tm' R ds u w := by
 intro ds
 induction ds with
 | nil => intro u w; cases u <;> simp [LeavesInM, LeavesIn, h]
 | cons d ds ih => intro u w; simp only [LeavesInM, ih]
theorem aE6 {fn : Func} {s T : Nat} {tm tm' : Array Value} (hr : fn.results = #[.cell s T]) (h : tm.getD s undef = tm'.getD s undef) : results fn tm = results fn tm' := by
 have h' : tm[s]?.getD undef = tm'[s]?.getD undef := by simpa [Array.getD_eq_getD_getElem?] using h
 simp only [results, hr]
 simp [h']
theorem lJ.bodyM {F : Fence} {n : Nat} {P : Program} {fn : Func} {R : Ending → World → Prop} {s T d : Nat} (hr : fn.results = #[.cell s T]) (hd : Nat.beq d s = false) : lJ (bodyPostM F n P fn R) d := fun c a v w h => by
 have hne : d ≠ s := by intro e; simp [e] at hd
 simp only [bodyPostM] at h ⊢
 rw [yV (aE6 (tm' := (a.put (some d) v).tmps) hr (by simp [Act.put, Array.getD_eq_getD_getElem?, Array.getElem?_setIfInBounds, hne]))]
 exact h
section
variable {P : Program} {Q : Exit → Act → World → Prop} {w0 : World} {N : Nat} {ds : List Deferred} {env : dM} {M S : List Ent} {t : TypeId} {Φ : Act → World → Prop}
 {pos : String} {af : Array Edge} {d fuel : Nat} {g : Option (Nat × Bool)} {ops : Array Oper} {listed : Array Bool} {o : Op} {v : Value}
theorem dL (i : Nat) (hi : ops[i]? = some ⟨some d, o, t, pos, af, none⟩) (hs : Region.noSelect ops = true) (hf : Region.free .any ops listed i = true) (hr : (Region.ready .any ops listed).contains i = true)
  (hQ : lJ Q d) (hSM : S.Sublist M) (hd : Nat.ble (d + 1) N = true) (hv : fL P w0 N ds env S o t v)
  (h : Tr w0 N ds ((d, v) :: env) M (wpAnyH P .any ops Q (Ok w0 S) fuel (listed.setIfInBounds i true))) :
  Tr w0 N ds env M (wpAnyH P .any ops Q (Ok w0 S) (fuel + 1) listed) := fun a w ha hw =>
 wpAnyH_take hi hs hf hr (fun c a w q => hQ c a _ w q) (.inl ⟨rfl, fun w hw => hv a w pos af none (some d) ha hw⟩) (hw.sub hSM) (h _ _ (ha.put hd v) hw)
theorem aE7 {x : Operand} {f : FuncId} {cap : Array Value} (hx : env.op x = some (.func (.func f) #[] cap)) (h : Tr w0 N (defC f cap :: ds) env M Φ) :
  Eff P Q w0 N ds env M ⟨none, .defer { callee := .value x, args := #[], argTypes := #[] }, t, pos, af, g⟩ Φ := fun a w ha hw => by
 simp [Oper.wp, execOp, resolve, Deferred.ofValue, ha.op hx, Oper.upon, Act.put]
 exact h _ _ ⟨ha.size, by simp [ha.defers], ha.get⟩ hw
theorem wQ {fn : Func} {tm : Array Value} {R : Ending → World → Prop} {f : FuncId} {cap : Array Value} {ds : List Deferred} {u u' : FrameMode} {w : World} {Z : World → Prop} (hu : u ≠ .run) (he : aV P f)
  (hc : CallsDIn Fence.wide 1 P f cap u w (fun e x w' => e = .returned (.tuple #[]) ∧ x = u' ∧ Z w')) (h : ∀ w', Z w' → LeavesInM Fence.wide 2 P fn tm R ds (settle u') w') :
  LeavesInM Fence.wide 2 P fn tm R (defC f cap :: ds) u w := by
 refine ⟨hu, .inr ⟨fun h => by simp [Fence.wide] at h, .func f, cap, f, cap, rfl, ?_, fun _ _ => trivial, ?_⟩⟩
 ·have := he cap w
  simpa [invoke] using this
 ·refine ⟨hc.1, fun c cs h1 h2 => ?_⟩
  obtain ⟨e, x, w', fr, ⟨rfl, rfl, hz⟩, h4⟩ := hc.2 c cs h1 h2
  exact ⟨_, _, w', fr, h _ hz, h4⟩
theorem s_rec {F : Fence} {n : Nat} {QS : Exit → Act → List Frame → World → Prop} {i : Nat} {rest : List Nat} {oo : Oper} {a : Act} {cs : List Frame} {w : World} (hF : ∀ f, F.fn f) (ho : ops[i]? = some oo) (hg : oo.guard = none) (hr : (execOp a.eval oo).run P w = .ok .recover w)
  (hn : recoverD cs = none → wpOpsSIn F n P ops QS rest (a.put oo.dst .nilIface) cs w) (hs : ∀ v cs', recoverD cs = some (v, cs') → wpOpsSIn F n P ops QS rest (a.put oo.dst v) cs' w) : wpOpsSIn F n P ops QS (i :: rest) a cs w := by
 have hw : Region.wanted oo (yielded ops a.tmps) = true := by simp [Region.wanted, hg]
 simp only [wpOpsSIn, ho, hr, hw, if_true]
 refine ⟨fun f _ => hF f, ?_⟩
 cases e : recoverD cs with
 | none => exact hn e
 | some p => exact hs p.1 p.2 e
theorem s_val {F : Fence} {n : Nat} {QS : Exit → Act → List Frame → World → Prop} {i : Nat} {rest : List Nat} {oo : Oper} {a : Act} {cs : List Frame} {w : World} {v : Value} (hF : ∀ f, F.fn f) (ho : ops[i]? = some oo) (hg : oo.guard = none) (hr : (execOp a.eval oo).run P w = .ok (.value v) w)
  (h : wpOpsSIn F n P ops QS rest (a.put oo.dst v) cs w) : wpOpsSIn F n P ops QS (i :: rest) a cs w := by
 have hw : Region.wanted oo (yielded ops a.tmps) = true := by simp [Region.wanted, hg]
 simp only [wpOpsSIn, ho, hr, hw, if_true]
 exact ⟨fun f _ => hF f, h⟩
theorem wR {f : FuncId} {fn : Func} {id d0 d1 : Nat} {rest : Code} {T0 T1 : TypeId} {p0 p1 : String} {a0 a1 : Array Edge} {vs : List Value} {u u' : FrameMode} {v : Value} {Z : World → Prop}
  (hf : P.funcs[f]? = some fn) (hb : fn.body = some (.seq (.region id #[⟨some d0, .call { callee := .builtin .recover, args := #[], argTypes := #[] }, T0, p0, a0, none⟩, ⟨some d1, .assign (.tmp d0), T1, p1, a1, none⟩] false) rest))
  (hrec : ∀ (c₀ : Frame) (cs : List Frame), c₀.mode = u → (recoverD (c₀ :: cs) = none ∧ v = .nilIface ∧ u' = u) ∨ recoverD (c₀ :: cs) = some (v, { c₀ with mode := u' } :: cs))
  (hN : fn.ntmps = N) (hl : Nat.ble vs.length N = true) (h0 : Nat.ble (d0 + 1) N = true) (h1 : Nat.ble (d1 + 1) N = true)
  (h : Tr w0 N [] ((d1, v) :: (d0, v) :: mU 0 vs) M (rest.wp P (bodyPost P fn (fun e w' => e = .returned (.tuple #[]) ∧ Z w')))) : ∀ w, Ok w0 M w → CallsDIn Fence.wide 1 P f vs.toArray u w (fun e x w' => e = .returned (.tuple #[]) ∧ x = u' ∧ Z w') := fun w hw => by
 have hl' : vs.length ≤ N := Nat.le_of_ble_eq_true hl
 refine callsDIn_of_wpSIn hf hb trivial fun c₀ cs hu => (wpSIn_seq (wpSIn_region ?_))
 have hen : EnvOk N [] (mU 0 vs) { tmps := vs.toArray ++ Array.replicate (fn.ntmps - vs.toArray.size) undef, defers := [] } := by
  refine ⟨by simp [hN]; omega, rfl, fun d v hd => ?_⟩
  obtain ⟨_, hv⟩ := qT vs 0 d v hd
  have hd' : d < vs.length := by
   have := (List.getElem?_eq_some_iff.1 hv).1; omega
  simp only [Nat.sub_zero] at hv
  simp [Array.getElem?_append, hd', hv]
  have := List.getElem?_eq_some_iff.1 hv
  obtain ⟨_, h2⟩ := this
  exact h2
 have hgo : ∀ cs', cs' = { c₀ with mode := u' } :: cs → ∀ a, EnvOk N [] (mU 0 vs) a →
   Exit.thenS (rest.wpSIn Fence.wide 1 P (bodyPostS P fn c₀ cs fun e x w' => e = .returned (.tuple #[]) ∧ x = u' ∧ Z w')) (bodyPostS P fn c₀ cs fun e x w' => e = .returned (.tuple #[]) ∧ x = u' ∧ Z w') .normal ((a.put (some d0) v).put (some d1) v) cs' w := by
  intro cs' hcs a ha
  have := h _ _ ((ha.put h0 v).put h1 v) hw
  refine wpSIn_of_wpIn rfl ((wpIn_wide (n := 1)).2 (wp_mono this fun e a w q => ?_))
  subst hcs
  cases e with
  | normal => obtain ⟨q1, y, q2, q3, q4⟩ := q; exact ⟨q1, u', rfl, y, q2, q3, rfl, q4⟩
  | ret => obtain ⟨q1, y, q2, q3, q4⟩ := q; exact ⟨q1, u', rfl, y, q2, q3, rfl, q4⟩
  | panic c => obtain ⟨q1, q2, q3⟩ := q; cases q2
  | outgrown => obtain ⟨q1, q2⟩ := q; cases q1
  | exit i => exact q
  | goto i => exact q
 have hr1 : ∀ (a : Act) (w : World), (execOp a.eval ⟨some d0, .call { callee := .builtin .recover, args := #[], argTypes := #[] }, T0, p0, a0, none⟩).run P w = .ok .recover w := fun a w => by
  simp [execOp, resolve, invoke, builtin]
 have hr2 : ∀ (a : Act) (w : World), (execOp a.eval ⟨some d1, .assign (.tmp d0), T1, p1, a1, none⟩).run P w = .ok (.value (a.eval (.tmp d0))) w := fun a w => by simp [execOp]
 have hev : ∀ (a : Act) (x : Value), EnvOk N [] (mU 0 vs) a → (a.put (some d0) x).eval (.tmp d0) = x := fun a x ha => (ha.put h0 x).op (by simp [dM.op, dM.get])
 have hrange : List.range (#[(⟨some d0, .call { callee := .builtin .recover, args := #[], argTypes := #[] }, T0, p0, a0, none⟩ : Oper), ⟨some d1, .assign (.tmp d0), T1, p1, a1, none⟩]).size = [0, 1] := rfl
 rw [hrange]
 refine s_rec (fun _ => trivial) rfl rfl (hr1 _ _) (fun e => ?_) (fun x cs' e => ?_)
 ·rcases hrec c₀ cs hu with ⟨e1, e2, e3⟩ | e1
  ·subst e2 e3
   refine s_val (fun _ => trivial) rfl rfl ((hr2 _ _).trans (congrArg (fun y => Result.ok (Next.value y) w) (hev _ _ hen))) ?_
   simp only [wpOpsSIn]
   exact hgo (c₀ :: cs) (by rw [← hu]) _ hen
  ·rw [e1] at e; cases e
 ·rcases hrec c₀ cs hu with ⟨e1, e2, e3⟩ | e1
  ·rw [e1] at e; cases e
  ·rw [e1] at e; cases e
   refine s_val (fun _ => trivial) rfl rfl ((hr2 _ _).trans (congrArg (fun y => Result.ok (Next.value y) w) (hev _ _ hen))) ?_
   simp only [wpOpsSIn]
   exact hgo _ rfl _ hen
theorem aV6 {fn : Func} {R : Ending → World → Prop} {s T b k D : Nat} {f : FuncId} {cap : Array Value} {v : Value} {M' : List Ent} (hr : fn.results = #[.cell s T]) (hT : bY P T = some none) (hs : env.get s = some (.pointer (some ⟨b, k, none⟩)))
  (he : aV P f) (hM : M.Perm (jV D :: M')) (hm : Rd w0 M' ⟨b, k, none⟩ v)
  (hc : ∀ w, Ok w0 M' w → CallsDIn Fence.wide 1 P f cap .returning w (fun e x w' => e = .returned (.tuple #[]) ∧ x = .returning ∧ Ok w0 M' w'))
  (h : ∀ w, Ok w0 M' w → R (.returned v) w) : Tr w0 N [uQ D, defC f cap] env M (bodyPostM Fence.wide 2 P fn R .ret) := fun a w ha hw => by
 simp only [bodyPostM, ha.defers]
 refine oX (by simp) (hw.perm hM) fun w' hw' => wQ (by simp) he (hc w' hw') fun w2 hw2 => ?_
 have h3 := ha.get s _ hs
 have h4 : a.tmps.getD s undef = .pointer (some ⟨b, k, none⟩) := by simp [Array.getD_eq_getD_getElem?, h3]
 refine ⟨v, ?_, h w2 hw2⟩
 simp only [results, hr]
 simp [h3, asAddr, loadVar, mF hT, hm w2 hw2]
theorem bF0 {fn : Func} {R : Ending → World → Prop} {s T b k D : Nat} {f : FuncId} {cap : Array Value} {v x : Value} {M' M2 : List Ent} (hr : fn.results = #[.cell s T]) (hT : bY P T = some none) (hs : env.get s = some (.pointer (some ⟨b, k, none⟩)))
  (he : aV P f) (hM : M.Perm (jV D :: M')) (hm : Rd w0 M2 ⟨b, k, none⟩ v)
  (hc : ∀ w, Ok w0 M' w → CallsDIn Fence.wide 1 P f cap (.panicking [{ v := x, recovered := false }]) w (fun e u w' => e = .returned (.tuple #[]) ∧ u = .panicking [{ v := x, recovered := true }] ∧ Ok w0 M2 w'))
  (h : ∀ w, Ok w0 M2 w → R (.returned v) w) : Tr w0 N [uQ D, defC f cap] env M (bodyPostM Fence.wide 2 P fn R (.panic [{ v := x, recovered := false }])) := fun a w ha hw => by
 simp only [bodyPostM, ha.defers]
 refine oX (by simp) (hw.perm hM) fun w' hw' => wQ (by simp) he (hc w' hw') fun w2 hw2 => ?_
 have h3 := ha.get s _ hs
 refine ⟨v, ?_, h w2 hw2⟩
 simp only [results, hr]
 simp [h3, asAddr, loadVar, mF hT, hm w2 hw2]
end
end Go.Sl
set_option linter.unusedVariables false
set_option linter.unusedSectionVars false
set_option linter.unusedSimpArgs false
namespace Go.Sl
open Go
section
variable {P : Program} {w0 : World} {N : Nat} {ds : List Deferred} {env : dM} {M : List Ent} {t : TypeId}
theorem rU {T yT : TypeId} {x : Operand} {c : Value} (hT : P.isIface T = true) (hx : env.op x = some .nilIface) (hc : c = .nilIface) :
  fL P w0 N ds env M (.binOp .neq T x (.const c) yT) t (.bool false) := by
 subst hc
 exact gO hx rfl (by cases x <;> rfl) fun w => run_neq_nil_nil_at w T hT
theorem aE8 {T yT : TypeId} {x y : Operand} {T' : TypeId} {v : Value} (hT : P.isIface T = true) (hx : env.op x = some (.iface T' v)) (hy : env.op y = some .nilIface) :
  fL P w0 N ds env M (.binOp .neq T x y yT) t (.bool true) := gO hx hy (eqGuard_at_iface _ _ _ _ _ _ _) fun w => run_neq_iface_nil w T hT T' v
end
end Go.Sl
set_option linter.unusedVariables false
set_option linter.unusedSectionVars false
set_option linter.unusedSimpArgs false
namespace Go.Sl
open Go
section
variable {P : Program} {Q : Exit → Act → World → Prop} {w0 : World} {N : Nat} {ds : List Deferred} {env : dM} {M : List Ent} {t : TypeId} {Φ : Act → World → Prop}
 {pos : String} {af : Array Edge} {d : Nat} {g : Option (Nat × Bool)}
theorem wS {xT yT : TypeId} {x y : Operand} {k k' : IntKind} {i j : Int} (hx : env.op x = some (.int k i)) (hy : env.op y = some (.int k' j)) (hj : 0 ≤ j) :
  fL P w0 N ds env M (.binOp .shr xT x y yT) t (.int k (i.fdiv (2 ^ (min j.toNat k.bits)))) := gO hx hy (eqGuard_at_int _ _ _ _ _ _ _) fun w => by
 have : ¬ j < 0 := by omega
 simp [binOp_shr, Op.shift, this]
theorem r_shl {xT yT : TypeId} {x y : Operand} {k k' : IntKind} {i j : Int} (hx : env.op x = some (.int k i)) (hy : env.op y = some (.int k' j)) (hj : 0 ≤ j) :
  fL P w0 N ds env M (.binOp .shl xT x y yT) t (.int k (k.wrap (i * 2 ^ (min j.toNat k.bits)))) := gO hx hy (eqGuard_at_int _ _ _ _ _ _ _) fun w => by
 have : ¬ j < 0 := by omega
 simp [binOp_shl, Op.shift, this]
abbrev kC (l : List UInt8) : List Value := l.map fun b => .int .u8 (b.toNat : Int)
theorem aP8 {src dst e : TypeId} {x : Operand} {A : Addr} {n c : Nat} {l : List UInt8} (hs : P.underlying src = some (.slice e)) (he : P.underlying e = some (.int .u8)) (hd : P.underlying dst = some .string)
  (hx : env.op x = some (.slice (some A) n c)) (hn : l.length = n) (hr : ∀ j (hj : j < l.length), Rd w0 M (A.add j) (.int .u8 (l[j].toNat : Int))) :
  fL P w0 N ds env M (.convert src dst x) t (.string ⟨l.toArray⟩) := fun a w pos af g dst' ha hw => by
 subst hn
 simp [execOp, ha.op hx, run_convert_bytes_back w src dst e A c l hs he hd (fun j hj => hr j hj w hw)]
theorem aY1 {aT e : TypeId} {x lo : Operand} {n b o z : Nat} {k : IntKind} {i : Int} (j : Nat) (hT : P.underlying aT = some (.array n e)) (hi : (P.info? e).map (·.size) = some z)
  (hx : env.op x = some (.pointer (some ⟨b, o, none⟩))) (hl : env.op lo = some (.int k i)) (hj : i = (j : Int)) (hn : j < n) :
  fL P w0 N ds env M (.slice aT x (some lo) none none) t (.slice (some ⟨b, o + j * z, none⟩) (n - j) (n - j)) := fun a w pos af g dst ha hw => by
 obtain ⟨inf, hinf, hz⟩ := Option.map_eq_some_iff.1 hi
 subst hj
 have he : P.elem aT = e := by simp [Program.elem, hT]
 have hn' : P.arrayLen aT = n := by simp [Program.arrayLen, hT]
 have hT' : P.underlying aT = some (.array (P.arrayLen aT) (P.elem aT)) := by rw [he, hn']; exact hT
 have h1 := run_sliceAt_array_l (P := P) w aT ⟨b, o, none⟩ hT' k (j : Int) (by omega) (by rw [hn']; omega)
 have hne : ¬ n = j := by omega
 simp [execOp, ha.op hx, ha.op hl, h1, he, hn', sizeOf, typeInfo, hinf, hz, slicedAt, hne, Addr.add_lit]
theorem aP9 {src dst e : TypeId} {x : Operand} {s : ByteArray} (hs : P.underlying src = some .string) (hd : P.underlying dst = some (.slice e)) (he : P.underlying e = some (.int .u8)) (hx : env.op x = some (.string s)) (hdn : Nat.ble (d + 1) N = true)
  (k : ∀ b c cs fr, (∀ j (hj : j < s.size), cs[j]? = some (.int .u8 ((s.get! j).toNat : Int))) → Tr w0 N ds ((d, .slice (some ⟨b, 0, none⟩) s.size c) :: env) (⟨b, .cells cs e fr⟩ :: M) Φ) :
  Eff P Q w0 N ds env M ⟨some d, .convert src dst x, t, pos, af, g⟩ Φ := fun a w ha hw => by
 have h1 := run_bytes_of_string (P := P) w src dst e s hs hd he
 simp only [Oper.wp, execOp, ha.op hx, Sem.run_bind, h1, Result.andThen_ok, Oper.upon, Sem.run_pure]
 have hok := (hw.drew).alloc (.cells (bytesRow s (grownCap w s.size 0 e)) e ((bytesRow s (grownCap w s.size 0 e)).size, (bytesRow s (grownCap w s.size 0 e)).size + 1))
 refine k w.heap.size _ _ _ (fun j hj => ?_) _ _ (ha.put hdn _) hok
 rw [bytesRow_at s _ j hj]
 have : s.get! j = s.data[j]'hj := by
  show s.data[j]! = _
  exact getElem!_pos s.data j hj
 rw [this]
end
end Go.Sl
set_option linter.unusedVariables false
set_option linter.unusedSectionVars false
set_option linter.unusedSimpArgs false
namespace Go.Sl
open Go
abbrev fM (l : List UInt8) : List (List Value) := l.map fun b => [Value.int .u8 (b.toNat : Int)]
theorem mB : ∀ l : List UInt8, bT (fM l) = kC l
 | [] => rfl
 | b :: l => by
  have := mB l
  simp [bT] at this ⊢
  exact this
section
variable {P : Program} {Q : Exit → Act → World → Prop} {w0 : World} {N : Nat} {ds : List Deferred} {env : dM} {M : List Ent} {t : TypeId} {Φ : Act → World → Prop}
 {pos : String} {af : Array Edge} {d : Nat} {g : Option (Nat × Bool)}
theorem aL4 {T U e : TypeId} {s y : Operand} {v : Value} {str : ByteArray} {bs : List UInt8} {E Fr : List Ent} (hT : P.underlying T = some (.slice e)) (hU : P.underlying U = some .string)
  (hz : (P.info? e).map (fun i => (i.zero, i.size, i.bytes)) = some (some (.int .u8 0), 1, 1))
  (hs : env.op s = some v) (hy : env.op y = some (.string str)) (hown : Own e 1 v (fM bs) E) (hM : M.Perm (E ++ Fr))
  (hb : bs.length + str.size ≤ 140737488355328) (hd : Nat.ble (d + 1) N = true) (h0 : 0 < str.size)
  (k : ∀ v' E', Own e 1 v' (fM (bs ++ str.data.toList)) E' → v'.oneCell' = true → Tr w0 N ds ((d, v') :: env) (E' ++ Fr) Φ) :
  Eff P Q w0 N ds env M ⟨some d, .call { callee := .builtin .append, args := #[s, y], argTypes := #[T, U] }, t, pos, af, g⟩ Φ := fun a w ha hw => by
 obtain ⟨i, hi, hh⟩ := Option.map_eq_some_iff.1 hz
 simp only [Prod.mk.injEq] at hh
 obtain ⟨hz0, hz1, hz2⟩ := hh
 have hw' := hw.perm hM
 have hlen : bs.length + str.size ≤ maxLen := by unfold maxLen; omega
 have hbl : (fM bs).length = bs.length := by simp
 have hfl : (bT (fM bs)).length = bs.length * 1 := by rw [mB]; simp
 have hrow : w.ownsRow w0.heap.size e 1 v bs.length (bT (fM bs)) := by
  rcases hown.sh with ⟨rfl, h1, rfl⟩ | ⟨b, c, l, rfl, rfl, h2, h3, h4, h5⟩
  ·have : bs = [] := by simpa using h1
   subst this
   exact ⟨by simp [bT], .inl ⟨rfl, rfl⟩⟩
  ·rw [hbl] at h3 h5 ⊢
   exact aG9 hw' (by simp) h2 h3 h4 h5 hfl
 obtain ⟨v', w', hr, ho', hg, _⟩ := Lib.run_append_own_string (P := P) w w0.heap.size T U t e i hT hU hi hz0 hz1 hz2 v bs.length (bT (fM bs)) hrow str hlen hb hw.size
 have hfl' : bT (fM bs) ++ Lib.strCells str = bT (fM (bs ++ str.data.toList)) := by
  rw [mB, mB]; simp [Lib.strCells]
 rw [hfl'] at ho'
 have hsz : str.data.toList.length = str.size := by rw [Array.length_toList]; rfl
 have hln : (fM (bs ++ str.data.toList)).length = bs.length + str.size := by simp [hsz]
 have hat : ∀ b' n' c', v' = .slice (some ⟨b', 0, none⟩) n' c' → b' = w.heap.size ∨ some b' = v.ownBlock := by
  intro b' n' c' hv'
  subst hv'
  rcases hown.sh with ⟨rfl, h1, rfl⟩ | ⟨b, c, l, rfl, rfl, h2, h3, h4, h5⟩
  ·have h2 := run_append_nil_string (P := P) w T U t e i (.int .u8 0) hT hU hi hz0 str h0 (by unfold maxLen at hlen; omega) (by rw [hz2]; omega)
   rw [h2] at hr
   cases hr
   exact .inl rfl
  ·rw [hbl] at h3 h5 hr
   have hmem := hw'.mem (cel b e l) (by simp)
   simp only [cel] at hmem
   by_cases hroom : bs.length + str.size ≤ c
   ·have h6 := Lib.run_append_room_string (P := P) w T U t e i hT hU hi hz1 b bs.length c l.toArray hmem str hroom (by simp; omega)
    rw [h6] at hr
    cases hr
    exact .inr rfl
   ·have hcells : ∀ j u, (bT (fM bs))[j]? = some u → w.cell? ((⟨b, 0, none⟩ : Addr).add j) = some u := fun j u hj => by
     rw [Addr.add_lit]
     refine qQ (M := [cel b e l] ++ Fr) (cs := l.toArray) (e := e) (fr := (0, 0)) (by simp) ?_ w hw'
     rw [← h5, Nat.mul_one] at hj
     have hjl : j < bs.length := by
      rcases Nat.lt_or_ge j bs.length with h | h
      ·exact h
      ·rw [List.getElem?_eq_none (by simp; omega)] at hj; cases hj
     rw [List.getElem?_take_of_lt hjl] at hj
     simpa using hj
    have h6 := Lib.run_append_grow_string (P := P) w T U t e i (.int .u8 0) hT hU hi hz0 ⟨b, 0, none⟩ bs.length c (bT (fM bs)) (by rw [hz1]; exact hfl) hcells str (by omega) (by unfold maxLen at hlen; omega) (by rw [hz2]; exact growslice_fits (by omega) (by omega))
    rw [h6] at hr
    cases hr
    exact .inl rfl
 simp only [Oper.wp, execOp, resolve, invoke, builtin, ha.op hs, ha.op hy, Sem.run_bind, Sem.run_pure, Result.andThen_ok, List.map_cons, List.map_nil, List.map_toArray, hr, Oper.upon]
 rcases ho'.2 with ⟨_, h⟩ | ⟨b', c', cur, rfl, hbb, hheap, hle, hmax, hsz, htk⟩
 ·omega
 ·refine k _ [cel b' e cur.toList] ⟨fun x hx => by obtain ⟨b, _, rfl⟩ := List.mem_map.1 hx; rfl, .inr ⟨b', c', cur.toList, by rw [hln], rfl, by simpa using hsz, by rw [hln]; omega, hmax, by rw [hln]; exact htk⟩⟩ rfl _ _ (ha.put hd _) ?_
  have hnd := hw'.nodup
  have hFr : ∀ f ∈ Fr, f.b < w.heap.size := fun f hf => hw'.lt (by simp [hf])
  have hne : ∀ f ∈ Fr, f.b ≠ b' ∧ w'.heap[f.b]? = w.heap[f.b]? := by
   intro f hf
   have hlt := hFr f hf
   have hat := hat _ _ _ rfl
   rcases hown.sh with ⟨rfl, _, rfl⟩ | ⟨b, c, l, rfl, rfl, h2, h3, h4, h5⟩
   ·have hb' : b' = w.heap.size := by simpa [Value.ownBlock] using hat
    exact ⟨by omega, hg.block _ hlt (by simp [Value.ownBlock])⟩
   ·have hfb : f.b ≠ b := by
     intro e'
     simp at hnd
     exact hnd.1 f hf e'
    have hblk := hg.block _ hlt (by simp [Value.ownBlock]; exact hfb)
    simp [Value.ownBlock] at hat
    rcases hat with hat | hat
    ·exact ⟨by omega, hblk⟩
    ·exact ⟨by rw [hat]; exact hfb, hblk⟩
  refine ⟨hg.os.trans hw.os, hg.tape.trans hw.tape, hg.output.trans hw.output, Nat.le_trans hw.size hg.size, fun c hc => ?_, ?_, ?_, ?_⟩
  ·rw [hg.block c (Nat.lt_of_lt_of_le hc hw.size) ?_]
   ·exact hw.old c hc
   ·rcases hown.sh with ⟨rfl, _, rfl⟩ | ⟨b, c2, l, rfl, rfl, h2, h3, h4, h5⟩
    ·simp [Value.ownBlock]
    ·have := hw'.fresh (cel b e l) (by simp)
     simp [Value.ownBlock]; simp at this; omega
  ·simp only [List.singleton_append, List.map_cons, List.nodup_cons]
   refine ⟨fun hm => ?_, ?_⟩
   ·obtain ⟨f, hf, hfe⟩ := List.mem_map.1 hm
    exact (hne f hf).1 hfe
   ·simp only [List.map_append] at hnd
    exact (List.nodup_append.1 hnd).2.1
  ·intro f hf
   simp only [List.singleton_append, List.mem_cons] at hf
   rcases hf with rfl | hf
   ·exact hbb
   ·exact hw'.fresh f (by simp [hf])
  ·intro f hf
   simp only [List.singleton_append, List.mem_cons] at hf
   rcases hf with rfl | hf
   ·simpa using hheap
   ·rw [(hne f hf).2]; exact hw'.mem f (by simp [hf])
theorem tE {b : Nat} {T : TypeId} {l : List Value} {w : World} (h : w.heap[b]? = some (cel b T l).o) : w.shape? b = some (T, l.length) := by
 simp [World.shape?, h, cel]
theorem aQ0 {src dst s : TypeId} {x : Operand} {b z : Nat} {T : TypeId} {l : List Value} (hs : P.underlying src = some (.pointer s)) (hd : P.underlying dst = some .unsafePointer) (hz : (P.info? s).map (·.size) = some z) (hz0 : z ≠ 0)
  (hx : env.op x = some (.pointer (some ⟨b, 0, none⟩))) (hm : cel b T l ∈ M) (hl : 0 < l.length) : fL P w0 N ds env M (.convert src dst x) t (.pointer (some ⟨b, 0, none⟩)) := fun a w pos af g dst' ha hw => by
 obtain ⟨i, hi, hiz⟩ := Option.map_eq_some_iff.1 hz
 have h := Lib.run_to_unsafe (P := P) w (src := src) (dst := dst) (t := s) (j := i) (⟨b, 0, none⟩ : Addr) hs hd hi (by rw [hiz]; exact hz0) (tE (hw.mem _ hm)) hl
 simp [execOp, ha.op hx, h]
theorem aE9 {src dst u : TypeId} {x : Operand} {b : Nat} {T : TypeId} {l : List Value} {n : Nat} (hs : P.underlying src = some .unsafePointer) (hd : P.underlying dst = some (.pointer u)) (hz : (P.info? u).isSome = true)
  (hx : env.op x = some (.pointer (some ⟨b, 0, none⟩))) (hm : cel b T l ∈ M) (hl : l.length = n) (hlies : liesAt P P.depth T (n / P.cellsOf T) 0 u 1 = true) : fL P w0 N ds env M (.convert src dst x) t (.pointer (some ⟨b, 0, none⟩)) := fun a w pos af g dst' ha hw => by
 obtain ⟨j, hj⟩ := Option.isSome_iff_exists.1 hz
 subst hl
 have h := Lib.run_from_unsafe (P := P) w (src := src) (dst := dst) (u := u) (j := j) (⟨b, 0, none⟩ : Addr) hs hd hj (tE (hw.mem _ hm)) hlies
 simp [execOp, ha.op hx, h]
theorem aL5 {T e yT : TypeId} {x y : Operand} {A : Addr} (hT : P.underlying T = some (.pointer e)) (hi : (P.info? e).isSome = true) (hx : env.op x = some (.pointer (some A))) (hy : env.op y = some (.pointer (some A))) :
  fL P w0 N ds env M (.binOp .neq T x y yT) t (.bool false) := by
 obtain ⟨j, hj⟩ := Option.isSome_iff_exists.1 hi
 exact gO hx hy (eqGuard_at_pointer _ _ _ _ _ _) fun w => Lib.run_neq_ptr_same w A hT hj
theorem aQ1 {f : FuncId} {x : Operand} {AT : Array TypeId} {v : Value} (h : wP P f Extern.AbiNoEscape.same) (hx : env.op x = some v) (hd : Nat.ble (d + 1) N = true)
  (k : Tr w0 N ds ((d, v) :: env) M Φ) : Eff P Q w0 N ds env M ⟨some d, .call { callee := .value (.func f), args := [x].toArray, argTypes := AT }, t, pos, af, g⟩ Φ :=
 aY0 (vs := [v]) h (by simp [dM.opl, hx]) hd fun w hw => ⟨v, w, Lib.run_noEscape w v, M, hw, k⟩
theorem rV {x : Operand} {T : Array TypeId} {A : Addr} {n c : Nat} (hx : env.op x = some (.slice (some A) n c)) (hc : 0 < c) :
  fL P w0 N ds env M (.call { callee := .builtin .unsafeSliceData, args := #[x], argTypes := T }) t (.pointer (some A)) := fun a w pos af g dst ha hw => by
 have h := Lib.run_unsafeSliceData_row (P := P) w T t A n c (by omega)
 simp [execOp, resolve, invoke, builtin, ha.op hx, h]
theorem wT {x y : Operand} {pt it e : TypeId} {b : Nat} {l : List Value} {bs : List UInt8} {Fr : List Ent} (hp : P.underlying pt = some (.pointer e)) (hc : P.cellsOf e = 1) (hx : env.op x = some (.pointer (some ⟨b, 0, none⟩))) (hy : env.op y = some (.int .i64 (bs.length : Int)))
  (hM : M.Perm (cel b e l :: Fr)) (hl : l.take bs.length = kC bs) (h0 : 0 < bs.length) (h63 : bs.length ≤ 140737488355328) (hd : Nat.ble (d + 1) N = true) (k : Tr w0 N ds ((d, .string ⟨bs.toArray⟩) :: env) Fr Φ) :
  Eff P Q w0 N ds env M ⟨some d, .call { callee := .builtin .unsafeString, args := #[x, y], argTypes := #[pt, it] }, t, pos, af, g⟩ Φ := fun a w ha hw => by
 have hw' := hw.perm hM
 have hmem := hw'.mem (cel b e l) (by simp)
 have hlen : bs.length ≤ l.length := by
  have := congrArg List.length hl
  simp at this; omega
 have hr := Lib.run_unsafeString_row (P := P) w pt it t e hp hc b l.length (tE hmem) bs (by intro h; subst h; simp at h0) hlen (by omega) (fun j y hj => by
  rw [Addr.add_lit]
  refine qQ (M := cel b e l :: Fr) (cs := l.toArray) (e := e) (fr := (0, 0)) (by simp) ?_ w hw'
  have h2 : (kC bs)[j]? = some (.int .u8 (y.toNat : Int)) := by simp [kC, hj]
  rw [← hl] at h2
  have hjl : j < bs.length := (List.getElem?_eq_some_iff.1 hj).1
  rw [List.getElem?_take_of_lt hjl] at h2
  simpa using h2)
 simp only [Oper.wp, execOp, resolve, invoke, builtin, ha.op hx, ha.op hy, Sem.run_bind, Sem.run_pure, Result.andThen_ok, List.map_cons, List.map_nil, List.map_toArray, hr, Oper.upon]
 refine k _ _ (ha.put hd _) ?_
 have hnd := hw'.nodup
 simp only [List.map_cons, List.nodup_cons] at hnd
 have hb := hw'.fresh (cel b e l) (by simp)
 have hoth : ∀ c, c ≠ b → (w.freeze ⟨b, 0, none⟩ bs.length).heap[c]? = w.heap[c]? := fun c hcb => by
  unfold World.freeze
  split
  ·rfl
  ·simp [Array.getElem?_modify, Ne.symm hcb]
 have hsize : (w.freeze ⟨b, 0, none⟩ bs.length).heap.size = w.heap.size := by
  unfold World.freeze
  split <;> simp
 have h1 : (w.freeze ⟨b, 0, none⟩ bs.length).os = w.os := by unfold World.freeze; split <;> rfl
 have h2 : (w.freeze ⟨b, 0, none⟩ bs.length).tape = w.tape := by unfold World.freeze; split <;> rfl
 have h3 : (w.freeze ⟨b, 0, none⟩ bs.length).output = w.output := by unfold World.freeze; split <;> rfl
 refine ⟨h1.trans hw'.os, h2.trans hw'.tape, h3.trans hw'.output, by rw [hsize]; exact hw'.size, fun c hc => ?_, hnd.2, fun f hf => hw'.fresh f (by simp [hf]), fun f hf => ?_⟩
 ·rw [hoth c (by simp at hb; omega)]; exact hw'.old c hc
 ·rw [hoth f.b (fun e' => hnd.1 (List.mem_map.2 ⟨f, hf, e'⟩))]; exact hw'.mem f (by simp [hf])
end
section
variable {P : Program} {Q : Exit → Act → World → Prop} {w0 : World} {N : Nat} {ds : List Deferred} {env : dM} {M S1 S2 : List Ent} {ops : Array Oper}
theorem wU {id n : Nat} (k : Nat) (hm : P.follows .mixedOrders = true) (hn : ops.size = n) (h : Tr w0 N ds env M (WK P w0 ops Q k S1 S2 n (Array.replicate n false))) :
  Tr w0 N ds env M ((Code.region id ops true).wp P Q) := fun a w ha hw => by
 subst hn
 exact wp_region_any hm (qG _ _ _ _ (h a _ ha (hw.drawn _)))
end
section
variable {P : Program} {Q : Exit → Act → World → Prop} {w0 : World} {N : Nat} {ds : List Deferred} {env : dM} {M : List Ent} {t : TypeId} {Φ : Act → World → Prop}
 {pos : String} {af : Array Edge} {d : Nat} {g : Option (Nat × Bool)}
theorem SlRd.perm {M' : List Ent} {z n : Nat} {A : Option Addr} {xs : List (List Value)} (h : SlRd w0 M z A n xs) (hp : M.Perm M') : SlRd w0 M' z A n xs :=
 ⟨h.len, h.wide, h.big, fun h0 => let ⟨b, o, hA, hr⟩ := h.at' h0; ⟨b, o, hA, fun j x hj k v hk w hw => hr j x hj k v hk w (hw.perm hp.symm)⟩⟩
theorem bF1 {α : Type} {f : FuncId} {x : Operand} {name : String} {T : TypeId} {v : Value} {xs : List Operand} {AT : Array TypeId} {vs : List Value} {ret : α → Value} {φ : α → Prop} {M' : α → List Ent} (hm : ∀ w : World, (method (P.types.size + Made.depth) T v name).run P w = .ok (f, v) w) (he : aV P f)
  (hx : env.op x = some (.iface T v)) (hxs : env.opl xs = some vs) {args : Array Value} (hargs : #[v] ++ vs.toArray = args) (hd : Nat.ble (d + 1) N = true)
  (hc : ∀ w, Ok w0 M w → Calls P f args w (fun e w' => ∃ x, e = .returned (ret x) ∧ φ x ∧ Ok w0 (M' x) w'))
  (hk : ∀ x, φ x → Tr w0 N ds ((d, ret x) :: env) (M' x) Φ) :
  Eff P Q w0 N ds env M ⟨some d, .call { callee := .invoke x name, args := xs.toArray, argTypes := AT }, t, pos, af, g⟩ Φ := fun a w ha hw => by
 have h1 := ha.opl hxs
 subst hargs
 have h2 : (callMethod (.iface T v) name vs.toArray).run P w = .ok (.enter f (#[v] ++ vs.toArray)) w := by
  simp only [callMethod, Sem.run_bind, run_program, Result.andThen_ok, hm, he _ _]
 have h3 : (#[Value.iface T v] ++ vs.toArray).extract 1 (#[Value.iface T v] ++ vs.toArray).size = vs.toArray := by simp
 have h4 : (#[Value.iface T v] ++ vs.toArray)[0]? = some (.iface T v) := by simp
 simp only [Oper.wp, execOp, resolve, ha.op hx, List.map_toArray, h1, Sem.run_bind, Sem.run_pure, Result.andThen_ok, invoke, h4, h3, h2, Oper.upon]
 refine (hc w hw).mono fun e w' ⟨y, h5, h6, h7⟩ => ?_
 subst h5
 exact hk y h6 _ _ (ha.put hd _) h7
end
end Go.Sl
set_option linter.unusedVariables false
set_option linter.unusedSectionVars false
set_option linter.unusedSimpArgs false
namespace Go.Sl
open Go
section
variable {P : Program} {Q : Exit → Act → World → Prop} {w0 : World} {N : Nat} {ds : List Deferred} {env : dM} {M : List Ent} {Y : Act → World → Prop}
theorem aF0 {α σ : Type} {g : Operand} {ps : Array Tmp} {assign body : Code} {gf : FuncId} {lb : Array Value} (hg : env.op g = some (.func (.func gf) #[] lb)) (eg : aV P gf)
  (encs : α → List Value) (hps : ∀ x, (encs x).length = ps.size) (hpN : ∀ p ∈ ps.toList, p < N) (xs : List α) (inv : List α → σ → Prop) (Me : σ → List Ent) (s0 : σ) (h0 : inv [] s0) (I : List Ent) (hM : M = I ++ Me s0)
  (hiter : ∀ l r Fr, Yields P w0 encs inv Me xs l r → ∀ w, Ok w0 (jX l r :: (I ++ (Fr ++ Me s0))) w → Calls P gf (#[.func (.yield l) #[] #[]] ++ lb) w (fun e w' => (∃ v, e = .returned v) ∧ ∃ s, inv xs s ∧ Ok w0 (jX l r :: (Fr ++ Me s)) w'))
  (hround : ∀ l r Fr pre x post, xs = pre ++ x :: post → ∀ s, inv pre s → Tr w0 N [] (aS3 ps.toList (encs x) env) (jX l r :: (Fr ++ Me s))
   (assign.wpIn (G (some l)) 0 P (Exit.then (tS P l (body.wpIn (G (some l)) 0 P (roundPost P l (aS4 w0 inv Me l r Fr (pre ++ [x]))))) (fun _ _ _ => False))))
  (hdone : ∀ D s, inv xs s → Tr w0 N (uQ D :: ds) env (jV D :: Me s) (Q .normal)) :
  Tr w0 N ds env M ((Code.rangeFunc g ps assign body).wp P Q) := fun a w ha hw => by
 subst hM
 refine (wpIn_wide (n := 2)).1 (wpIn_rangeFunc (F := Fence.wide) fun fn _ => ?_)
 obtain ⟨r, hr⟩ : ∃ r : Loop, r = { state := .ready, pending := none, fn, tmps := a.tmps, params := ps, assign, body, defers := w.heap.size } := ⟨_, rfl⟩
 have hr0 : (jX (w.heap.size + 1) r).o = .loop r := by rw [hr]
 obtain ⟨W1, hW1⟩ : ∃ W1, (w.alloc (.deferred (some []))).alloc (.loop r) = W1 := ⟨_, rfl⟩
 have hok : Ok w0 (jX (w.heap.size + 1) r :: (I ++ ([jV w.heap.size] ++ Me s0))) W1 := by
  have := (hw.alloc (.deferred (some []))).alloc (.loop r)
  rw [← hW1]
  rw [World.size_alloc] at this
  show Ok w0 (⟨w.heap.size + 1, .loop { r with state := .ready, pending := none }⟩ :: _) _
  have e : ({ r with state := .ready, pending := none } : Loop) = r := by rw [hr]
  rw [e]
  exact this.perm (List.Perm.cons _ List.perm_middle.symm)
 refine ⟨w.heap.size + 1, [uQ w.heap.size], W1, { target := .fn (.func gf) lb, args := #[.func (.yield (w.heap.size + 1)) #[] #[]] }, W1, gf,
  #[.func (.yield (w.heap.size + 1)) #[] #[]] ++ lb, W1, ?_, ?_, fun _ _ => trivial, ?_, fun h => by simp [Fence.wide] at h, ?_⟩
 ·rw [← hW1, hr]; exact run_enterLoop_outer _ _ _ _ _
 ·have hev := ha.op hg
  simp only [resolve, hev, Deferred.ofValue]
  simp [Act.eval]
 ·have := eg (#[.func (.yield (w.heap.size + 1)) #[] #[]] ++ lb) W1
  simpa [invoke] using this
 ·have hy : Yields P w0 encs inv Me xs (w.heap.size + 1) r := fun Fr pre x post hx s hs W hW => by
   have hl : W.heap[w.heap.size + 1]? = some (.loop { r with state := .ready, pending := none }) := hW.mem (jX (w.heap.size + 1) r) (by simp)
   have hsz : (encs x).toArray.size = ({ r with state := .ready, pending := none } : Loop).params.size := by rw [hr]; simpa using hps x
   refine ⟨_, _, _, _, run_yield hl hsz, roundIn_of_wpIn trivial ?_⟩
   have hen : EnvOk N [] env { tmps := a.tmps, defers := [] } := ⟨ha.size, rfl, ha.get⟩
   have := hround (w.heap.size + 1) r Fr pre x post hx s hs _ _ (aH7 ps.toList (encs x) env a.tmps hpN hen) hW
   rw [hr] at this ⊢
   simp only at this ⊢
   have ez : ((ps.zip (encs x).toArray).foldl (fun tmps (x : Tmp × Value) => tmps.setIfInBounds x.1 x.2) a.tmps) = ((ps.toList.zip (encs x)).foldl (fun t (p : Nat × Value) => t.setIfInBounds p.1 p.2) a.tmps) := by
    rw [← Array.foldl_toList]; simp
   rw [ez]
   exact this
  refine (aH3 (ro := none) (n := 1) (hiter (w.heap.size + 1) r [jV w.heap.size] hy W1 hok)).mono ?_
  rintro e W2 ⟨⟨v, rfl⟩, s, hs, hW2⟩
  have hl : W2.heap[w.heap.size + 1]? = some (.loop { r with state := .ready, pending := none }) := hW2.mem (jX (w.heap.size + 1) r) (by simp)
  refine ⟨none, _, run_endLoop hl (by simp), ?_⟩
  have hfin : Ok w0 (jV w.heap.size :: Me s) (W2.putObj (w.heap.size + 1) (.loop { r with state := .exhausted, pending := none })) :=
   (hW2.putObj (o' := .loop { r with state := .exhausted, pending := none }) .here).sub (List.sublist_cons_self _ _)
  exact hdone w.heap.size s hs _ _ ⟨ha.size, by simp [ha.defers], ha.get⟩ hfin
end
end Go.Sl
set_option linter.unusedVariables false
set_option linter.unusedSectionVars false
set_option linter.unusedSimpArgs false
namespace Go.Sl
open Go
section
variable {P : Program} {w0 : World} {N : Nat} {ds : List Deferred} {env : dM} {M : List Ent} {t : TypeId}
end
end Go.Sl
set_option linter.unusedVariables false
set_option linter.unusedSectionVars false
set_option linter.unusedSimpArgs false
namespace Go.Sl
open Go
def pP (P : Program) (T : TypeId) : Value → Value → Prop
 | .int k _, .int k' _ => k = k' ∧ P.underlying T = some (.int k)
 | .bool _, .bool _ => P.underlying T = some .bool
 | _, _ => False
def eqC : Value → Value → Bool
 | .int _ a, .int _ b => a == b
 | .bool a, .bool b => a == b
 | _, _ => false
def eqL : List Value → List Value → Bool
 | [], [] => true
 | x :: xs, y :: ys => eqC x y && eqL xs ys
 | _, _ => false
section
variable {P : Program} {w0 : World} {N : Nat} {ds : List Deferred} {env : dM} {M : List Ent} {t : TypeId}
theorem zV {T : TypeId} {x y : Value} (h : pP P T x y) {xs : List Value} {i : Nat} (hx : xs[i]? = some x) (w : World) : (part T xs.toArray i).run P w = .ok x w := by
 unfold pP at h
 split at h
 ·simp [part, isAgg, run_underlying h.2, hx]
 ·simp [part, isAgg, run_underlying h, hx]
 ·exact h.elim
theorem pP.symm {T : TypeId} {x y : Value} (h : pP P T x y) : pP P T y x := by
 unfold pP at h
 split at h
 ·exact ⟨h.1.symm, h.1 ▸ h.2⟩
 ·exact h
 ·exact h.elim
theorem flat_eq {T : TypeId} {x y : Value} (h : pP P T x y) (d : Nat) (w : World) : (Op.equalIn (d + 1) T x y).run P w = .ok (eqC x y) w := by
 unfold pP at h
 split at h
 ·obtain ⟨rfl, h⟩ := h; exact run_equalIn_int w d T _ _ _ _ h
 ·exact run_equalIn_bool w d T _ _ h
 ·exact h.elim
theorem wV {d : Nat} {xs ys : List Value} : ∀ (fs : List Field) (i : Nat), (∀ (j : Nat) (f : Field), fs[j]? = some f → f.name ≠ "_" ∧ f.offset = i + j ∧ ∃ x y, xs[i + j]? = some x ∧ ys[i + j]? = some y ∧ pP P f.type x y) → xs.length = i + fs.length → ys.length = i + fs.length →
  ∀ w, (Op.eqFields (d + 1) xs.toArray ys.toArray fs).run P w = .ok (eqL (xs.drop i) (ys.drop i)) w
 | [], i, _, hx, hy, w => by
  simp at hx hy
  rw [List.drop_eq_nil_of_le (by omega), List.drop_eq_nil_of_le (by omega)]; simp [Op.eqFields, eqL]
 | f :: fs, i, hf, hx, hy, w => by
  obtain ⟨h1, h2, x, y, hxi, hyi, hF⟩ := hf 0 f rfl
  simp at hx hy h2 hxi hyi
  have ih := wV (d := d) (xs := xs) (ys := ys) fs (i + 1) (fun j g hg => by
   obtain ⟨a, b, c⟩ := hf (j + 1) g (by simpa using hg)
   rw [show i + (j + 1) = i + 1 + j by omega] at b c
   exact ⟨a, b, c⟩) (by omega) (by omega) w
  have ex : xs.drop i = x :: xs.drop (i + 1) := by
   obtain ⟨h, e⟩ := List.getElem?_eq_some_iff.1 hxi
   rw [← e]; exact List.drop_eq_getElem_cons h
  have ey : ys.drop i = y :: ys.drop (i + 1) := by
   obtain ⟨h, e⟩ := List.getElem?_eq_some_iff.1 hyi
   rw [← e]; exact List.drop_eq_getElem_cons h
  simp only [Op.eqFields, h1, ne_eq, not_false_eq_true, if_true, Sem.run_bind, h2, zV hF hxi, zV hF.symm hyi, Result.andThen_ok, flat_eq hF]
  rw [ex, ey]
  simp only [eqL]
  cases eqC x y <;> simp [ih]
structure FlatT (P : Program) (T : TypeId) (F : List Field) (xs ys : List Value) : Prop where
 und : P.underlying T = some (.struct (P.fieldsOf T))
 held : P.stoodInHeld T = false
 grd : P.eqGuardType P.depth T = false
 fld : (P.fieldsOf T).toList = F
 cel : ∀ (j : Nat) (f : Field), F[j]? = some f → f.name ≠ "_" ∧ f.offset = j ∧ ∃ x y, xs[j]? = some x ∧ ys[j]? = some y ∧ pP P f.type x y
 lx : xs.length = F.length
 ly : ys.length = F.length
theorem FlatT.run {T : TypeId} {F : List Field} {xs ys : List Value} (h : FlatT P T F xs ys) (w : World) : (Op.equalIn 10000 T (.agg xs.toArray) (.agg ys.toArray)).run P w = .ok (eqL xs ys) w := by
 rw [run_equalIn_agg w 9999 T _ _ h.und h.held, h.fld, wV (d := 9998) F 0 (fun j f hj => by simpa using h.cel j f hj) (by simpa using h.lx) (by simpa using h.ly)]
 rfl
theorem r_neF {T yT : TypeId} {x y : Operand} {F : List Field} {xs ys : List Value} (h : FlatT P T F xs ys) (hx : env.op x = some (.agg xs.toArray)) (hy : env.op y = some (.agg ys.toArray)) :
  fL P w0 N ds env M (.binOp .neq T x y yT) t (.bool (!eqL xs ys)) := fun A w pos af g dst ha hw => by
 simp [execOp, ha.op hx, ha.op hy, run_eqGuard_agg _ _ _ _ _ _ _ h.grd, run_neq_struct, h.run w]
end
end Go.Sl
set_option linter.unusedVariables false
set_option linter.unusedSectionVars false
namespace Go.Sl
open Go
section
variable {P : Program} {w0 : World} {N : Nat} {ds : List Deferred} {env : dM} {M S S1 S2 : List Ent} {ops : Array Oper} {Q : Exit → Act → World → Prop} {rest : List Oper} {o : Op} {t : TypeId} {v : Value} {d k fuel : Nat} {pos : String} {af : Array Edge} {listed : Array Bool}
def okD (ops : Array Oper) (listed : Array Bool) (i : Nat) : Bool := Region.noSelect ops && (Region.free .any ops listed i && (Region.ready .any ops listed).contains i)
theorem uF {i : Nat} (h : okD ops listed i = true) : Region.noSelect ops = true := by simp [okD] at h; exact h.1
theorem uG {i : Nat} (h : okD ops listed i = true) : Region.free .any ops listed i = true := by simp [okD] at h; exact h.2.1
theorem uH {i : Nat} (h : okD ops listed i = true) : (Region.ready .any ops listed).contains i = true := by simp [okD] at h ⊢; exact h.2.2
theorem tv (hr : fL P w0 N ds env M o t v) (h : Tr w0 N ds ((d, v) :: env) M (wpList P ops Q rest)) (hd : Nat.ble (d + 1) N = true := by rfl) : Tr w0 N ds env M (wpList P ops Q (⟨some d, o, t, pos, af, none⟩ :: rest)) := t_val hr hd h
theorem te {oo : Oper} (h : Eff P Q w0 N ds env M oo (wpList P ops Q rest)) (hg : oo.guard = none := by rfl) : Tr w0 N ds env M (wpList P ops Q (oo :: rest)) := xM hg h
theorem cV {j s : Nat} {b : Bool} (hs : fY ops j = some s) (hb : env.get s = some (.bool b)) (hr : fL P w0 N ds env M o t v) (h : Tr w0 N ds ((d, v) :: env) M (wpList P ops Q rest)) (hd : Nat.ble (d + 1) N = true := by rfl) :
  Tr w0 N ds env M (wpList P ops Q (⟨some d, o, t, pos, af, some (j, b)⟩ :: rest)) := bI4 hs hb hr hd h
theorem bE {j s : Nat} {b c : Bool} (hc : c = b) (hs : fY ops j = some s) (hb : env.get s = some (.bool c)) (hr : fL P w0 N ds env M o t v) (h : Tr w0 N ds ((d, v) :: env) M (wpList P ops Q rest)) (hd : Nat.ble (d + 1) N = true := by rfl) :
  Tr w0 N ds env M (wpList P ops Q (⟨some d, o, t, pos, af, some (j, b)⟩ :: rest)) := g_val hc hs hb hr hd h
theorem dv (i : Nat) (hi : ops[i]? = some ⟨some d, o, t, pos, af, none⟩) (hSM : S.Sublist M) (hv : fL P w0 N ds env S o t v)
  (h : Tr w0 N ds ((d, v) :: env) M (wpAnyH P .any ops Q (Ok w0 S) fuel (listed.setIfInBounds i true))) (hk : okD ops listed i = true := by kernel_rfl) (hd : Nat.ble (d + 1) N = true := by rfl) (hQ : bK Q := by with_reducible (repeat (first | exact bK.body | exact bK.noPanic | apply bK.then | apply bK.inBlock))) :
  Tr w0 N ds env M (wpAnyH P .any ops Q (Ok w0 S) (fuel + 1) listed) := d_val i hi (uF hk) (uG hk) (uH hk) hQ hSM hd hv h
theorem eI (i : Nat) {j s : Nat} {b : Bool} (hi : ops[i]? = some ⟨some d, o, t, pos, af, some (j, b)⟩) (hSM : S.Sublist M) (hds : fY ops j = some s) (hb : env.get s = some (.bool b)) (hv : fL P w0 N ds env S o t v)
  (h : Tr w0 N ds ((d, v) :: env) M (wpAnyH P .any ops Q (Ok w0 S) fuel (listed.setIfInBounds i true))) (hk : okD ops listed i = true := by kernel_rfl) (hd : Nat.ble (d + 1) N = true := by rfl) (hQ : bK Q := by with_reducible (repeat (first | exact bK.body | exact bK.noPanic | apply bK.then | apply bK.inBlock))) :
  Tr w0 N ds env M (wpAnyH P .any ops Q (Ok w0 S) (fuel + 1) listed) := bI6 i hi (uF hk) (uG hk) (uH hk) hQ hSM hds hb hd hv h
theorem iJ (i : Nat) {j s : Nat} {b want : Bool} (hi : ops[i]? = some ⟨some d, o, t, pos, af, some (j, want)⟩) (hSM : S.Sublist M) (hds : fY ops j = some s) (hb : env.get s = some (.bool b))
  (h : Tr w0 N ds ((d, undef) :: env) M (wpAnyH P .any ops Q (Ok w0 S) fuel (listed.setIfInBounds i true))) (hk : okD ops listed i = true := by kernel_rfl) (hne : (b == want) = false := by rfl) (hd : Nat.ble (d + 1) N = true := by rfl) (hQ : bK Q := by with_reducible (repeat (first | exact bK.body | exact bK.noPanic | apply bK.then | apply bK.inBlock))) :
  Tr w0 N ds env M (wpAnyH P .any ops Q (Ok w0 S) (fuel + 1) listed) := aW7 i hi (uF hk) (uG hk) (uH hk) hQ hSM hds hb hne hd h
theorem oS (i : Nat) {j s : Nat} {want : Bool} (hi : ops[i]? = some ⟨some d, o, t, pos, af, some (j, want)⟩) (hSM : S.Sublist M) (hds : fY ops j = some s) (hb : env.get s = some undef)
  (h : Tr w0 N ds ((d, undef) :: env) M (wpAnyH P .any ops Q (Ok w0 S) fuel (listed.setIfInBounds i true))) (hk : okD ops listed i = true := by kernel_rfl) (hd : Nat.ble (d + 1) N = true := by rfl) (hQ : bK Q := by with_reducible (repeat (first | exact bK.body | exact bK.noPanic | apply bK.then | apply bK.inBlock))) :
  Tr w0 N ds env M (wpAnyH P .any ops Q (Ok w0 S) (fuel + 1) listed) := bI7 i hi (uF hk) (uG hk) (uH hk) hQ hSM hds hb hd h
theorem dS (i : Nat) {j s : Nat} {b c : Bool} (hc : c = b) (hi : ops[i]? = some ⟨some d, o, t, pos, af, some (j, b)⟩) (hSM : S.Sublist M) (hds : fY ops j = some s) (hb : env.get s = some (.bool c)) (hv : fL P w0 N ds env S o t v)
  (h : Tr w0 N ds ((d, v) :: env) M (wpAnyH P .any ops Q (Ok w0 S) fuel (listed.setIfInBounds i true))) (hk : okD ops listed i = true := by kernel_rfl) (hd : Nat.ble (d + 1) N = true := by rfl) (hQ : bK Q := by with_reducible (repeat (first | exact bK.body | exact bK.noPanic | apply bK.then | apply bK.inBlock))) :
  Tr w0 N ds env M (wpAnyH P .any ops Q (Ok w0 S) (fuel + 1) listed) := dg_val i hc hi (uF hk) (uG hk) (uH hk) hQ hSM hds hb hd hv h
theorem dR (i : Nat) {j s : Nat} {b c want : Bool} (hc : c = b) (hi : ops[i]? = some ⟨some d, o, t, pos, af, some (j, want)⟩) (hSM : S.Sublist M) (hds : fY ops j = some s) (hb : env.get s = some (.bool c))
  (h : Tr w0 N ds ((d, undef) :: env) M (wpAnyH P .any ops Q (Ok w0 S) fuel (listed.setIfInBounds i true))) (hk : okD ops listed i = true := by kernel_rfl) (hne : (b == want) = false := by rfl) (hd : Nat.ble (d + 1) N = true := by rfl) (hQ : bK Q := by with_reducible (repeat (first | exact bK.body | exact bK.noPanic | apply bK.then | apply bK.inBlock))) :
  Tr w0 N ds env M (wpAnyH P .any ops Q (Ok w0 S) (fuel + 1) listed) := dg_skip i hc hi (uF hk) (uG hk) (uH hk) hQ hSM hds hb hne hd h
theorem kv (i : Nat) (hi : ops[i]? = some ⟨some d, o, t, pos, af, none⟩) (hSM : S1.Sublist M) (hv : fL P w0 N ds env S1 o t v)
  (h : Tr w0 N ds ((d, v) :: env) M (WK P w0 ops Q k S1 S2 fuel (listed.setIfInBounds i true))) (hk : okD ops listed i = true := by kernel_rfl) (hik : Nat.beq i k = false := by rfl) (hw8 : rR ops k i = true := by kernel_rfl) (hkl : listed.getD k true = false := by kernel_rfl) (hd : Nat.ble (d + 1) N = true := by rfl) (hQ : bK Q := by with_reducible (repeat (first | exact bK.body | exact bK.noPanic | apply bK.then | apply bK.inBlock))) :
  Tr w0 N ds env M (WK P w0 ops Q k S1 S2 (fuel + 1) listed) := k_val i hi (uF hk) (uG hk) (uH hk) hik hw8 hkl hQ hSM hd hv h
theorem fX (i : Nat) (hi : ops[i]? = some ⟨some d, o, t, pos, af, none⟩) (hS12 : S2.Sublist S1) (hSM : S1.Sublist M) (hv : fL P w0 N ds env S2 o t v)
  (h : Tr w0 N ds ((d, v) :: env) M (WK P w0 ops Q k S1 S2 fuel (listed.setIfInBounds i true))) (hk : okD ops listed i = true := by kernel_rfl) (hik : Nat.beq i k = false := by rfl) (hkl : listed.getD k true = false := by kernel_rfl) (hd : Nat.ble (d + 1) N = true := by rfl) (hQ : bK Q := by with_reducible (repeat (first | exact bK.body | exact bK.noPanic | apply bK.then | apply bK.inBlock))) :
  Tr w0 N ds env M (WK P w0 ops Q k S1 S2 (fuel + 1) listed) := k_val1 i hi (uF hk) (uG hk) (uH hk) hik hkl hS12 hQ hSM hd hv h
theorem de (i : Nat) {oo : Oper} (hi : ops[i]? = some oo) (h : Eff P Q w0 N ds env M oo (fun a w => Ok w0 S w ∧ wpAnyH P .any ops Q (Ok w0 S) fuel (listed.setIfInBounds i true) a w)) (hr : Region.ready .any ops listed = [i] := by kernel_rfl) (hg : oo.guard = none := by rfl) :
  Tr w0 N ds env M (wpAnyH P .any ops Q (Ok w0 S) (fuel + 1) listed) := d_eff i hi hg hr h
end
end Go.Sl
