/-
 The logic of steps that the walks use, first half: nothing of the program is said here.
-/
import Derived.WalkKit
import Derived.KernelRfl
import Derived.OrdersHeld
import Derived.WalkSpells
import Derived.Maps.AppendAt
import Derived.Laws.Slices
import Derived.Laws.Strings2
import Derived.MapKept
import Derived.Maps.RangeRun
import Derived.Laws.StructEq
import Derived.Laws.Externs
import Derived.RangeFuncLeaves
import Derived.RangeFuncRecord
import Derived.RangeFuncSeq
import Derived.TacticsIn
set_option linter.unusedVariables false
set_option linter.unusedSectionVars false
namespace Go.Sl
open Go
structure Ent where
 b : Nat
 o : Obj
structure Ok (w0 : World) (M : List Ent) (w : World) : Prop where
 os : w.os = w0.os
 tape : w.tape = w0.tape
 output : w.output = w0.output
 size : w0.heap.size ≤ w.heap.size
 old : ∀ b, b < w0.heap.size → w.heap[b]? = w0.heap[b]?
 nodup : (M.map Ent.b).Nodup
 fresh : ∀ k ∈ M, w0.heap.size ≤ k.b
 mem : ∀ k ∈ M, w.heap[k.b]? = some k.o
theorem Ok.lt {w0 w : World} {M : List Ent} (h : Ok w0 M w) {k : Ent} (hk : k ∈ M) : k.b < w.heap.size :=
 (Array.getElem?_eq_some_iff.1 (h.mem k hk)).1
theorem Ok.sub {w0 w : World} {M M' : List Ent} (h : Ok w0 M w) (hs : M'.Sublist M) : Ok w0 M' w :=
 ⟨h.os, h.tape, h.output, h.size, h.old, h.nodup.sublist (hs.map _), fun k hk => h.fresh k (hs.subset hk), fun k hk => h.mem k (hs.subset hk)⟩
theorem Ok.perm {w0 w : World} {M M' : List Ent} (h : Ok w0 M w) (hp : M.Perm M') : Ok w0 M' w :=
 ⟨h.os, h.tape, h.output, h.size, h.old, (hp.map _).nodup_iff.1 h.nodup, fun k hk => h.fresh k (hp.mem_iff.2 hk), fun k hk => h.mem k (hp.mem_iff.2 hk)⟩
theorem Ok.push {w0 w : World} {M : List Ent} (h : Ok w0 M w) (o : Obj) : Ok w0 (⟨w.heap.size, o⟩ :: M) { w with heap := w.heap.push o } := by
 refine ⟨h.os, h.tape, h.output, ?_, ?_, ?_, ?_, ?_⟩
 ·have := h.size; simp; omega
 ·intro b hb
  have := h.size
  rw [Array.getElem?_push, if_neg (by omega)]
  exact h.old b hb
 ·simp only [List.map_cons, List.nodup_cons]
  refine ⟨fun hm => ?_, h.nodup⟩
  obtain ⟨k, hk, e⟩ := List.mem_map.1 hm
  have := h.lt hk
  omega
 ·intro k hk
  rcases List.mem_cons.1 hk with rfl | hk
  ·exact h.size
  ·exact h.fresh k hk
 ·intro k hk
  rcases List.mem_cons.1 hk with rfl | hk
  ·simp
  ·have := h.lt hk
   rw [Array.getElem?_push, if_neg (by omega)]
   exact h.mem k hk
theorem Ok.alloc {w0 w : World} {M : List Ent} (h : Ok w0 M w) (o : Obj) : Ok w0 (⟨w.heap.size, o⟩ :: M) (w.alloc o) := h.push o
theorem Ok.drew {w0 w : World} {M : List Ent} (h : Ok w0 M w) : Ok w0 M w.drew :=
 ⟨h.os, h.tape, h.output, h.size, h.old, h.nodup, h.fresh, h.mem⟩
theorem Ok.drawn {w0 w : World} {M : List Ent} (h : Ok w0 M w) (n : Nat) : Ok w0 M { w with drawn := n } :=
 ⟨h.os, h.tape, h.output, h.size, h.old, h.nodup, h.fresh, h.mem⟩
theorem Ok.start (w0 : World) : Ok w0 [] w0 :=
 ⟨rfl, rfl, rfl, Nat.le_refl _, fun _ _ => rfl, by simp, by simp, by simp⟩
theorem Ok.below {w0 w : World} {M : List Ent} (h : Ok w0 M w) : RowKit.Below w0.heap.size w0 w :=
 ⟨h.os, h.tape, h.output, h.size, h.old⟩
theorem Ok.put {w0 w : World} {A B : List Ent} {b : Nat} {o : Obj} (h : Ok w0 (A ++ ⟨b, o⟩ :: B) w) (o' : Obj) {w' : World}
  (e1 : w'.os = w.os) (e2 : w'.tape = w.tape) (e3 : w'.output = w.output) (e4 : w'.heap.size = w.heap.size) (e5 : w'.heap[b]? = some o') (e6 : ∀ c, c ≠ b → w'.heap[c]? = w.heap[c]?) :
  Ok w0 (A ++ ⟨b, o'⟩ :: B) w' := by
 have hb := h.fresh ⟨b, o⟩ (by simp)
 have hnd := h.nodup
 refine ⟨e1.trans h.os, e2.trans h.tape, e3.trans h.output, by rw [e4]; exact h.size, fun c hc => ?_, ?_, ?_, ?_⟩
 ·rw [e6 c (by simp at hb; omega)]; exact h.old c hc
 ·simpa using hnd
 ·intro k hk
  simp only [List.mem_append, List.mem_cons] at hk
  rcases hk with hk | rfl | hk
  ·exact h.fresh k (by simp [hk])
  ·exact hb
  ·exact h.fresh k (by simp [hk])
 ·intro k hk
  simp only [List.map_append, List.map_cons] at hnd
  have hnd' := List.nodup_append.1 hnd
  simp only [List.mem_append, List.mem_cons] at hk
  rcases hk with hk | rfl | hk
  ·have hne : k.b ≠ b := by
    intro e
    exact hnd'.2.2 k.b (List.mem_map_of_mem hk) b (by simp) e
   rw [e6 _ hne]; exact h.mem k (by simp [hk])
  ·exact e5
  ·have hne : k.b ≠ b := by
    intro e
    have := (List.nodup_cons.1 hnd'.2.1).1
    exact this (by rw [← e]; exact List.mem_map_of_mem hk)
   rw [e6 _ hne]; exact h.mem k (by simp [hk])
abbrev dM := List (Nat × Value)
def dM.get : dM → Nat → Option Value
 | [], _ => none
 | (d, v) :: r, e => bif Nat.beq d e then some v else dM.get r e
structure EnvOk (N : Nat) (ds : List Deferred) (env : dM) (a : Act) : Prop where
 size : a.tmps.size = N
 defers : a.defers = ds
 get : ∀ d v, env.get d = some v → a.tmps[d]? = some v
def dM.op (env : dM) : Operand → Option Value
 | .tmp t => env.get t
 | .const v => some v
 | .func f => some (.func (.func f) #[] #[])
 | .global g => some (.pointer (some ⟨g, 0, none⟩))
def dM.opl (env : dM) : List Operand → Option (List Value)
 | [] => some []
 | x :: xs =>
  match env.op x with
  | none => none
  | some v => match env.opl xs with
   | none => none
   | some vs => some (v :: vs)
theorem EnvOk.op {N : Nat} {ds : List Deferred} {env : dM} {a : Act} (h : EnvOk N ds env a) {x : Operand} {v : Value} (hx : env.op x = some v) : a.eval x = v := by
 cases x with
 | tmp t => have := h.get t v hx; simp [Act.eval, Array.getD_eq_getD_getElem?, this]
 | const c => simpa [dM.op, Act.eval] using hx
 | func f => simpa [dM.op, Act.eval] using hx
 | global g => simpa [dM.op, Act.eval] using hx
theorem EnvOk.opl {N : Nat} {ds : List Deferred} {env : dM} {a : Act} (h : EnvOk N ds env a) : ∀ {l : List Operand} {vs : List Value}, env.opl l = some vs → l.map a.eval = vs := by
 intro l
 induction l with
 | nil => intro vs hv; simp [dM.opl] at hv; simp [hv]
 | cons x xs ih =>
  intro vs hv
  simp only [dM.opl] at hv
  split at hv
  ·cases hv
  ·rename_i v hx
   split at hv
   ·cases hv
   ·rename_i us hu
    cases hv
    simp [h.op hx, ih hu]
theorem EnvOk.put {N : Nat} {ds : List Deferred} {env : dM} {a : Act} (h : EnvOk N ds env a) {d : Nat} (hd : Nat.ble (d + 1) N = true) (v : Value) : EnvOk N ds ((d, v) :: env) (a.put (some d) v) := by
 have hd' : d < N := Nat.le_of_ble_eq_true hd
 refine ⟨by simp [Act.put, h.size], by simp [Act.put, h.defers], fun e u hu => ?_⟩
 simp only [dM.get] at hu
 by_cases hde : d = e
 ·subst hde
  simp at hu
  subst hu
  simp [Act.put, h.size, hd']
 ·have : Nat.beq d e = false := by rw [← Bool.not_eq_true, Nat.beq_eq]; exact hde
  rw [this] at hu
  simp only [Act.put, Array.getElem?_setIfInBounds, hde, if_false]
  exact h.get e u hu
theorem EnvOk.skip {N : Nat} {ds : List Deferred} {env : dM} {a : Act} (h : EnvOk N ds env a) (v : Value) : EnvOk N ds env (a.put none v) := h
theorem EnvOk.sub {N : Nat} {ds : List Deferred} {env env' : dM} {a : Act} (h : EnvOk N ds env a) (hs : ∀ d v, env'.get d = some v → env.get d = some v) : EnvOk N ds env' a :=
 ⟨h.size, h.defers, fun d v hv => h.get d v (hs d v hv)⟩
def dM.has (env : dM) : dM → Prop
 | [] => True
 | (d, v) :: r => env.get d = some v ∧ dM.has env r
theorem dM.has_get {env : dM} : ∀ {env' : dM}, env.has env' → ∀ d v, env'.get d = some v → env.get d = some v := by
 intro env'
 induction env' with
 | nil => intro _ d v h; cases h
 | cons p r ih =>
  obtain ⟨e, u⟩ := p
  rintro ⟨h1, h2⟩ d v hv
  simp only [dM.get] at hv
  by_cases he : e = d
  ·subst he; simp at hv; subst hv; exact h1
  ·have : Nat.beq e d = false := by rw [← Bool.not_eq_true, Nat.beq_eq]; exact he
   rw [this] at hv
   exact ih h2 d v hv
def Tr (w0 : World) (N : Nat) (ds : List Deferred) (env : dM) (M : List Ent) (X : Act → World → Prop) : Prop :=
 ∀ a w, EnvOk N ds env a → Ok w0 M w → X a w
section
variable {P : Program} {w0 : World} {N : Nat} {ds : List Deferred} {env : dM} {M : List Ent} {X : Act → World → Prop}
theorem Tr.keep {env' : dM} (hs : env.has env') (h : Tr w0 N ds env' M X) : Tr w0 N ds env M X :=
 fun a w ha hw => h a w (ha.sub (dM.has_get hs)) hw
theorem Tr.drop {M' : List Ent} (hs : M'.Sublist M) (h : Tr w0 N ds env M' X) : Tr w0 N ds env M X :=
 fun a w ha hw => h a w ha (hw.sub hs)
theorem Tr.perm {M' : List Ent} (hp : M.Perm M') (h : Tr w0 N ds env M' X) : Tr w0 N ds env M X :=
 fun a w ha hw => h a w ha (hw.perm hp)
theorem Tr.mono {Y : Act → World → Prop} (hxy : ∀ a w, X a w → Y a w) (h : Tr w0 N ds env M X) : Tr w0 N ds env M Y :=
 fun a w ha hw => hxy a w (h a w ha hw)
def fL (P : Program) (w0 : World) (N : Nat) (ds : List Deferred) (env : dM) (M : List Ent) (o : Op) (t : TypeId) (v : Value) : Prop :=
 ∀ a w pos af g dst, EnvOk N ds env a → Ok w0 M w → (execOp a.eval ⟨dst, o, t, pos, af, g⟩).run P w = .ok (.value v) w
def Eff (P : Program) (Q : Exit → Act → World → Prop) (w0 : World) (N : Nat) (ds : List Deferred) (env : dM) (M : List Ent) (o : Oper) (Φ : Act → World → Prop) : Prop :=
 ∀ a w, EnvOk N ds env a → Ok w0 M w → o.wp P a w Φ Q
variable {ops : Array Oper} {Q : Exit → Act → World → Prop} {rest : List Oper} {o : Op} {t : TypeId} {v : Value} {d : Nat} {pos : String} {af : Array Edge}
theorem aF (h : Tr w0 N ds env M (Q .normal)) : Tr w0 N ds env M (wpList P ops Q []) := h
theorem t_val (hr : fL P w0 N ds env M o t v) (hd : Nat.ble (d + 1) N = true) (h : Tr w0 N ds ((d, v) :: env) M (wpList P ops Q rest)) :
  Tr w0 N ds env M (wpList P ops Q (⟨some d, o, t, pos, af, none⟩ :: rest)) := fun a w ha hw => by
 refine wpList_plain rfl fun K hK => ?_
 simp only [Oper.wp, hr a w pos af none (some d) ha hw, Oper.upon]
 exact hK _ _ (h _ _ (ha.put hd v) hw)
theorem xM {oo : Oper} (hg : oo.guard = none) (h : Eff P Q w0 N ds env M oo (wpList P ops Q rest)) : Tr w0 N ds env M (wpList P ops Q (oo :: rest)) := fun a w ha hw =>
 wpList_plain hg fun K hK => Oper.wp_mono hK (h a w ha hw)
theorem aA {id : Nat} {l : List Oper} (h : Tr w0 N ds env M (wpList P l.toArray Q l)) : Tr w0 N ds env M ((Code.region id l.toArray false).wp P Q) :=
 fun a w ha hw => wp_region_lit (h a w ha hw)
theorem aE {x y : Code} (h : Tr w0 N ds env M (x.wp P (Exit.then (y.wp P Q) Q))) : Tr w0 N ds env M ((Code.seq x y).wp P Q) :=
 fun a w ha hw => wp_seq (h a w ha hw)
theorem aB {K : Act → World → Prop} (h : Tr w0 N ds env M K) : Tr w0 N ds env M (Exit.then K Q .normal) := h
theorem aN {K : Act → World → Prop} (h : Tr w0 N ds env M (Q .ret)) : Tr w0 N ds env M (Exit.then K Q .ret) := h
theorem aS {K : Act → World → Prop} {i : Nat} (h : Tr w0 N ds env M (Q (.exit i))) : Tr w0 N ds env M (Exit.then K Q (.exit i)) := h
theorem cX {i : Nat} (h : Tr w0 N ds env M (Q .normal)) : Tr w0 N ds env M (Exit.inBlock i Q .normal) := h
theorem bM {i : Nat} (h : Tr w0 N ds env M (Q .ret)) : Tr w0 N ds env M (Exit.inBlock i Q .ret) := h
theorem bX {i : Nat} (h : Tr w0 N ds env M (Q .normal)) : Tr w0 N ds env M (Exit.inBlock i Q (.exit i)) := fun a w ha hw => by
 simp only [Exit.inBlock, if_true]; exact h a w ha hw
theorem aZ8 {i j : Nat} (hij : Nat.beq j i = false) (h : Tr w0 N ds env M (Q (.exit j))) : Tr w0 N ds env M (Exit.inBlock i Q (.exit j)) := fun a w ha hw => by
 have : j ≠ i := by intro e; simp [e] at hij
 simp only [Exit.inBlock, if_neg this]; exact h a w ha hw
theorem aX {i : Nat} {c : Code} (h : Tr w0 N ds env M (c.wp P (Exit.inBlock i Q))) : Tr w0 N ds env M ((Code.block i c).wp P Q) :=
 fun a w ha hw => wp_block (h a w ha hw)
theorem aO (h : Tr w0 N ds env M (Q .normal)) : Tr w0 N ds env M (Code.skip.wp P Q) := fun a w ha hw => wp_skip (h a w ha hw)
theorem cY {i : Nat} (h : Tr w0 N ds env M (Q (.exit i))) : Tr w0 N ds env M ((Code.exit i).wp P Q) := fun a w ha hw => wp_exit (h a w ha hw)
theorem aQ (h : Tr w0 N ds env M (Q .ret)) : Tr w0 N ds env M (Code.ret.wp P Q) := fun a w ha hw => wp_ret (h a w ha hw)
theorem bD {c : Operand} {x y : Code} {b : Bool} (hc : env.op c = some (.bool b)) (h1 : b = true → Tr w0 N ds env M (x.wp P Q)) (h2 : b = false → Tr w0 N ds env M (y.wp P Q)) :
  Tr w0 N ds env M ((Code.cond c x y).wp P Q) := fun a w ha hw =>
 wp_cond_split (ha.op hc) (fun e => h1 e a w ha hw) (fun e => h2 e a w ha hw)
theorem bI {c : Operand} {x y : Code} (hc : env.op c = some (.bool true)) (h1 : Tr w0 N ds env M (x.wp P Q)) :
  Tr w0 N ds env M ((Code.cond c x y).wp P Q) := fun a w ha hw => wp_cond_true (ha.op hc) (h1 a w ha hw)
theorem aR {c : Operand} {x y : Code} (hc : env.op c = some (.bool false)) (h1 : Tr w0 N ds env M (y.wp P Q)) :
  Tr w0 N ds env M ((Code.cond c x y).wp P Q) := fun a w ha hw => wp_cond_false (ha.op hc) (h1 a w ha hw)
theorem dW {c : Code} {σ : Type} (en : σ → dM) (Me : σ → List Ent) (inv : σ → Prop) (μ : σ → Nat) (s : σ) (hs : inv s)
  (h0 : env.has (en s)) (hM : (Me s).Sublist M)
  (round : ∀ (K : Act → World → Prop) (s : σ), inv s → (∀ s', inv s' → μ s' < μ s → Tr w0 N ds (en s') (Me s') K) → Tr w0 N ds (en s) (Me s) (c.wp P (Exit.then K Q))) :
  Tr w0 N ds env M ((Code.loop c).wp P Q) := fun a w ha hw => by
 have key : ∀ n (s : σ) a w, μ s = n → inv s → EnvOk N ds (en s) a → Ok w0 (Me s) w → ∀ (b : Frame) (k : List Item) (cs : List Frame),
   ∃ e a' w', Q e a' w' ∧ Arrives P (lone (b.at a (.code c :: .inLoop c :: k)) cs w) b k cs e a' w' := by
  intro n
  induction n using Nat.strongRecOn with
  | _ n ih =>
   intro s a w hn hI he hm b k cs
   obtain ⟨e, a₁, w₁, hq, harr⟩ := round (fun a' w' => ∃ s', inv s' ∧ μ s' < μ s ∧ EnvOk N ds (en s') a' ∧ Ok w0 (Me s') w') s hI
    (fun s' hi' hl a' w' h1 h2 => ⟨s', hi', hl, h1, h2⟩) a w he hm b (.inLoop c :: k) cs
   cases e with
   | normal =>
    obtain ⟨s', hI₁, hlt, he₁, hm₁⟩ := hq
    obtain ⟨e₂, a₂, w₂, hq₂, harr₂⟩ := ih (μ s') (hn ▸ hlt) s' a₁ w₁ rfl hI₁ he₁ hm₁ b k cs
    exact ⟨e₂, a₂, w₂, hq₂, .of_steps (Steps.trans harr (.one step_inLoop)) harr₂⟩
   | exit id => exact ⟨_, a₁, w₁, hq, .pass (x := .inLoop c) rfl (fun _ _ => .inl (by simp)) harr⟩
   | goto l => exact ⟨_, a₁, w₁, hq, .pass (x := .inLoop c) rfl (fun _ _ => .inl (by simp)) harr⟩
   | ret => exact ⟨_, a₁, w₁, hq, .pass (x := .inLoop c) rfl (fun _ _ => .inl (by simp)) harr⟩
   | panic ch => exact ⟨_, a₁, w₁, hq, .pass (x := .inLoop c) rfl (fun _ _ => .inl (by simp)) harr⟩
   | outgrown => exact ⟨_, a₁, w₁, hq, .pass (x := .inLoop c) rfl (fun _ _ => .inl (by simp)) harr⟩
 intro b k cs
 obtain ⟨e, a', w', hq, harr⟩ := key _ s a w rfl hs (ha.sub (dM.has_get h0)) (hw.sub hM) b k cs
 exact ⟨e, a', w', hq, .of_steps (.one step_loop) harr⟩
end
end Go.Sl
set_option linter.unusedVariables false
set_option linter.unusedSectionVars false
set_option linter.unusedSimpArgs false
namespace Go.Sl
open Go
section
variable {P : Program} {w0 : World} {N : Nat} {ds : List Deferred} {env : dM} {M : List Ent} {t : TypeId}
theorem aC {x : Operand} {v : Value} (hx : env.op x = some v) : fL P w0 N ds env M (.move x) t v := fun a w pos af g dst ha hw => by
 simp [execOp, ha.op hx]
theorem aD {x : Operand} {v : Value} (hx : env.op x = some v) : fL P w0 N ds env M (.assign x) t v := fun a w pos af g dst ha hw => by
 simp [execOp, ha.op hx]
theorem cG {c x y : Operand} {u : Value} (hc : env.op c = some (.bool true)) (hx : env.op x = some u) :
  fL P w0 N ds env M (.pick c x y) t u := fun a w pos af g dst ha hw => by
 simp [execOp, ha.op hc, ha.op hx, asBool]
theorem bS {c x y : Operand} {u : Value} (hc : env.op c = some (.bool false)) (hx : env.op y = some u) :
  fL P w0 N ds env M (.pick c x y) t u := fun a w pos af g dst ha hw => by
 simp [execOp, ha.op hc, ha.op hx, asBool]
theorem bA {x : Operand} {i : Nat} {vs : Array Value} {v : Value} (hx : env.op x = some (.tuple vs)) (hv : vs[i]? = some v) :
  fL P w0 N ds env M (.extract x i) t v := fun a w pos af g dst ha hw => by
 simp [execOp, ha.op hx, Instr.extract, hv]
def bC (P : Program) (s : TypeId) (f : Nat) : Option Nat :=
 match P.underlying s with
 | some (.struct fs) => match fs[f]? with
  | some fld => match P.info? fld.type with
   | some i => if i.size = 0 then none else some fld.offset
   | none => none
  | none => none
 | _ => none
theorem zD {s : TypeId} {f n : Nat} (h : bC P s f = some n) : ∃ fs fld i, P.underlying s = some (.struct fs) ∧ fs[f]? = some fld ∧ P.info? fld.type = some i ∧ i.size ≠ 0 ∧ fld.offset = n := by
 unfold bC at h
 split at h
 ·rename_i fs hu
  split at h
  ·rename_i fld hf
   split at h
   ·rename_i i hi
    split at h
    ·cases h
    ·rename_i hs
     exact ⟨fs, fld, i, hu, hf, hi, hs, by simpa using h⟩
   ·cases h
  ·cases h
 ·cases h
theorem aM9 {s : TypeId} {f n : Nat} (h : bC P s f = some n) (b k : Nat) (w : World) :
  (Instr.fieldAt s (.pointer (some ⟨b, k, none⟩)) f).run P w = .ok (.pointer (some ⟨b, k + n, none⟩)) w := by
 obtain ⟨fs, fld, i, hu, hf, hi, hs, hn⟩ := zD h
 subst hn
 simp [Instr.fieldAt, run_underlying hu, hf, Instr.sureAddr, fieldPlace, sizeOf, typeInfo, hi, hs, Addr.add_lit]
theorem aI {s : TypeId} {f n b k : Nat} {x : Operand} (h : bC P s f = some n) (hx : env.op x = some (.pointer (some ⟨b, k, none⟩))) :
  fL P w0 N ds env M (.fieldAddr s x f) t (.pointer (some ⟨b, k + n, none⟩)) := fun a w pos af g dst ha hw => by
 simp [execOp, ha.op hx, aM9 h]
theorem aM {x : Operand} {a : Addr} (hx : env.op x = some (.pointer (some a))) : fL P w0 N ds env M (.nilCheck x) t (.pointer (some a)) := fun a w pos af g dst ha hw => by
 simp [execOp, ha.op hx]
def bY (P : Program) (t : TypeId) : Option (Option Nat) :=
 match P.underlying t with
 | some (.struct _) | some (.array ..) => (P.info? t).map fun i => some i.size
 | some _ => some none
 | none => none
theorem mF {t : TypeId} (h : bY P t = some none) (w : World) : (isAgg t).run P w = .ok false w := by
 unfold bY at h
 unfold isAgg
 cases hu : P.underlying t with
 | none => simp [hu] at h
 | some d =>
  rw [hu] at h
  simp only [Sem.run_bind, run_underlying hu, Result.andThen_ok]
  cases d <;> first | rfl | (simp at h)
theorem sL {t n : Nat} (h : bY P t = some (some n)) : (∀ w, (isAgg t).run P w = .ok true w) ∧ ∃ i, P.info? t = some i ∧ i.size = n := by
 unfold bY at h
 unfold isAgg
 split at h
 ·rename_i fs hu
  simp at h
  exact ⟨fun w => by simp [run_underlying hu], h⟩
 ·rename_i m e hu
  simp at h
  exact ⟨fun w => by simp [run_underlying hu], h⟩
 ·simp at h
 ·cases h
def Rd (w0 : World) (M : List Ent) (a : Addr) (v : Value) : Prop := ∀ w, Ok w0 M w → w.cell? a = some v
theorem qQ {b k : Nat} {cs : Array Value} {e : TypeId} {fr : Nat × Nat} {v : Value} (hm : (⟨b, .cells cs e fr⟩ : Ent) ∈ M) (hv : cs[k]? = some v) : Rd w0 M ⟨b, k, none⟩ v := fun w hw => by
 have := hw.mem _ hm
 simp at this
 simp [World.cell?, this, hv]
theorem bI1 {a : Addr} {v : Value} (h : w0.cell? a = some v) : Rd w0 M a v := fun w hw => by
 have hb : a.block < w0.heap.size := World.block_lt_of_cell? w0 a h
 have := hw.old _ hb
 unfold World.cell? at h ⊢
 rw [this]; exact h
theorem Rd.sub {M' : List Ent} {a : Addr} {v : Value} (h : Rd w0 M a v) (hs : M.Sublist M') : Rd w0 M' a v := fun w hw => h w (hw.sub hs)
theorem Rd.cons {e : Ent} {a : Addr} {v : Value} (h : Rd w0 M a v) : Rd w0 (e :: M) a v := h.sub (List.sublist_cons_self _ _)
theorem aG {s : TypeId} {x : Operand} {p : Addr} {v : Value} (ht : bY P s = some none) (hx : env.op x = some (.pointer (some p))) (hr : Rd w0 M p v) :
  fL P w0 N ds env M (.load s x) t v := fun a w pos af g dst ha hw => by
 simp [execOp, ha.op hx, Instr.loadAt, Instr.sureAddr, loadVar, mF ht, hr w hw]
theorem aY {s : TypeId} {x : Operand} {b k n : Nat} {vs : List Value} (ht : bY P s = some (some n)) (hx : env.op x = some (.pointer (some ⟨b, k, none⟩)))
  (hr : ∀ j v, vs[j]? = some v → Rd w0 M ⟨b, k + j, none⟩ v) (hn : vs.length = n) :
  fL P w0 N ds env M (.load s x) t (.agg vs.toArray) := fun a w pos af g dst ha hw => by
 obtain ⟨h1, i, hi, hs⟩ := sL ht
 have := run_loadCells_list (P := P) (w := w) ⟨b, k, none⟩ vs (fun j v hv => by rw [Addr.add_lit]; exact hr j v hv w hw)
 rw [hn] at this
 simp [execOp, ha.op hx, Instr.loadAt, Instr.sureAddr, loadVar, h1, sizeOf, typeInfo, hi, hs, this]
theorem rds_ent {b k n : Nat} {cs : Array Value} {e : TypeId} {fr : Nat × Nat} {vs : List Value} (hm : (⟨b, .cells cs e fr⟩ : Ent) ∈ M) (hv : (cs.toList.drop k).take n = vs) :
  ∀ j v, vs[j]? = some v → Rd w0 M ⟨b, k + j, none⟩ v := fun j v h => by
 subst hv
 have hj : j < n := by
  rcases Nat.lt_or_ge j n with h' | h'
  ·exact h'
  ·rw [List.getElem?_eq_none (by simp; omega)] at h; cases h
 rw [List.getElem?_take_of_lt hj, List.getElem?_drop] at h
 exact qQ hm (by rw [← Array.getElem?_toList]; exact h)
theorem bG {fn : Fn} {l c : List Operand} {vl vc : List Value} (hl : env.opl l = some vl) (hc : env.opl c = some vc) :
  fL P w0 N ds env M (.makeFunc fn l.toArray c.toArray) t (.func fn vl.toArray vc.toArray) := fun a w pos af g dst ha hw => by
 simp [execOp, Instr.makeFunc, ha.opl hl, ha.opl hc]
theorem gO {op : BinOp} {xT yT : TypeId} {x y : Operand} {u v r : Value} (hx : env.op x = some u) (hy : env.op y = some v) (hg : eqGuard op xT x y u v = pure ())
  (hr : ∀ w, (binOp op xT u v).run P w = .ok r w) : fL P w0 N ds env M (.binOp op xT x y yT) t r := fun a w pos af g dst ha hw => by
 simp [execOp, ha.op hx, ha.op hy, hg, hr w]
section
variable {xT yT : TypeId} {x y : Operand} {k : IntKind} {i j : Int}
theorem uN (hx : env.op x = some (.int k i)) (hy : env.op y = some (.int k j)) : fL P w0 N ds env M (.binOp .add xT x y yT) t (.int k (k.wrap (i + j))) := gO hx hy (eqGuard_at_int _ _ _ _ _ _ _) fun w => by simp [binOp_add, Op.intArith]
theorem xN (hx : env.op x = some (.int k i)) (hy : env.op y = some (.int k j)) : fL P w0 N ds env M (.binOp .sub xT x y yT) t (.int k (k.wrap (i - j))) := gO hx hy (eqGuard_at_int _ _ _ _ _ _ _) fun w => by simp [binOp_sub, Op.intArith]
theorem oW (hx : env.op x = some (.int k i)) (hy : env.op y = some (.int k j)) : fL P w0 N ds env M (.binOp .mul xT x y yT) t (.int k (k.wrap (i * j))) := gO hx hy (eqGuard_at_int _ _ _ _ _ _ _) fun w => by simp [binOp_mul, Op.intArith]
theorem r_add' (hx : env.op x = some (.int k i)) (hy : env.op y = some (.int k j)) {s : Int} (hs : k.wrap (i + j) = s) : fL P w0 N ds env M (.binOp .add xT x y yT) t (.int k s) := hs ▸ uN hx hy
theorem bI2 (hx : env.op x = some (.int k i)) (hy : env.op y = some (.int k j)) {s : Int} (hs : k.wrap (i - j) = s) : fL P w0 N ds env M (.binOp .sub xT x y yT) t (.int k s) := hs ▸ xN hx hy
theorem r_mul' (hx : env.op x = some (.int k i)) (hy : env.op y = some (.int k j)) {s : Int} (hs : k.wrap (i * j) = s) : fL P w0 N ds env M (.binOp .mul xT x y yT) t (.int k s) := hs ▸ oW hx hy
theorem r_quo (hx : env.op x = some (.int k i)) (hy : env.op y = some (.int k j)) (h0 : j ≠ 0) : fL P w0 N ds env M (.binOp .quo xT x y yT) t (.int k (k.wrap (i.tdiv j))) := gO hx hy (eqGuard_at_int _ _ _ _ _ _ _) fun w => by simp [binOp_quo, Op.intDiv, h0]
theorem cW (hx : env.op x = some (.int k i)) (hy : env.op y = some (.int k j)) : fL P w0 N ds env M (.binOp .eql xT x y yT) t (.bool (i == j)) := gO hx hy (eqGuard_at_int _ _ _ _ _ _ _) fun w => by simp [binOp_eql]
theorem eF (hx : env.op x = some (.int k i)) (hy : env.op y = some (.int k j)) : fL P w0 N ds env M (.binOp .neq xT x y yT) t (.bool (i != j)) := gO hx hy (eqGuard_at_int _ _ _ _ _ _ _) fun w => by simp [binOp_neq]
theorem dI (hx : env.op x = some (.int k i)) (hy : env.op y = some (.int k j)) : fL P w0 N ds env M (.binOp .lss xT x y yT) t (.bool (decide (i < j))) := gO hx hy (eqGuard_at_int _ _ _ _ _ _ _) fun w => by simp [binOp_lss]
theorem iF (hx : env.op x = some (.int k i)) (hy : env.op y = some (.int k j)) : fL P w0 N ds env M (.binOp .leq xT x y yT) t (.bool (decide (i ≤ j))) := gO hx hy (eqGuard_at_int _ _ _ _ _ _ _) fun w => by simp [binOp_leq]
theorem fC (hx : env.op x = some (.int k i)) (hy : env.op y = some (.int k j)) : fL P w0 N ds env M (.binOp .gtr xT x y yT) t (.bool (decide (j < i))) := gO hx hy (eqGuard_at_int _ _ _ _ _ _ _) fun w => by simp [binOp_gtr]
theorem fI (hx : env.op x = some (.int k i)) (hy : env.op y = some (.int k j)) : fL P w0 N ds env M (.binOp .geq xT x y yT) t (.bool (decide (j ≤ i))) := gO hx hy (eqGuard_at_int _ _ _ _ _ _ _) fun w => by simp [binOp_geq]
theorem r_xor (hx : env.op x = some (.int k i)) (hy : env.op y = some (.int k j)) : fL P w0 N ds env M (.binOp .xor xT x y yT) t (.int k (bits .xor k i j)) := gO hx hy (eqGuard_at_int _ _ _ _ _ _ _) fun w => by simp [binOp_xor, intBits_xor]
theorem r_neg (hx : env.op x = some (.int k i)) : fL P w0 N ds env M (.unOp .neg xT x) t (.int k (k.wrap (0 - i))) := fun a w pos af g dst ha hw => by
 simp [execOp, ha.op hx, Op.unary, Op.intArith]
end
theorem bF {xT : TypeId} {x : Operand} {b : Bool} (hx : env.op x = some (.bool b)) : fL P w0 N ds env M (.unOp .not xT x) t (.bool (!b)) := fun a w pos af g dst ha hw => by
 simp [execOp, ha.op hx, Op.unary]
theorem r_eqb {xT yT : TypeId} {x y : Operand} {b c : Bool} (hT : P.underlying xT = some .bool) (hx : env.op x = some (.bool b)) (hy : env.op y = some (.bool c)) :
  fL P w0 N ds env M (.binOp .eql xT x y yT) t (.bool (b == c)) := gO hx hy (eqGuard_at_bool _ _ _ _ _ _) fun w => run_eql_bool w xT b c hT
theorem qR (a b : ByteArray) : (a.toList == b.toList) = decide (a = b) := by
 have : (a.toList = b.toList) ↔ a = b := by
  constructor
  ·intro h
   rw [ByteArray.toList_eq, ByteArray.toList_eq] at h
   cases a; cases b
   simp at h; simp [h]
  ·intro h; rw [h]
 by_cases h : a = b
 ·subst h; simp
 ·have h' : ¬ a.toList = b.toList := fun e => h (this.1 e)
  simp [h, h']
theorem iE {xT yT : TypeId} {x y : Operand} {b c : ByteArray} (hx : env.op x = some (.string b)) (hy : env.op y = some (.string c)) :
  fL P w0 N ds env M (.binOp .eql xT x y yT) t (.bool (decide (b = c))) := gO hx hy (eqGuard_at_string _ _ _ _ _ _) fun w => by
 simp [binOp, Op.stringOp, qR]
theorem r_nes {xT yT : TypeId} {x y : Operand} {b c : ByteArray} (hx : env.op x = some (.string b)) (hy : env.op y = some (.string c)) :
  fL P w0 N ds env M (.binOp .neq xT x y yT) t (.bool (!decide (b = c))) := gO hx hy (eqGuard_at_string _ _ _ _ _ _) fun w => by
 simp [binOp, Op.stringOp, qR]
theorem aP {sT : TypeId} {x : Operand} {e : TypeId} {A : Option Addr} {n c : Nat} (hT : P.underlying sT = some (.slice e)) (hx : env.op x = some (.slice A n c)) :
  fL P w0 N ds env M (.call { callee := .builtin .len, args := #[x], argTypes := #[sT] }) t (.int .i64 (n : Int)) := fun a w pos af g dst ha hw => by
 simp [execOp, resolve, invoke, builtin, ha.op hx, Builtin.len_, run_underlying hT, goInt]
theorem eO {sT : TypeId} {x : Operand} {s : ByteArray} (hT : P.underlying sT = some .string) (hx : env.op x = some (.string s)) :
  fL P w0 N ds env M (.call { callee := .builtin .len, args := #[x], argTypes := #[sT] }) t (.int .i64 (s.size : Int)) := fun a w pos af g dst ha hw => by
 simp [execOp, resolve, invoke, builtin, ha.op hx, Builtin.len_, run_underlying hT, goInt]
theorem bI3 {T : Array TypeId} {x y : Operand} {k : IntKind} {i j : Int} (hx : env.op x = some (.int k i)) (hy : env.op y = some (.int k j)) :
  fL P w0 N ds env M (.call { callee := .builtin .max, args := #[x, y], argTypes := T }) t (.int k (max i j)) := fun a w pos af g dst ha hw => by
 have : (if j > i then j else i) = max i j := by omega
 simp [execOp, resolve, invoke, builtin, ha.op hx, ha.op hy, Builtin.max_, Builtin.max2]
 omega
theorem dE {sT : TypeId} {x ix : Operand} {e : TypeId} {b o n c : Nat} {k : IntKind} {i : Int} {j z : Nat} (hT : P.underlying sT = some (.slice e)) (hi : (P.info? e).map (·.size) = some z)
  (hx : env.op x = some (.slice (some ⟨b, o, none⟩) n c)) (hix : env.op ix = some (.int k i)) (hj : i = (j : Int)) (hn : j < n) :
  fL P w0 N ds env M (.indexAddr sT x ix) t (.pointer (some ⟨b, o + j * z, none⟩)) := fun a w pos af g dst ha hw => by
 obtain ⟨inf, hinf, hz⟩ := Option.map_eq_some_iff.1 hi
 subst hj
 have h1 : (0 : Int) ≤ (j : Int) ∧ (j : Int) < (n : Int) := by omega
 simp [execOp, ha.op hx, ha.op hix, Instr.indexAt, asIntOf, run_underlying hT, h1, hn, sizeOf, typeInfo, hinf, hz, Addr.add_lit]
end
end Go.Sl
set_option linter.unusedVariables false
set_option linter.unusedSectionVars false
set_option linter.unusedSimpArgs false
namespace Go.Sl
open Go
abbrev cel (b : Nat) (T : TypeId) (l : List Value) : Ent := ⟨b, .cells l.toArray T (0, 0)⟩
inductive Upd : List Ent → Ent → Ent → List Ent → Prop
 | here {x y : Ent} {B : List Ent} : Upd (x :: B) x y (y :: B)
 | there {e x y : Ent} {A A' : List Ent} (h : Upd A x y A') : Upd (e :: A) x y (e :: A')
 | left {x y : Ent} {A A' B : List Ent} (h : Upd A x y A') : Upd (A ++ B) x y (A' ++ B)
 | right {x y : Ent} {A B B' : List Ent} (h : Upd B x y B') : Upd (A ++ B) x y (A ++ B')
theorem Upd.split {M M' : List Ent} {x y : Ent} (h : Upd M x y M') : ∃ A B, M = A ++ x :: B ∧ M' = A ++ y :: B := by
 induction h with
 | here => exact ⟨[], _, rfl, rfl⟩
 | there h ih => obtain ⟨A, B, rfl, rfl⟩ := ih; exact ⟨_ :: A, B, rfl, rfl⟩
 | left h ih => rename_i A0 A1 B0; obtain ⟨A, B, rfl, rfl⟩ := ih; exact ⟨A, B ++ B0, by simp, by simp⟩
 | right h ih => rename_i A0 B0 B1; obtain ⟨A, B, rfl, rfl⟩ := ih; exact ⟨A0 ++ A, B, by simp, by simp⟩
inductive SetAt : List Value → Nat → Value → List Value → Prop
 | zero {x v : Value} {l : List Value} : SetAt (x :: l) 0 v (v :: l)
 | succ {x v : Value} {l l' : List Value} {k : Nat} (h : SetAt l k v l') : SetAt (x :: l) (k + 1) v (x :: l')
inductive SetsAt : List Value → Nat → List Value → List Value → Prop
 | nil {l : List Value} {k : Nat} : SetsAt l k [] l
 | cons {l l1 l' vs : List Value} {k : Nat} {v : Value} (h : SetAt l k v l1) (h' : SetsAt l1 (k + 1) vs l') : SetsAt l k (v :: vs) l'
theorem SetAt.eq {l l' : List Value} {k : Nat} {v : Value} (h : SetAt l k v l') : l' = l.set k v ∧ k < l.length := by
 induction h with
 | zero => simp
 | succ h ih => simp [ih.1, ih.2]
theorem SetsAt.eq {l l' : List Value} {k : Nat} {vs : List Value} (h : SetsAt l k vs l') : k + vs.length ≤ l.length + (if vs = [] then k else 0) ∧ l' = (vs.zipIdx.foldl (fun c (p : Value × Nat) => c.set (k + p.2) p.1) l) := by
 induction h with
 | nil => simp
 | cons h h' ih =>
  rename_i l l1 l' vs k v
  obtain ⟨e1, e2⟩ := h.eq
  subst e1
  refine ⟨?_, ?_⟩
  ·simp only [List.length_cons, List.length_set] at ih ⊢
   split at ih
   ·rename_i hv; subst hv; simp; omega
   ·simp; omega
  ·rw [ih.2]
   simp only [List.zipIdx_cons, List.foldl_cons, Nat.add_zero]
   rw [List.zipIdx_succ, List.foldl_map]
   congr 1
   funext c p
   simp [Nat.add_assoc, Nat.add_comm, Nat.add_left_comm]
section
variable {P : Program} {Q : Exit → Act → World → Prop} {w0 : World} {N : Nat} {ds : List Deferred} {env : dM} {M : List Ent} {t : TypeId} {Φ : Act → World → Prop}
 {pos : String} {af : Array Edge} {g : Option (Nat × Bool)} {d : Nat}
theorem cH {T : TypeId} {x : Operand} {l : List Value} (hx : env.op x = some (.agg l.toArray)) (hd : Nat.ble (d + 1) N = true)
  (k : ∀ b, Tr w0 N ds ((d, .pointer (some ⟨b, 0, none⟩)) :: env) (cel b T l :: M) Φ) :
  Eff P Q w0 N ds env M ⟨some d, .box T x, t, pos, af, g⟩ Φ := fun a w ha hw => by
 simp [Oper.wp, execOp, ha.op hx, Instr.box, newVar, newRow, Oper.upon, Value.cells]
 exact k _ _ _ (ha.put hd _) (hw.push _)
theorem eL {T : TypeId} {x : Operand} {v : Value} (hx : env.op x = some v) (h1 : v.oneCell' = true) (hd : Nat.ble (d + 1) N = true)
  (k : ∀ b, Tr w0 N ds ((d, .pointer (some ⟨b, 0, none⟩)) :: env) (cel b T [v] :: M) Φ) :
  Eff P Q w0 N ds env M ⟨some d, .box T x, t, pos, af, g⟩ Φ := fun a w ha hw => by
 have hc : v.cells = #[v] := by cases v <;> first | rfl | cases h1
 simp [Oper.wp, execOp, ha.op hx, Instr.box, newVar, newRow, Oper.upon, hc]
 exact k _ _ _ (ha.put hd _) (hw.push _)
theorem bO {T : TypeId} {z : Value} {n by' : Nat} {l : List Value} (hz : (P.info? T).map (fun i => (i.zero, i.size, i.bytes)) = some (some z, n, by')) (hl : z.cells = l.toArray) (hd : Nat.ble (d + 1) N = true)
  (k : ∀ b, Tr w0 N ds ((d, .pointer (some ⟨b, 0, none⟩)) :: env) (cel b T l :: M) Φ) :
  Eff P Q w0 N ds env M ⟨some d, .alloc T, t, pos, af, g⟩ Φ := fun a w ha hw => by
 obtain ⟨i, hi, hh⟩ := Option.map_eq_some_iff.1 hz
 simp only [Prod.mk.injEq] at hh
 simp [Oper.wp, execOp, Instr.alloc, zeroValue, typeInfo, hi, hh.1, newVar, newRow, Oper.upon, hl]
 exact k _ _ _ (ha.put hd _) (hw.push _)
theorem xO {b : Nat} {e : TypeId} : ∀ (vs : List Value) (i k : Nat) (cs : Array Value) (w : World), w.heap[b]? = some (.cells cs e (0, 0)) → (∀ v ∈ vs, v.oneCell' = true) → k + i + vs.length ≤ cs.size →
  ∃ w', (storeCells ⟨b, k, none⟩ vs i).run P w = .ok () w' ∧ w'.os = w.os ∧ w'.tape = w.tape ∧ w'.output = w.output ∧ w'.heap.size = w.heap.size ∧
   w'.heap[b]? = some (.cells (vs.zipIdx.foldl (fun c (p : Value × Nat) => c.setIfInBounds (k + i + p.2) p.1) cs) e (0, 0)) ∧ ∀ c, c ≠ b → w'.heap[c]? = w.heap[c]? := by
 intro vs
 induction vs with
 | nil => intro i k cs w hb _ _; exact ⟨w, by simp [storeCells], rfl, rfl, rfl, rfl, by simpa using hb, fun _ _ => rfl⟩
 | cons v vs ih =>
  intro i k cs w hb hv hl
  simp only [List.length_cons] at hl
  have h1 : w.cell? ⟨b, k + i, none⟩ = some cs[k + i] := by
   simp [World.cell?, hb, show k + i < cs.size by omega]
  have h2 : w.frozen? ⟨b, k + i, none⟩ = false := by simp [World.frozen?, hb]
  have h3 : (w.setCell ⟨b, k + i, none⟩ v).heap[b]? = some (.cells (cs.setIfInBounds (k + i) v) e (0, 0)) := by
   simp [World.setCell, Array.getElem?_modify, hb]
  obtain ⟨w', r, e1, e2, e3, e4, e5, e6⟩ := ih (i + 1) k (cs.setIfInBounds (k + i) v) _ h3 (fun u hu => hv u (by simp [hu])) (by simp; omega)
  refine ⟨w', ?_, e1, e2, e3, by rw [e4]; simp [World.setCell], ?_, fun c hc => ?_⟩
  ·simp only [storeCells, Sem.run_bind, Addr.add_lit]
   rw [run_store P w _ v _ (hv v (by simp))]
   simp [stored, h1, h2, r]
  ·rw [e5]
   congr 2
   simp only [List.zipIdx_cons, List.foldl_cons, Nat.add_zero]
   rw [List.zipIdx_succ, List.foldl_map]
   congr 1
   funext c p
   simp [Nat.add_assoc, Nat.add_comm, Nat.add_left_comm]
  ·rw [e6 c hc]
   simp [World.setCell, Array.getElem?_modify, Ne.symm hc]
theorem zF (k : Nat) : ∀ (ps : List (Value × Nat)) (l : List Value), ps.foldl (fun c (p : Value × Nat) => c.setIfInBounds (k + p.2) p.1) l.toArray = (ps.foldl (fun c (p : Value × Nat) => c.set (k + p.2) p.1) l).toArray := by
 intro ps
 induction ps with
 | nil => intro l; rfl
 | cons p ps ih => intro l; simp only [List.foldl_cons]; rw [List.setIfInBounds_toArray, ih]
theorem bJ {T e : TypeId} {x y : Operand} {b k n : Nat} {v : Value} {vs l l' : List Value} {M' : List Ent} (hs : (P.info? T).map (·.size) = some n) (hx : env.op x = some (.pointer (some ⟨b, k, none⟩)))
  (hy : env.op y = some v) (hv : v.cells = vs.toArray) (hn : vs.length = n) (h1 : ∀ u ∈ vs, u.oneCell' = true) (hset : SetsAt l k vs l') (hu : Upd M (cel b e l) (cel b e l') M')
  (kk : Tr w0 N ds env M' Φ) : Eff P Q w0 N ds env M ⟨none, .store T x y, t, pos, af, g⟩ Φ := fun a w ha hw => by
 obtain ⟨i, hi, hz⟩ := Option.map_eq_some_iff.1 hs
 obtain ⟨A, B, rfl, rfl⟩ := hu.split
 obtain ⟨q1, q2⟩ := hset.eq
 have hb := hw.mem (cel b e l) (by simp)
 simp only [cel] at hb
 have hle : k + 0 + vs.length ≤ l.toArray.size ∨ vs = [] := by
  by_cases hvs : vs = []
  ·exact .inr hvs
  ·rw [if_neg hvs] at q1; simp; omega
 have hrun : ∃ w', (storeCells ⟨b, k, none⟩ vs).run P w = .ok () w' ∧ w'.os = w.os ∧ w'.tape = w.tape ∧ w'.output = w.output ∧ w'.heap.size = w.heap.size ∧
   w'.heap[b]? = some (.cells (vs.zipIdx.foldl (fun c (p : Value × Nat) => c.setIfInBounds (k + 0 + p.2) p.1) l.toArray) e (0, 0)) ∧ ∀ c, c ≠ b → w'.heap[c]? = w.heap[c]? := by
  rcases hle with hle | rfl
  ·exact xO vs 0 k l.toArray w hb h1 hle
  ·exact ⟨w, by simp [storeCells], rfl, rfl, rfl, rfl, by simpa using hb, fun _ _ => rfl⟩
 obtain ⟨w', r, e1, e2, e3, e4, e5, e6⟩ := hrun
 rw [Nat.add_zero, zF, ← q2] at e5
 have hsz : v.cells.size = n := by rw [hv]; simp [hn]
 have hok : Ok w0 (A ++ cel b e l' :: B) w' := hw.put _ e1 e2 e3 e4 e5 e6
 have hvl : v.cells.toList = vs := by rw [hv]
 simp [Oper.wp, execOp, ha.op hx, ha.op hy, Instr.storeAt, Instr.sureAddr, storeVar, sizeOf, typeInfo, hi, hz, hsz, hvl, r, Oper.upon]
 exact kk _ _ ha hok
theorem bR {T e : TypeId} {x y : Operand} {b k : Nat} {v : Value} {l l' : List Value} {M' : List Ent} (hs : (P.info? T).map (·.size) = some 1) (hx : env.op x = some (.pointer (some ⟨b, k, none⟩)))
  (hy : env.op y = some v) (h1 : v.oneCell' = true) (hset : SetAt l k v l') (hu : Upd M (cel b e l) (cel b e l') M')
  (kk : Tr w0 N ds env M' Φ) : Eff P Q w0 N ds env M ⟨none, .store T x y, t, pos, af, g⟩ Φ :=
 bJ (vs := [v]) hs hx hy (by cases v <;> first | rfl | cases h1) rfl (by simpa using h1) (.cons hset .nil) hu kk
def dM.opp (env : dM) : List (Nat × Operand) → Option (List (Nat × Value))
 | [] => some []
 | (i, x) :: xs =>
  match env.op x with
  | none => none
  | some v => match env.opp xs with
   | none => none
   | some vs => some ((i, v) :: vs)
theorem EnvOk.opp {a : Act} (h : EnvOk N ds env a) : ∀ {l : List (Nat × Operand)} {vs : List (Nat × Value)}, env.opp l = some vs → l.map (fun p => (p.1, a.eval p.2)) = vs := by
 intro l
 induction l with
 | nil => intro vs hv; simp [dM.opp] at hv; simp [hv]
 | cons x xs ih =>
  intro vs hv
  obtain ⟨i, x⟩ := x
  simp only [dM.opp] at hv
  split at hv
  ·cases hv
  ·rename_i v hx
   split at hv
   ·cases hv
   ·rename_i us hu
    cases hv
    simp [h.op hx, ih hu]
theorem bU {T : TypeId} {ps : List (Nat × Operand)} {vs : List (Nat × Value)} {v : Value} (hp : env.opp ps = some vs) (hr : ∀ w, (Instr.build T vs.toArray).run P w = .ok v w) :
  fL P w0 N ds env M (.build T ps.toArray) t v := fun a w pos af g dst ha hw => by
 have := ha.opp hp
 simp [execOp, this, hr w]
theorem bN {T E : TypeId} {n : Nat} {ps : List (Nat × Operand)} {vs : List (Nat × Value)} {l : List Value} (hp : env.opp ps = some vs)
  (hr : ∀ w : World, (Instr.buildSlice T n vs.toArray).run P w = .ok (.slice (some ⟨w.heap.size, 0, none⟩) n n) { w with heap := w.heap.push (.cells l.toArray E) }) (hd : Nat.ble (d + 1) N = true)
  (k : ∀ b, Tr w0 N ds ((d, .slice (some ⟨b, 0, none⟩) n n) :: env) (cel b E l :: M) Φ) :
  Eff P Q w0 N ds env M ⟨some d, .buildSlice T n ps.toArray, t, pos, af, g⟩ Φ := fun a w ha hw => by
 have := ha.opp hp
 simp [Oper.wp, execOp, this, hr w, Oper.upon]
 exact k _ _ _ (ha.put hd _) (hw.push _)
def aV (P : Program) (f : FuncId) : Prop := ∀ args w, (callFunc f args).run P w = .ok (.enter f args) w
theorem aL {f : FuncId} {fn : Func} (hf : P.funcs[f]? = some fn) (hn : (fn.name == "runtime.NumGoroutine") = false) (hb : fn.body.isNone = false) : aV P f := fun args w => by
 simp only [callFunc, Sem.run_bind, run_program, Result.andThen_ok, hf, hn, hb]
 simp
theorem vR {f : FuncId} {fo : Operand} {fst cap : Array Value} {xs : List Operand} {T : Array TypeId} {vs : List Value} {R : Ending → World → Prop} (he : aV P f) (hfo : env.op fo = some (.func (.func f) fst cap)) (hx : env.opl xs = some vs)
  {args : Array Value} (hargs : fst ++ vs.toArray ++ cap = args)
  (hc : ∀ w, Ok w0 M w → Calls P f args w R)
  (hk : ∀ a e w', EnvOk N ds env a → R e w' → match e with | .returned v => Φ (a.put (some d) v) w' | .panicked c => Q (.panic c) a w' | .outgrown => LetsOut Q) :
  Eff P Q w0 N ds env M ⟨some d, .call { callee := .value fo, args := xs.toArray, argTypes := T }, t, pos, af, g⟩ Φ := fun a w ha hw => by
 have hxs := ha.opl hx
 subst hargs
 simp only [Oper.wp, execOp, resolve, Deferred.ofValue, ha.op hfo, hxs, invoke, Sem.run_bind, Sem.run_pure, Result.andThen_ok, List.map_toArray, he _ _, Oper.upon]
 refine (hc w hw).mono fun e w' hR => ?_
 have := hk a e w' ha hR
 cases e <;> simpa using this
theorem bP {α : Type} {f : FuncId} {fo : Operand} {fst cap : Array Value} {xs : List Operand} {T : Array TypeId} {vs : List Value} {ret : α → Value} {φ : α → Prop} {M' : α → List Ent} (he : aV P f) (hfo : env.op fo = some (.func (.func f) fst cap))
  (hx : env.opl xs = some vs) {args : Array Value} (hargs : fst ++ vs.toArray ++ cap = args) (hd : Nat.ble (d + 1) N = true)
  (hc : ∀ w, Ok w0 M w → Calls P f args w (fun e w' => ∃ x, e = .returned (ret x) ∧ φ x ∧ Ok w0 (M' x) w'))
  (hk : ∀ x, φ x → Tr w0 N ds ((d, ret x) :: env) (M' x) Φ) :
  Eff P Q w0 N ds env M ⟨some d, .call { callee := .value fo, args := xs.toArray, argTypes := T }, t, pos, af, g⟩ Φ :=
 vR he hfo hx hargs hc fun a e w' ha ⟨x, h1, h2, h3⟩ => by subst h1; exact hk x h2 _ _ (ha.put hd _) h3
theorem aJ {f : FuncId} {fo : Operand} {fst cap : Array Value} {xs : List Operand} {T : Array TypeId} {vs : List Value} {v : Value} (he : aV P f) (hfo : env.op fo = some (.func (.func f) fst cap))
  (hx : env.opl xs = some vs) {args : Array Value} (hargs : fst ++ vs.toArray ++ cap = args) (hd : Nat.ble (d + 1) N = true)
  (hc : ∀ w, Ok w0 M w → Calls P f args w (fun e w' => e = .returned v ∧ Ok w0 M w'))
  (hk : Tr w0 N ds ((d, v) :: env) M Φ) :
  Eff P Q w0 N ds env M ⟨some d, .call { callee := .value fo, args := xs.toArray, argTypes := T }, t, pos, af, g⟩ Φ :=
 vR he hfo hx hargs hc fun a e w' ha ⟨h1, h3⟩ => by subst h1; exact hk _ _ (ha.put hd _) h3
def mU : Nat → List Value → dM
 | _, [] => []
 | i, v :: vs => (i, v) :: mU (i + 1) vs
theorem qT : ∀ (vs : List Value) (i d : Nat) (v : Value), (mU i vs).get d = some v → i ≤ d ∧ vs[d - i]? = some v := by
 intro vs
 induction vs with
 | nil => intro i d v h; simp [mU, dM.get] at h
 | cons u vs ih =>
  intro i d v h
  simp only [mU, dM.get] at h
  by_cases hid : i = d
  ·subst hid; simp at h; subst h; simp
  ·have : Nat.beq i d = false := by rw [← Bool.not_eq_true, Nat.beq_eq]; exact hid
   rw [this] at h
   obtain ⟨h1, h2⟩ := ih (i + 1) d v h
   refine ⟨by omega, ?_⟩
   rw [show d - i = (d - (i + 1)) + 1 by omega]
   simpa using h2
theorem enter {f : FuncId} {fn : Func} {c : Code} {vs : List Value} {R : Ending → World → Prop} (hf : P.funcs[f]? = some fn) (hb : fn.body = some c) (hN : fn.ntmps = N) (hl : Nat.ble vs.length N = true)
  (h : Tr w0 N [] (mU 0 vs) M (c.wp P (bodyPost P fn R))) : ∀ w, Ok w0 M w → Calls P f vs.toArray w R := fun w hw => by
 have hl' : vs.length ≤ N := Nat.le_of_ble_eq_true hl
 refine calls_of_wp hf hb (h _ _ ⟨by simp [hN]; omega, rfl, fun d v hd => ?_⟩ hw)
 obtain ⟨_, hv⟩ := qT vs 0 d v hd
 have hd' : d < vs.length := by
  have := (List.getElem?_eq_some_iff.1 hv).1; omega
 simp only [Nat.sub_zero] at hv
 simp [Array.getElem?_append, hd', hv]
 have := List.getElem?_eq_some_iff.1 hv
 obtain ⟨_, h2⟩ := this
 exact h2
theorem aW {fn : Func} {R : Ending → World → Prop} {s : Nat} {v : Value} (hr : fn.results = #[.tmp s]) (hs : env.get s = some v) (h : ∀ w, Ok w0 M w → R (.returned v) w) :
  Tr w0 N [] env M (bodyPost P fn R .ret) := fun a w ha hw =>
 ⟨ha.defers, v, by rw [results_tmp hr]; have := ha.get s v hs; simp [Array.getD_eq_getD_getElem?, this], h w hw⟩
theorem gG {fn : Func} {R : Ending → World → Prop} {s s' : Nat} {v v' : Value} (hr : fn.results = #[.tmp s, .tmp s']) (hs : env.get s = some v) (hs' : env.get s' = some v') (h : ∀ w, Ok w0 M w → R (.returned (.tuple #[v, v'])) w) :
  Tr w0 N [] env M (bodyPost P fn R .ret) := fun a w ha hw =>
 ⟨ha.defers, _, by rw [results_tmp2 hr]; have h1 := ha.get s v hs; have h2 := ha.get s' v' hs'; simp [Array.getD_eq_getD_getElem?, h1, h2], h w hw⟩
theorem aG7 {fn : Func} {t u x : Tmp} (h : fn.results = #[.tmp t, .tmp u, .tmp x]) (tmps : Array Value) (w : World) :
  (results fn tmps).run P w = .ok (.tuple #[tmps.getD t undef, tmps.getD u undef, tmps.getD x undef]) w := by
 simp [results, h]
theorem aG8 {fn : Func} {R : Ending → World → Prop} {s s' s'' : Nat} {v v' v'' : Value} (hr : fn.results = #[.tmp s, .tmp s', .tmp s'']) (hs : env.get s = some v) (hs' : env.get s' = some v') (hs'' : env.get s'' = some v'') (h : ∀ w, Ok w0 M w → R (.returned (.tuple #[v, v', v''])) w) :
  Tr w0 N [] env M (bodyPost P fn R .ret) := fun a w ha hw =>
 ⟨ha.defers, _, by rw [aG7 hr]; have h1 := ha.get s v hs; have h2 := ha.get s' v' hs'; have h3 := ha.get s'' v'' hs''; simp [Array.getD_eq_getD_getElem?, h1, h2, h3], h w hw⟩
theorem aR8 {fn : Func} {R : Ending → World → Prop} (hr : fn.results = #[]) (h : ∀ w, Ok w0 M w → R (.returned (.tuple #[])) w) :
  Tr w0 N [] env M (bodyPost P fn R .ret) := fun a w ha hw => ⟨ha.defers, _, results_none hr _ _ _, h w hw⟩
theorem eV {fn : Func} {R : Ending → World → Prop} (hr : fn.results = #[]) (h : ∀ w, Ok w0 M w → R (.returned (.tuple #[])) w) :
  Tr w0 N [] env M (bodyPost P fn R .normal) := fun a w ha hw => ⟨ha.defers, _, results_none hr _ _ _, h w hw⟩
end
end Go.Sl
set_option linter.unusedVariables false
set_option linter.unusedSectionVars false
set_option linter.unusedSimpArgs false
namespace Go.Sl
open Go
section
variable {P : Program} {Q : Exit → Act → World → Prop} {w0 : World} {N : Nat} {ds : List Deferred} {env : dM} {M : List Ent} {t : TypeId} {Φ : Act → World → Prop}
 {pos : String} {af : Array Edge} {d : Nat} {ops : Array Oper} {rest : List Oper} {o : Op} {v : Value}
def fY (ops : Array Oper) (j : Nat) : Option Nat := (ops[j]?).bind (·.dst)
theorem gY {a : Act} {j s : Nat} {want b : Bool} {dst : Option Tmp} {o : Op} (ha : EnvOk N ds env a) (hs : fY ops j = some s) (hb : env.get s = some (.bool b)) :
  Region.wanted ⟨dst, o, t, pos, af, some (j, want)⟩ (yielded ops a.tmps) = (b == want) := by
 unfold fY at hs
 simp [Region.wanted, yielded, hs, ha.get s _ hb]
theorem sM {a : Act} {j s : Nat} {want : Bool} {dst : Option Tmp} {o : Op} (ha : EnvOk N ds env a) (hs : fY ops j = some s) (hb : env.get s = some undef) :
  Region.wanted ⟨dst, o, t, pos, af, some (j, want)⟩ (yielded ops a.tmps) = false := by
 unfold fY at hs
 simp [Region.wanted, yielded, hs, ha.get s _ hb, undef]
theorem bI4 {j s : Nat} {b : Bool} (hs : fY ops j = some s) (hb : env.get s = some (.bool b)) (hr : fL P w0 N ds env M o t v) (hd : Nat.ble (d + 1) N = true)
  (h : Tr w0 N ds ((d, v) :: env) M (wpList P ops Q rest)) : Tr w0 N ds env M (wpList P ops Q (⟨some d, o, t, pos, af, some (j, b)⟩ :: rest)) := fun a w ha hw => by
 refine wpList_step fun K hK => ?_
 rw [if_pos (by rw [gY ha hs hb]; simp)]
 simp only [Oper.wp, hr a w pos af _ (some d) ha hw, Oper.upon]
 exact hK _ _ (h _ _ (ha.put hd v) hw)
theorem gB {j s : Nat} {b : Bool} {dst : Option Tmp} (hs : fY ops j = some s) (hb : env.get s = some (.bool b)) (h : Eff P Q w0 N ds env M ⟨dst, o, t, pos, af, some (j, b)⟩ (wpList P ops Q rest)) :
  Tr w0 N ds env M (wpList P ops Q (⟨dst, o, t, pos, af, some (j, b)⟩ :: rest)) := fun a w ha hw => by
 refine wpList_step fun K hK => ?_
 rw [if_pos (by rw [gY ha hs hb]; simp)]
 exact Oper.wp_mono hK (h a w ha hw)
theorem lM {j s : Nat} {b want : Bool} (hs : fY ops j = some s) (hb : env.get s = some (.bool b)) (hne : (b == want) = false) (hd : Nat.ble (d + 1) N = true)
  (h : Tr w0 N ds ((d, undef) :: env) M (wpList P ops Q rest)) : Tr w0 N ds env M (wpList P ops Q (⟨some d, o, t, pos, af, some (j, want)⟩ :: rest)) := fun a w ha hw => by
 refine wpList_step fun K hK => ?_
 rw [if_neg (by rw [gY ha hs hb, hne]; simp)]
 exact hK _ _ (h _ _ (ha.put hd undef) hw)
theorem bZ {j s : Nat} {want : Bool} (hs : fY ops j = some s) (hb : env.get s = some undef) (hd : Nat.ble (d + 1) N = true)
  (h : Tr w0 N ds ((d, undef) :: env) M (wpList P ops Q rest)) : Tr w0 N ds env M (wpList P ops Q (⟨some d, o, t, pos, af, some (j, want)⟩ :: rest)) := fun a w ha hw => by
 refine wpList_step fun K hK => ?_
 rw [if_neg (by rw [sM ha hs hb]; simp)]
 exact hK _ _ (h _ _ (ha.put hd undef) hw)
theorem aR9 : ∀ (l1 l2 : List Oper) (a : Act) (w : World), wpList P ops (Exit.then (wpList P ops Q l2) Q) l1 a w → wpList P ops Q (l1 ++ l2) a w := by
 intro l1 l2
 induction l1 with
 | nil => intro a w h; exact h
 | cons o l1 ih =>
  intro a w h
  simp only [wpList, List.cons_append] at h ⊢
  split
  ·rename_i hw
   rw [if_pos hw] at h
   rcases h with h | ⟨h1, a0, w1, h2⟩
   ·left
    unfold Oper.wp at *
    generalize (execOp a.eval o).run P w = r at *
    cases r with
    | ok n w' =>
     cases n <;> simp only [Oper.upon] at h ⊢ <;>
      first
       | exact ih _ _ h
       | exact Calls.mono h (fun e w'' he => by cases e <;> first | exact ih _ _ he | exact he)
       | exact Rows.mono h (fun _ _ he => ih _ _ he)
    | halt x w' => cases x <;> simp only [Oper.upon] at h ⊢ <;> exact h
   ·right; exact ⟨h1, a0, w1, h2⟩
  ·rename_i hw
   rw [if_neg hw] at h
   exact ih _ _ h
theorem t_cut (n : Nat) {l : List Oper} (env' : dM) (M' : List Ent)
  (h1 : ∀ K : Act → World → Prop, Tr w0 N ds env' M' K → Tr w0 N ds env M (wpList P ops (Exit.then K Q) (l.take n)))
  (h2 : Tr w0 N ds env' M' (wpList P ops Q (l.drop n))) : Tr w0 N ds env M (wpList P ops Q l) := fun a w ha hw => by
 have := aR9 (l.take n) (l.drop n) a w (h1 _ h2 a w ha hw)
 rwa [List.take_append_drop] at this
theorem bI5 {c : Code} (env' : dM) (M' : List Ent) (h1 : ∀ K : Act → World → Prop, Tr w0 N ds env' M' K → Tr w0 N ds env M (c.wp P (Exit.then K Q)))
  (h2 : Tr w0 N ds env' M' (Q .normal)) : Tr w0 N ds env M (c.wp P Q) := fun a w ha hw =>
 wp_mono (h1 _ h2 a w ha hw) fun e a w q => by cases e <;> exact q
theorem aS0 {α : Type} {c : Code} (env' : α → dM) (M' : α → List Ent) (φ : α → Prop) (h1 : ∀ K : Act → World → Prop, (∀ x, φ x → Tr w0 N ds (env' x) (M' x) K) → Tr w0 N ds env M (c.wp P (Exit.then K Q)))
  (h2 : ∀ x, φ x → Tr w0 N ds (env' x) (M' x) (Q .normal)) : Tr w0 N ds env M (c.wp P Q) := fun a w ha hw =>
 wp_mono (h1 _ h2 a w ha hw) fun e a w q => by cases e <;> exact q
theorem dF {K : Act → World → Prop} {env' : dM} {M' : List Ent} (hK : Tr w0 N ds env' M' K) (he : env.has env') (hM : M'.Sublist M) : Tr w0 N ds env M (Exit.then K Q .normal) :=
 Tr.keep he (Tr.drop hM hK)
theorem nD {K : Act → World → Prop} {env' : dM} {M' : List Ent} (hK : Tr w0 N ds env' M' K) (he : env.has env') (hM : M'.Sublist M) : Tr w0 N ds env M K :=
 Tr.keep he (Tr.drop hM hK)
def bK (Q : Exit → Act → World → Prop) : Prop := ∀ c a d v w, Q (.panic c) (a.put d v) w → Q (.panic c) a w
theorem bK.then {K : Act → World → Prop} (h : bK Q) : bK (Exit.then K Q) := h
theorem bK.inBlock {i : Nat} (h : bK Q) : bK (Exit.inBlock i Q) := h
theorem bK.body {fn : Func} {R : Ending → World → Prop} : bK (bodyPost P fn R) := fun c a d v w h => by
 cases d <;> exact h
variable {S : List Ent} {fuel : Nat} {listed : Array Bool}
theorem cI {id n : Nat} (hm : P.follows .mixedOrders = true) (hn : ops.size = n) (h : Tr w0 N ds env M (wpAnyH P .any ops Q (Ok w0 M) n (Array.replicate n false))) :
  Tr w0 N ds env M ((Code.region id ops true).wp P Q) := fun a w ha hw => by
 subst hn
 exact wp_region_held hm (h a _ ha (hw.drawn _))
theorem d_val (i : Nat) (hi : ops[i]? = some ⟨some d, o, t, pos, af, none⟩) (hs : Region.noSelect ops = true) (hf : Region.free .any ops listed i = true) (hr : (Region.ready .any ops listed).contains i = true)
  (hQ : bK Q) (hSM : S.Sublist M) (hd : Nat.ble (d + 1) N = true) (hv : fL P w0 N ds env S o t v)
  (h : Tr w0 N ds ((d, v) :: env) M (wpAnyH P .any ops Q (Ok w0 S) fuel (listed.setIfInBounds i true))) :
  Tr w0 N ds env M (wpAnyH P .any ops Q (Ok w0 S) (fuel + 1) listed) := fun a w ha hw =>
 wpAnyH_take hi hs hf hr (fun c a w q => hQ c a _ _ w q) (.inl ⟨rfl, fun w hw => hv a w pos af none (some d) ha hw⟩) (hw.sub hSM) (h _ _ (ha.put hd v) hw)
theorem bI6 (i : Nat) {j s : Nat} {b : Bool} (hi : ops[i]? = some ⟨some d, o, t, pos, af, some (j, b)⟩) (hs : Region.noSelect ops = true) (hf : Region.free .any ops listed i = true) (hr : (Region.ready .any ops listed).contains i = true)
  (hQ : bK Q) (hSM : S.Sublist M) (hds : fY ops j = some s) (hb : env.get s = some (.bool b)) (hd : Nat.ble (d + 1) N = true) (hv : fL P w0 N ds env S o t v)
  (h : Tr w0 N ds ((d, v) :: env) M (wpAnyH P .any ops Q (Ok w0 S) fuel (listed.setIfInBounds i true))) :
  Tr w0 N ds env M (wpAnyH P .any ops Q (Ok w0 S) (fuel + 1) listed) := fun a w ha hw =>
 wpAnyH_take hi hs hf hr (fun c a w q => hQ c a _ _ w q) (.inl ⟨by rw [gY ha hds hb]; simp, fun w hw => hv a w pos af _ (some d) ha hw⟩) (hw.sub hSM) (h _ _ (ha.put hd v) hw)
theorem aW7 (i : Nat) {j s : Nat} {b want : Bool} (hi : ops[i]? = some ⟨some d, o, t, pos, af, some (j, want)⟩) (hs : Region.noSelect ops = true) (hf : Region.free .any ops listed i = true) (hr : (Region.ready .any ops listed).contains i = true)
  (hQ : bK Q) (hSM : S.Sublist M) (hds : fY ops j = some s) (hb : env.get s = some (.bool b)) (hne : (b == want) = false) (hd : Nat.ble (d + 1) N = true)
  (h : Tr w0 N ds ((d, undef) :: env) M (wpAnyH P .any ops Q (Ok w0 S) fuel (listed.setIfInBounds i true))) :
  Tr w0 N ds env M (wpAnyH P .any ops Q (Ok w0 S) (fuel + 1) listed) := fun a w ha hw =>
 wpAnyH_take hi hs hf hr (fun c a w q => hQ c a _ _ w q) (.inr ⟨by rw [gY ha hds hb, hne], rfl⟩) (hw.sub hSM) (h _ _ (ha.put hd undef) hw)
theorem bI7 (i : Nat) {j s : Nat} {want : Bool} (hi : ops[i]? = some ⟨some d, o, t, pos, af, some (j, want)⟩) (hs : Region.noSelect ops = true) (hf : Region.free .any ops listed i = true) (hr : (Region.ready .any ops listed).contains i = true)
  (hQ : bK Q) (hSM : S.Sublist M) (hds : fY ops j = some s) (hb : env.get s = some undef) (hd : Nat.ble (d + 1) N = true)
  (h : Tr w0 N ds ((d, undef) :: env) M (wpAnyH P .any ops Q (Ok w0 S) fuel (listed.setIfInBounds i true))) :
  Tr w0 N ds env M (wpAnyH P .any ops Q (Ok w0 S) (fuel + 1) listed) := fun a w ha hw =>
 wpAnyH_take hi hs hf hr (fun c a w q => hQ c a _ _ w q) (.inr ⟨sM ha hds hb, rfl⟩) (hw.sub hSM) (h _ _ (ha.put hd undef) hw)
theorem d_eff (i : Nat) {oo : Oper} (hi : ops[i]? = some oo) (hg : oo.guard = none) (hr : Region.ready .any ops listed = [i])
  (h : Eff P Q w0 N ds env M oo (fun a w => Ok w0 S w ∧ wpAnyH P .any ops Q (Ok w0 S) fuel (listed.setIfInBounds i true) a w)) :
  Tr w0 N ds env M (wpAnyH P .any ops Q (Ok w0 S) (fuel + 1) listed) := fun a w ha hw => by
 refine wpAnyH_all hr (by simp) fun j hj => ?_
 obtain rfl : j = i := by simpa using hj
 unfold wpOp
 simp only [hi]
 rw [if_pos (by simp [Region.wanted, hg])]
 exact .inl (h a w ha hw)
theorem jU (i : Nat) {dst : Option Tmp} {j s : Nat} {b : Bool} (hi : ops[i]? = some ⟨dst, o, t, pos, af, some (j, b)⟩) (hr : Region.ready .any ops listed = [i]) (hds : fY ops j = some s) (hb : env.get s = some (.bool b))
  (h : Eff P Q w0 N ds env M ⟨dst, o, t, pos, af, some (j, b)⟩ (fun a w => Ok w0 S w ∧ wpAnyH P .any ops Q (Ok w0 S) fuel (listed.setIfInBounds i true) a w)) :
  Tr w0 N ds env M (wpAnyH P .any ops Q (Ok w0 S) (fuel + 1) listed) := fun a w ha hw => by
 refine wpAnyH_all hr (by simp) fun k hk => ?_
 obtain rfl : k = i := by simpa using hk
 unfold wpOp
 simp only [hi]
 rw [if_pos (by rw [gY ha hds hb]; simp)]
 exact .inl (h a w ha hw)
theorem gP (i j : Nat) {oi oj : Oper} (hi : ops[i]? = some oi) (hj : ops[j]? = some oj) (hgi : oi.guard = none) (hgj : oj.guard = none) (hr : Region.ready .any ops listed = [i, j])
  (h : Eff P Q w0 N ds env M oi (fun a w => Ok w0 S w ∧ wpAnyH P .any ops Q (Ok w0 S) fuel (listed.setIfInBounds i true) a w))
  (h' : Eff P Q w0 N ds env M oj (fun a w => Ok w0 S w ∧ wpAnyH P .any ops Q (Ok w0 S) fuel (listed.setIfInBounds j true) a w)) :
  Tr w0 N ds env M (wpAnyH P .any ops Q (Ok w0 S) (fuel + 1) listed) := fun a w ha hw => by
 refine wpAnyH_all hr (by simp) fun k hk => ?_
 simp only [List.mem_cons, List.not_mem_nil, or_false] at hk
 rcases hk with rfl | rfl
 ·unfold wpOp
  simp only [hi]
  rw [if_pos (by simp [Region.wanted, hgi])]
  exact .inl (h a w ha hw)
 ·unfold wpOp
  simp only [hj]
  rw [if_pos (by simp [Region.wanted, hgj])]
  exact .inl (h' a w ha hw)
theorem aU (hSM : S.Sublist M) (h : Tr w0 N ds env M (wpAnyH P .any ops Q (Ok w0 S) fuel listed)) : Tr w0 N ds env M (fun a w => Ok w0 S w ∧ wpAnyH P .any ops Q (Ok w0 S) fuel listed a w) :=
 fun a w ha hw => ⟨hw.sub hSM, h a w ha hw⟩
theorem bQ (hr : Region.ready .any ops listed = []) (h : Tr w0 N ds env M (Q .normal)) : Tr w0 N ds env M (wpAnyH P .any ops Q (Ok w0 S) fuel listed) :=
 fun a w ha hw => wpAnyH_done hr (h a w ha hw) fuel
end
end Go.Sl
set_option linter.unusedVariables false
set_option linter.unusedSectionVars false
set_option linter.unusedSimpArgs false
namespace Go.Sl
open Go
section
variable {P : Program} {Q : Exit → Act → World → Prop} {w0 : World} {N : Nat} {ds : List Deferred} {env : dM} {M : List Ent} {t : TypeId} {X : Act → World → Prop}
 {pos : String} {af : Array Edge} {d : Nat} {ops : Array Oper} {rest : List Oper} {o : Op} {v : Value}
theorem jI {n : Int} (h : -9223372036854775808 ≤ n ∧ n ≤ 9223372036854775807) : IntKind.i64.wrap n = n := by
 rw [IntKind.wrap_i64]; omega
section
variable {xT yT : TypeId} {x y : Operand} {i j : Int}
theorem cC (hx : env.op x = some (.int .i64 i)) (hy : env.op y = some (.int .i64 j)) (h : -9223372036854775808 ≤ i + j ∧ i + j ≤ 9223372036854775807) :
  fL P w0 N ds env M (.binOp .add xT x y yT) t (.int .i64 (i + j)) := r_add' hx hy (jI h)
theorem cP (hx : env.op x = some (.int .i64 i)) (hy : env.op y = some (.int .i64 j)) (h : -9223372036854775808 ≤ i - j ∧ i - j ≤ 9223372036854775807) :
  fL P w0 N ds env M (.binOp .sub xT x y yT) t (.int .i64 (i - j)) := bI2 hx hy (jI h)
theorem r_muli (hx : env.op x = some (.int .i64 i)) (hy : env.op y = some (.int .i64 j)) (h : -9223372036854775808 ≤ i * j ∧ i * j ≤ 9223372036854775807) :
  fL P w0 N ds env M (.binOp .mul xT x y yT) t (.int .i64 (i * j)) := r_mul' hx hy (jI h)
end
theorem aN0 {e : Nat} {u : Value} (he : env.get e = none) : ∀ d v, env.get d = some v → dM.get ((e, u) :: env) d = some v := by
 intro d v h
 have : Nat.beq e d = false := by
  rw [← Bool.not_eq_true, Nat.beq_eq]; rintro rfl; rw [he] at h; cases h
 simp [dM.get, this, h]
theorem Tr.weak2 {e : Nat} {u v : Value} (he : env.get e = none) (h : Tr w0 N ds ((d, v) :: env) M X) : Tr w0 N ds ((d, v) :: (e, u) :: env) M X :=
 fun a w ha hw => h a w (ha.sub fun d' v' h' => by
  simp only [dM.get] at h' ⊢
  cases hd : Nat.beq d d'
  ·rw [hd] at h'; exact aN0 he d' v' h'
  ·rw [hd] at h'; exact h') hw
theorem dJ {c y : Bool} (h : c = false) : y = (c || y) := by simp [h]
theorem dK {c y : Bool} (h : c = true) : true = (c || y) := by simp [h]
theorem dT {c y : Bool} (h : c = true) : y = (c && y) := by simp [h]
theorem dU {c y : Bool} (h : c = false) : false = (c && y) := by simp [h]
theorem aZ (n : Nat) {s d : Nat} {c y : Bool} {l : List Oper} (hs : env.get s = some (.bool c))
  (h1 : c = false → ∀ K : Act → World → Prop, (∀ b : Bool, b = (c || y) → Tr w0 N ds ((d, .bool b) :: env) M K) → Tr w0 N ds env M (wpList P ops (Exit.then K Q) (l.take n)))
  (h2 : c = true → ∀ K : Act → World → Prop, (∀ b : Bool, b = (c || y) → Tr w0 N ds ((d, .bool b) :: env) M K) → Tr w0 N ds env M (wpList P ops (Exit.then K Q) (l.take n)))
  (h3 : Tr w0 N ds ((d, .bool (c || y)) :: env) M (wpList P ops Q (l.drop n))) : Tr w0 N ds env M (wpList P ops Q l) :=
 t_cut n ((d, .bool (c || y)) :: env) M (fun K hK => by
  cases hc : c
  ·exact h1 hc K fun b e => by rw [e]; exact hK
  ·exact h2 hc K fun b e => by rw [e]; exact hK) h3
theorem bH (n : Nat) {s d : Nat} {c y : Bool} {l : List Oper} (hs : env.get s = some (.bool c))
  (h1 : c = true → ∀ K : Act → World → Prop, (∀ b : Bool, b = (c && y) → Tr w0 N ds ((d, .bool b) :: env) M K) → Tr w0 N ds env M (wpList P ops (Exit.then K Q) (l.take n)))
  (h2 : c = false → ∀ K : Act → World → Prop, (∀ b : Bool, b = (c && y) → Tr w0 N ds ((d, .bool b) :: env) M K) → Tr w0 N ds env M (wpList P ops (Exit.then K Q) (l.take n)))
  (h3 : Tr w0 N ds ((d, .bool (c && y)) :: env) M (wpList P ops Q (l.drop n))) : Tr w0 N ds env M (wpList P ops Q l) :=
 t_cut n ((d, .bool (c && y)) :: env) M (fun K hK => by
  cases hc : c
  ·exact h2 hc K fun b e => by rw [e]; exact hK
  ·exact h1 hc K fun b e => by rw [e]; exact hK) h3
theorem g_val {j s : Nat} {b c : Bool} (hc : c = b) (hs : fY ops j = some s) (hb : env.get s = some (.bool c)) (hr : fL P w0 N ds env M o t v) (hd : Nat.ble (d + 1) N = true)
  (h : Tr w0 N ds ((d, v) :: env) M (wpList P ops Q rest)) : Tr w0 N ds env M (wpList P ops Q (⟨some d, o, t, pos, af, some (j, b)⟩ :: rest)) := by
 subst hc; exact bI4 hs hb hr hd h
theorem dB {j s : Nat} {b c : Bool} {dst : Option Tmp} (hc : c = b) (hs : fY ops j = some s) (hb : env.get s = some (.bool c)) (h : Eff P Q w0 N ds env M ⟨dst, o, t, pos, af, some (j, b)⟩ (wpList P ops Q rest)) :
  Tr w0 N ds env M (wpList P ops Q (⟨dst, o, t, pos, af, some (j, b)⟩ :: rest)) := by
 subst hc; exact gB hs hb h
theorem aH {j s : Nat} {b c want : Bool} (hc : c = b) (hs : fY ops j = some s) (hb : env.get s = some (.bool c)) (hne : (b == want) = false) (hd : Nat.ble (d + 1) N = true)
  (h : Tr w0 N ds ((d, undef) :: env) M (wpList P ops Q rest)) : Tr w0 N ds env M (wpList P ops Q (⟨some d, o, t, pos, af, some (j, want)⟩ :: rest)) := by
 subst hc; exact lM hs hb hne hd h
theorem bV {c x y : Operand} {b : Bool} {u : Value} (h : b = true) (hc : env.op c = some (.bool b)) (hx : env.op x = some u) :
  fL P w0 N ds env M (.pick c x y) t u := by subst h; exact cG hc hx
theorem bW {c x y : Operand} {b : Bool} {u : Value} (h : b = false) (hc : env.op c = some (.bool b)) (hx : env.op y = some u) :
  fL P w0 N ds env M (.pick c x y) t u := by subst h; exact bS hc hx
variable {S : List Ent} {fuel : Nat} {listed : Array Bool}
theorem dg_val (i : Nat) {j s : Nat} {b c : Bool} (hc : c = b) (hi : ops[i]? = some ⟨some d, o, t, pos, af, some (j, b)⟩) (hs : Region.noSelect ops = true) (hf : Region.free .any ops listed i = true) (hr : (Region.ready .any ops listed).contains i = true)
  (hQ : bK Q) (hSM : S.Sublist M) (hds : fY ops j = some s) (hb : env.get s = some (.bool c)) (hd : Nat.ble (d + 1) N = true) (hv : fL P w0 N ds env S o t v)
  (h : Tr w0 N ds ((d, v) :: env) M (wpAnyH P .any ops Q (Ok w0 S) fuel (listed.setIfInBounds i true))) :
  Tr w0 N ds env M (wpAnyH P .any ops Q (Ok w0 S) (fuel + 1) listed) := by subst hc; exact bI6 i hi hs hf hr hQ hSM hds hb hd hv h
theorem dg_skip (i : Nat) {j s : Nat} {b c want : Bool} (hc : c = b) (hi : ops[i]? = some ⟨some d, o, t, pos, af, some (j, want)⟩) (hs : Region.noSelect ops = true) (hf : Region.free .any ops listed i = true) (hr : (Region.ready .any ops listed).contains i = true)
  (hQ : bK Q) (hSM : S.Sublist M) (hds : fY ops j = some s) (hb : env.get s = some (.bool c)) (hne : (b == want) = false) (hd : Nat.ble (d + 1) N = true)
  (h : Tr w0 N ds ((d, undef) :: env) M (wpAnyH P .any ops Q (Ok w0 S) fuel (listed.setIfInBounds i true))) :
  Tr w0 N ds env M (wpAnyH P .any ops Q (Ok w0 S) (fuel + 1) listed) := by subst hc; exact aW7 i hi hs hf hr hQ hSM hds hb hne hd h
theorem tR (i : Nat) {dst : Option Tmp} {j s : Nat} {b c : Bool} (hc : c = b) (hi : ops[i]? = some ⟨dst, o, t, pos, af, some (j, b)⟩) (hr : Region.ready .any ops listed = [i]) (hds : fY ops j = some s) (hb : env.get s = some (.bool c))
  (h : Eff P Q w0 N ds env M ⟨dst, o, t, pos, af, some (j, b)⟩ (fun a w => Ok w0 S w ∧ wpAnyH P .any ops Q (Ok w0 S) fuel (listed.setIfInBounds i true) a w)) :
  Tr w0 N ds env M (wpAnyH P .any ops Q (Ok w0 S) (fuel + 1) listed) := by subst hc; exact jU i hi hr hds hb h
theorem t_cases {b : Bool} (h1 : b = true → Tr w0 N ds env M X) (h2 : b = false → Tr w0 N ds env M X) : Tr w0 N ds env M X := by
 cases hb : b
 ·exact h2 hb
 ·exact h1 hb
end
end Go.Sl
set_option linter.unusedVariables false
set_option linter.unusedSectionVars false
set_option linter.unusedSimpArgs false
namespace Go.Sl
open Go
structure SlRd (w0 : World) (M : List Ent) (z : Nat) (A : Option Addr) (n : Nat) (xs : List (List Value)) : Prop where
 len : xs.length = n
 wide : ∀ x ∈ xs, x.length = z
 big : n ≤ 4611686018427387904
 at' : 0 < n → ∃ b o, A = some ⟨b, o, none⟩ ∧ ∀ j x, xs[j]? = some x → ∀ k v, x[k]? = some v → Rd w0 M ⟨b, o + j * z + k, none⟩ v
theorem SlRd.sub {w0 : World} {M M' : List Ent} {z n : Nat} {A : Option Addr} {xs : List (List Value)} (h : SlRd w0 M z A n xs) (hs : M.Sublist M') : SlRd w0 M' z A n xs :=
 ⟨h.len, h.wide, h.big, fun hn => by
  obtain ⟨b, o, e, hr⟩ := h.at' hn
  exact ⟨b, o, e, fun j x hx k v hv => (hr j x hx k v hv).sub hs⟩⟩
theorem SlRd.cons {w0 : World} {M : List Ent} {e : Ent} {z n : Nat} {A : Option Addr} {xs : List (List Value)} (h : SlRd w0 M z A n xs) : SlRd w0 (e :: M) z A n xs := h.sub (List.sublist_cons_self _ _)
theorem SlRd.nil {w0 : World} {M : List Ent} {z : Nat} {A : Option Addr} : SlRd w0 M z A 0 [] := ⟨rfl, by simp, by omega, by omega⟩
def bT (xs : List (List Value)) : List Value := xs.flatten
theorem xP {z : Nat} : ∀ {xs : List (List Value)}, (∀ x ∈ xs, x.length = z) → ∀ j x, xs[j]? = some x → ∀ k v, x[k]? = some v → (bT xs)[j * z + k]? = some v := by
 intro xs
 induction xs with
 | nil => intro _ j x h; simp at h
 | cons y ys ih =>
  intro hw j x hj k v hk
  have hy : y.length = z := hw y (by simp)
  simp only [bT, List.flatten_cons]
  cases j with
  | zero =>
   simp at hj; subst hj
   have : k < y.length := (List.getElem?_eq_some_iff.1 hk).1
   rw [Nat.zero_mul, Nat.zero_add, List.getElem?_append_left this]; exact hk
  | succ j =>
   simp at hj
   have h2 := ih (fun x hx => hw x (by simp [hx])) j x hj k v hk
   rw [List.getElem?_append_right (by rw [Nat.succ_mul]; omega), hy, show (j + 1) * z + k - z = j * z + k by rw [Nat.succ_mul]; omega]
   exact h2
theorem SlRd.of_cel {w0 : World} {M : List Ent} {z n b : Nat} {T : TypeId} {xs : List (List Value)} {sp : List Value} (hm : cel b T (bT xs ++ sp) ∈ M) (hl : xs.length = n) (hw : ∀ x ∈ xs, x.length = z) (hb : n ≤ 4611686018427387904) :
  SlRd w0 M z (some ⟨b, 0, none⟩) n xs :=
 ⟨hl, hw, hb, fun _ => ⟨b, 0, rfl, fun j x hj k v hk => qQ hm (by
  have := xP hw j x hj k v hk
  have hlt := (List.getElem?_eq_some_iff.1 this).1
  rw [Nat.zero_add]
  simp only [List.getElem?_toArray]
  rw [List.getElem?_append_left hlt]; exact this)⟩⟩
section
variable {P : Program} {w0 : World} {N : Nat} {ds : List Deferred} {env : dM} {M : List Ent} {t : TypeId}
theorem cL {sT : TypeId} {x ix : Operand} {e : TypeId} {A : Option Addr} {b o n c : Nat} {k : IntKind} {i : Int} {z : Nat} (j : Nat) (hT : P.underlying sT = some (.slice e)) (hi : (P.info? e).map (·.size) = some z)
  (hA : A = some ⟨b, o, none⟩) (hx : env.op x = some (.slice A n c)) (hix : env.op ix = some (.int k i)) (hj : i = (j : Int)) (hn : j < n) :
  fL P w0 N ds env M (.indexAddr sT x ix) t (.pointer (some ⟨b, o + j * z, none⟩)) := by
 subst hA; exact dE hT hi hx hix hj hn
end
def mO {α : Type} (p : α → Bool) : List α → Int
 | [] => -1
 | x :: xs => if p x then 0 else let i := mO p xs; if i < 0 then -1 else i + 1
theorem lQ {α : Type} (p : α → Bool) : ∀ (xs : List α), (∀ x ∈ xs, p x = false) → mO p xs = -1 := by
 intro xs
 induction xs with
 | nil => intro _; rfl
 | cons x xs ih => intro h; simp [mO, h x (by simp), ih (fun y hy => h y (by simp [hy]))]
theorem nE {α : Type} (p : α → Bool) : ∀ (xs : List α) (k : Nat) (x : α), xs[k]? = some x → p x = true → (∀ j, j < k → ∀ y, xs[j]? = some y → p y = false) → mO p xs = (k : Int) := by
 intro xs
 induction xs with
 | nil => intro k x h; simp at h
 | cons y ys ih =>
  intro k x hk hp hlt
  cases k with
  | zero => simp at hk; subst hk; simp [mO, hp]
  | succ k =>
   have hy := hlt 0 (by omega) y (by simp)
   have := ih k x (by simpa using hk) hp (fun j hj z hz => hlt (j + 1) (by omega) z (by simpa using hz))
   simp [mO, hy, this]; omega
theorem lR {α : Type} (p : α → Bool) (xs : List α) : decide (0 ≤ mO p xs) = xs.any p := by
 induction xs with
 | nil => rfl
 | cons x xs ih =>
  simp only [mO, List.any_cons]
  cases hx : p x
  ·simp only [Bool.false_or, ← ih, if_false, Bool.false_eq_true]
   split <;> simp <;> omega
  ·simp
end Go.Sl
set_option linter.unusedVariables false
set_option linter.unusedSectionVars false
set_option linter.unusedSimpArgs false
namespace Go.Sl
open Go
section
variable {P : Program} {Q : Exit → Act → World → Prop} {w0 : World} {N : Nat} {ds : List Deferred} {env : dM} {M : List Ent} {t : TypeId} {X : Act → World → Prop}
theorem aK {b k : Nat} {T : TypeId} {l : List Value} {v : Value} (hm : cel b T l ∈ M) (hv : l[k]? = some v) : Rd w0 M ⟨b, k, none⟩ v :=
 qQ hm (by simpa using hv)
theorem bL {b k n : Nat} {T : TypeId} {l vs : List Value} (hm : cel b T l ∈ M) (hv : (l.drop k).take n = vs) :
  ∀ j v, vs[j]? = some v → Rd w0 M ⟨b, k + j, none⟩ v := rds_ent hm (by simpa using hv)
theorem nP {pre l : List Value} {j : Nat} {v : Value} (h : l[j]? = some v) : (pre ++ l)[pre.length + j]? = some v := by
 rw [List.getElem?_append_right (by omega), Nat.add_sub_cancel_left]; exact h
theorem SetAt.app {pre l l' : List Value} {j : Nat} {v : Value} (h : SetAt l j v l') : SetAt (pre ++ l) (pre.length + j) v (pre ++ l') := by
 induction pre with
 | nil => simpa using h
 | cons x pre ih =>
  have : (x :: pre).length + j = (pre.length + j) + 1 := by simp; omega
  rw [this]; exact .succ ih
theorem dN {s : Nat} {b : Bool} (hs : env.get s = some (.bool b)) (h1 : b = true → Tr w0 N ds env M X) (h2 : b = false → Tr w0 N ds env M X) : Tr w0 N ds env M X := t_cases h1 h2
end
end Go.Sl
namespace Go.Sl
open Go
section
variable {P : Program} {Q : Exit → Act → World → Prop} {w0 : World} {N : Nat} {ds : List Deferred} {env : dM} {M : List Ent} {t : TypeId} {X : Act → World → Prop}
theorem mG (ups : dM) {c : Code} (h1 : ∀ K : Act → World → Prop, Tr w0 N ds (ups ++ env) M K → Tr w0 N ds env M (c.wp P (Exit.then K Q)))
  (h2 : Tr w0 N ds (ups ++ env) M (Q .normal)) : Tr w0 N ds env M (c.wp P Q) := bI5 (ups ++ env) M h1 h2
theorem bI8 (ups : dM) (M' : List Ent) {c : Code} (h1 : ∀ K : Act → World → Prop, Tr w0 N ds (ups ++ env) M' K → Tr w0 N ds env M (c.wp P (Exit.then K Q)))
  (h2 : Tr w0 N ds (ups ++ env) M' (Q .normal)) : Tr w0 N ds env M (c.wp P Q) := bI5 (ups ++ env) M' h1 h2
end
end Go.Sl
set_option linter.unusedVariables false
set_option linter.unusedSectionVars false
set_option linter.unusedSimpArgs false
namespace Go.Sl
open Go
structure Own (T : TypeId) (z : Nat) (v : Value) (xs : List (List Value)) (E : List Ent) : Prop where
 wide : ∀ x ∈ xs, x.length = z
 sh : (v = .slice none 0 0 ∧ xs = [] ∧ E = []) ∨ (∃ b c l, v = .slice (some ⟨b, 0, none⟩) xs.length c ∧ E = [cel b T l] ∧ l.length = c * z ∧ xs.length ≤ c ∧ c ≤ maxLen ∧ l.take (xs.length * z) = bT xs)
theorem Own.nil (T : TypeId) (z : Nat) : Own T z (.slice none 0 0) [] [] := ⟨by simp, .inl ⟨rfl, rfl, rfl⟩⟩
theorem gD {z : Nat} : ∀ {xs : List (List Value)}, (∀ x ∈ xs, x.length = z) → (bT xs).length = xs.length * z := by
 intro xs
 induction xs with
 | nil => intro _; simp [bT]
 | cons y ys ih =>
  intro h
  have := ih (fun x hx => h x (by simp [hx]))
  simp only [bT, List.flatten_cons, List.length_append, List.length_cons] at this ⊢
  rw [h y (by simp), this, Nat.succ_mul]; omega
theorem Own.made {T : TypeId} {z b n : Nat} {xs : List (List Value)} (hw : ∀ x ∈ xs, x.length = z) (hn : xs.length = n) (hb : n ≤ maxLen) : Own T z (.slice (some ⟨b, 0, none⟩) n n) xs [cel b T (bT xs)] := by
 subst hn
 exact ⟨hw, .inr ⟨b, _, _, rfl, rfl, gD hw, Nat.le_refl _, hb, by rw [← gD hw, List.take_length]⟩⟩
theorem Own.len {T : TypeId} {z : Nat} {v : Value} {xs : List (List Value)} {E : List Ent} (h : Own T z v xs E) : ∃ A c, v = .slice A xs.length c ∧ xs.length ≤ maxLen := by
 rcases h.sh with ⟨rfl, rfl, rfl⟩ | ⟨b, c, l, rfl, rfl, _, h1, h2, _⟩
 ·exact ⟨none, 0, rfl, by simp⟩
 ·exact ⟨_, c, rfl, by omega⟩
section
variable {P : Program} {Q : Exit → Act → World → Prop} {w0 : World} {N : Nat} {ds : List Deferred} {env : dM} {M : List Ent} {t : TypeId} {X Φ : Act → World → Prop}
 {pos : String} {af : Array Edge} {g : Option (Nat × Bool)} {d : Nat}
theorem nQ {T e : TypeId} {x y : Operand} {p : Option Addr} {yT : TypeId} (hT : P.underlying T = some (.pointer e)) (hx : env.op x = some (.pointer p)) (hy : env.op y = some (.pointer none)) :
  fL P w0 N ds env M (.binOp .neq T x y yT) t (.bool p.isSome) := gO hx hy (eqGuard_at_pointer _ _ _ _ _ _) fun w => by
 have : P.pointee T = e := by simp [Program.pointee, hT]
 rw [run_neq_pointer_nil w T p (by rw [this]; exact hT)]
 cases p <;> rfl
theorem vU {T e : TypeId} {x y : Operand} {p : Option Addr} {yT : TypeId} (hT : P.underlying T = some (.pointer e)) (hx : env.op x = some (.pointer p)) (hy : env.op y = some (.pointer none)) :
  fL P w0 N ds env M (.binOp .eql T x y yT) t (.bool p.isNone) := gO hx hy (eqGuard_at_pointer _ _ _ _ _ _) fun w => by
 have : P.pointee T = e := by simp [Program.pointee, hT]
 rw [run_eql_pointer_nil w T p (by rw [this]; exact hT)]
theorem xQ {aT : TypeId} {x ix : Operand} {e : TypeId} {n b o : Nat} {k : IntKind} {i : Int} {j z : Nat} (hT : P.underlying aT = some (.array n e)) (hi : (P.info? e).map (·.size) = some z)
  (hx : env.op x = some (.pointer (some ⟨b, o, none⟩))) (hix : env.op ix = some (.int k i)) (hj : i = (j : Int)) (hn : j < n) :
  fL P w0 N ds env M (.indexAddr aT x ix) t (.pointer (some ⟨b, o + j * z, none⟩)) := fun a w pos af g dst ha hw => by
 obtain ⟨inf, hinf, hz⟩ := Option.map_eq_some_iff.1 hi
 subst hj
 have h1 : (0 : Int) ≤ (j : Int) ∧ (j : Int) < (n : Int) := by omega
 simp [execOp, ha.op hx, ha.op hix, Instr.indexAt, Instr.sureAddr, asIntOf, run_underlying hT, h1, hn, sizeOf, typeInfo, hinf, hz, Addr.add_lit]
theorem xR (m : Nat) (zs : List Value) (h : 0 < zs.length) : ((Array.range (m * zs.length)).map (fun i => zs.toArray[i % zs.length]!)) = (bT (List.replicate m zs)).toArray := by
 have hw : ∀ x ∈ List.replicate m zs, x.length = zs.length := fun x hx => by rw [List.eq_of_mem_replicate hx]
 apply Array.ext
 ·simp [gD hw]
 ·intro i h1 h2
  simp at h1
  have hlt : i / zs.length < m := by
   rw [Nat.div_lt_iff_lt_mul h]; exact h1
  have hmod := Nat.mod_lt i h
  have := xP hw (i / zs.length) zs (by simp [hlt]) (i % zs.length) (zs[i % zs.length]'hmod) (by simp [hmod])
  rw [Nat.div_add_mod' i zs.length] at this
  have h3 : (bT (List.replicate m zs)).toArray[i] = zs[i % zs.length] := by
   have h4 := List.getElem?_eq_some_iff.1 this
   obtain ⟨h5, h6⟩ := h4
   simpa using h6
  rw [h3]
  simp [hmod]
theorem cU {T e : TypeId} {x : Operand} {m by' : Nat} {z : Value} {zs : List Value} (hT : P.underlying T = some (.slice e)) (hz : (P.info? e).map (fun i => (i.zero, i.size, i.bytes)) = some (some z, zs.length, by'))
  (hc : z.cells = zs.toArray) (h0 : 0 < zs.length) (hx : env.op x = some (.int .i64 (m : Int))) (hb : by' * m ≤ 281474976710656) (hm : m ≤ 9223372036854775807) (hd : Nat.ble (d + 1) N = true)
  (k : ∀ b, Tr w0 N ds ((d, .slice (some ⟨b, 0, none⟩) m m) :: env) (cel b e (bT (List.replicate m zs)) :: M) Φ) :
  Eff P Q w0 N ds env M ⟨some d, .makeSlice T x x, t, pos, af, g⟩ Φ := fun a w ha hw => by
 obtain ⟨i, hi, hh⟩ := Option.map_eq_some_iff.1 hz
 simp only [Prod.mk.injEq] at hh
 obtain ⟨hz0, hz1, hz2⟩ := hh
 have hwr : IntKind.i64.wrap (m : Int) = (m : Int) := jI (by omega)
 have ht : ¬ ((2 : Int) ^ 48 < (by' : Int) * (m : Int)) := by
  have : ((by' * m : Nat) : Int) ≤ 281474976710656 := by omega
  push_cast at this
  have e : (2 : Int) ^ 48 = 281474976710656 := by decide
  omega
 have hn : ¬ ((m : Int) < 0) := by omega
 have hcells : (if m * zs.length = 0 then (pure #[] : Sem (Array Value)) else do pure (← zeroValue e).cells).run P w = .ok (if m * zs.length = 0 then #[] else zs.toArray) w := by
  split
  ·rfl
  ·simp [zeroValue, typeInfo, hi, hz0, hc]
 have hrun : (Instr.makeSlice T (.int .i64 (m : Int)) (.int .i64 (m : Int))).run P w = .ok (.slice (some ⟨w.heap.size, 0, none⟩) m m) { w with heap := w.heap.push (.cells (bT (List.replicate m zs)).toArray e) } := by
  unfold Instr.makeSlice
  simp only [Sem.run_bind, run_underlying hT, Result.andThen_ok, asInt, asIntOf, Sem.run_pure, typeInfo, run_program, hi, hz2, hwr, ht, hn, decide_false, Bool.or_false, Bool.false_or, Bool.false_eq_true, if_false, gt_iff_lt, Int.lt_irrefl, run_askRoom, sizeOf, hz1, Int.toNat_natCast]
  rcases Nat.eq_zero_or_pos m with rfl | hm0
  ·simp [newRow, bT, Array.range_zero']
  ·have hne : m * zs.length ≠ 0 := by have := Nat.mul_pos hm0 h0; omega
   simp only [hne, if_false, zeroValue, typeInfo, Sem.run_bind, run_program, Result.andThen_ok, hi, hz0, Sem.run_pure, hc, newRow, run_newObj]
   rw [← xR m zs h0]
   simp
 simp only [Oper.wp, execOp, ha.op hx, Sem.run_bind, hrun, Result.andThen_ok, Sem.run_pure, Oper.upon]
 exact k _ _ _ (ha.put hd _) (hw.push _)
theorem aG9 {T : TypeId} {z n b c : Nat} {l xs : List Value} {w : World} {M : List Ent} (hw : Ok w0 M w) (hm : cel b T l ∈ M) (hl : l.length = c * z) (hn : n ≤ c) (hc : c ≤ maxLen) (hx : l.take (n * z) = xs) (hxl : xs.length = n * z) :
  w.ownsRow w0.heap.size T z (.slice (some ⟨b, 0, none⟩) n c) n xs :=
 ⟨hxl, .inr ⟨b, c, l.toArray, rfl, hw.fresh _ hm, hw.mem _ hm, hn, hc, by simpa using hl, by simpa using hx⟩⟩
theorem fN {T e : TypeId} {s y : Operand} {z by' bx : Nat} {zv : Value} {v : Value} {xs : List (List Value)} {x : List Value} {E Fr : List Ent} (hT : P.underlying T = some (.slice e))
  (hz : (P.info? e).map (fun i => (i.zero, i.size, i.bytes)) = some (some zv, z, by')) (hzc : zv.cells.size = z) (h0 : 0 < z)
  (hs : env.op s = some v) (hy : env.op y = some (.slice (some ⟨bx, 0, none⟩) 1 1)) (hown : Own e z v xs E) (hM : M.Perm (cel bx e x :: (E ++ Fr))) (hxl : x.length = z) (h1 : ∀ u ∈ x, u.oneCell' = true)
  (hb : (xs.length + 1) * by' ≤ 140737488355328) (hlen : xs.length + 1 ≤ maxLen) (hd : Nat.ble (d + 1) N = true)
  (k : ∀ v' E', Own e z v' (xs ++ [x]) E' → Tr w0 N ds ((d, v') :: env) (E' ++ Fr) Φ) :
  Eff P Q w0 N ds env M ⟨some d, .call { callee := .builtin .append, args := #[s, y], argTypes := #[T, T] }, t, pos, af, g⟩ Φ := fun a w ha hw => by
 obtain ⟨i, hi, hh⟩ := Option.map_eq_some_iff.1 hz
 simp only [Prod.mk.injEq] at hh
 obtain ⟨hz0, hz1, hz2⟩ := hh
 have hw' := hw.perm hM
 have hmx : cel bx e x ∈ cel bx e x :: (E ++ Fr) := List.Mem.head _
 have hfl := gD hown.wide
 have hrow : w.ownsRow w0.heap.size e z v xs.length (bT xs) := by
  rcases hown.sh with ⟨rfl, rfl, rfl⟩ | ⟨b, c, l, rfl, rfl, h2, h3, h4, h5⟩
  ·exact ⟨by simp [bT], .inl ⟨rfl, rfl⟩⟩
  ·exact aG9 hw' (by simp) h2 h3 h4 h5 hfl
 have hcells : ∀ j u, x[j]? = some u → w.cell? ((⟨bx, 0, none⟩ : Addr).add j) = some u := fun j u hj => by
  rw [Addr.add_lit]
  exact qQ hmx (by simpa using hj) w hw'
 obtain ⟨v', w', hr, ho', hg, _, hat⟩ := run_append_own_at (P := P) w w0.heap.size T t e i zv z by' hT hi hz0 hz1 hz2 hzc h0 v xs.length (bT xs) hrow ⟨bx, 0, none⟩ 1 1 x (by simpa using hxl) hcells h1 hlen hb hw.size
 have hfl' : bT xs ++ x = bT (xs ++ [x]) := by simp [bT]
 rw [hfl'] at ho'
 have hwide' : ∀ y ∈ xs ++ [x], y.length = z := fun y hy => by
  rcases List.mem_append.1 hy with h | h
  ·exact hown.wide y h
  ·simp at h; rw [h]; exact hxl
 have hln : (xs ++ [x]).length = xs.length + 1 := by simp
 simp [Oper.wp, execOp, resolve, invoke, builtin, ha.op hs, ha.op hy, hr, Oper.upon]
 rcases ho'.2 with ⟨_, h⟩ | ⟨b', c', cur, rfl, hbb, hheap, hle, hmax, hsz, htk⟩
 ·omega
 ·refine k _ [cel b' e cur.toList] ⟨hwide', .inr ⟨b', c', cur.toList, by rw [hln], rfl, by simpa using hsz, by omega, hmax, by rw [hln]; exact htk⟩⟩ _ _ (ha.put hd _) ?_
  have hnd := hw'.nodup
  have hFr : ∀ f ∈ Fr, f.b < w.heap.size := fun f hf => hw'.lt (by simp [hf])
  have hne : ∀ f ∈ Fr, f.b ≠ b' ∧ w'.heap[f.b]? = w.heap[f.b]? := by
   intro f hf
   have hlt := hFr f hf
   rcases hown.sh with ⟨rfl, rfl, rfl⟩ | ⟨b, c, l, rfl, rfl, h2, h3, h4, h5⟩
   ·have hb' : b' = w.heap.size := by simpa [Value.ownBlock] using hat
    exact ⟨by omega, hg.block _ hlt (by simp [Value.ownBlock])⟩
   ·have hfb : f.b ≠ b := by
     intro e'
     simp at hnd
     have := hnd.2.1 f hf
     exact this e'
    have hblk := hg.block _ hlt (by simp [Value.ownBlock]; exact hfb)
    simp [Value.ownBlock] at hat
    rcases hat with hat | hat
    ·exact ⟨by rw [hat]; exact hfb, hblk⟩
    ·exact ⟨by omega, hblk⟩
  refine ⟨hg.os.trans hw.os, hg.tape.trans hw.tape, hg.output.trans hw.output, Nat.le_trans hw.size hg.size, fun c hc => ?_, ?_, ?_, ?_⟩
  ·rw [hg.block c (Nat.lt_of_lt_of_le hc hw.size) ?_]
   ·exact hw.old c hc
   ·rcases hown.sh with ⟨rfl, rfl, rfl⟩ | ⟨b, c2, l, rfl, rfl, h2, h3, h4, h5⟩
    ·simp [Value.ownBlock]
    ·have := hw'.fresh (cel b e l) (by simp)
     simp [Value.ownBlock]; simp at this; omega
  ·simp only [List.singleton_append, List.map_cons, List.nodup_cons]
   refine ⟨fun hm => ?_, ?_⟩
   ·obtain ⟨f, hf, hfe⟩ := List.mem_map.1 hm
    exact (hne f hf).1 hfe
   ·simp only [List.map_cons, List.map_append, List.nodup_cons] at hnd
    exact (List.nodup_append.1 hnd.2).2.1
  ·intro f hf
   simp only [List.singleton_append, List.mem_cons] at hf
   rcases hf with rfl | hf
   ·exact hbb
   ·exact hw'.fresh f (by simp [hf])
  ·intro f hf
   simp only [List.singleton_append, List.mem_cons] at hf
   rcases hf with rfl | hf
   ·simpa using hheap
   ·rw [(hne f hf).2]; exact hw'.mem f (by simp [hf])
end
end Go.Sl
set_option linter.unusedVariables false
set_option linter.unusedSectionVars false
set_option linter.unusedSimpArgs false
namespace Go.Sl
open Go
section
variable {P : Program} {Q : Exit → Act → World → Prop} {w0 : World} {N : Nat} {ds : List Deferred} {env : dM} {M : List Ent} {t : TypeId} {X Φ : Act → World → Prop}
 {pos : String} {af : Array Edge} {g : Option (Nat × Bool)} {d : Nat} {ops : Array Oper} {o : Op} {v : Value}
theorem dV {S : List Ent} {id n : Nat} (hSM : S.Sublist M) (hm : P.follows .mixedOrders = true) (hn : ops.size = n) (h : Tr w0 N ds env M (wpAnyH P .any ops Q (Ok w0 S) n (Array.replicate n false))) :
  Tr w0 N ds env M ((Code.region id ops true).wp P Q) := fun a w ha hw => by
 subst hn
 exact wp_region_held hm (h a _ ha (hw.drawn _))
theorem iK (hr : fL P w0 N ds env M o t v) (hd : Nat.ble (d + 1) N = true) (h : Tr w0 N ds ((d, v) :: env) M Φ) : Eff P Q w0 N ds env M ⟨some d, o, t, pos, af, g⟩ Φ := fun a w ha hw => by
 simp only [Oper.wp, hr a w pos af g (some d) ha hw, Oper.upon]
 exact h _ _ (ha.put hd v) hw
theorem fD {M' : List Ent} {f : FuncId} {fo : Operand} {fst cap : Array Value} {xs : List Operand} {T : Array TypeId} {vs : List Value} {v : Value} (he : aV P f) (hfo : env.op fo = some (.func (.func f) fst cap))
  (hx : env.opl xs = some vs) {args : Array Value} (hargs : fst ++ vs.toArray ++ cap = args) (hd : Nat.ble (d + 1) N = true)
  (hc : ∀ w, Ok w0 M w → Calls P f args w (fun e w' => e = .returned v ∧ Ok w0 M' w'))
  (hk : Tr w0 N ds ((d, v) :: env) M' Φ) :
  Eff P Q w0 N ds env M ⟨some d, .call { callee := .value fo, args := xs.toArray, argTypes := T }, t, pos, af, g⟩ Φ :=
 vR he hfo hx hargs hc fun a e w' ha ⟨h1, h3⟩ => by subst h1; exact hk _ _ (ha.put hd _) h3
theorem kU {M' : List Ent} {f : FuncId} {fo : Operand} {fst cap : Array Value} {xs : List Operand} {T : Array TypeId} {vs : List Value} {ch : List PanicEntry} (he : aV P f) (hfo : env.op fo = some (.func (.func f) fst cap))
  (hx : env.opl xs = some vs) {args : Array Value} (hargs : fst ++ vs.toArray ++ cap = args)
  (hc : ∀ w, Ok w0 M w → Calls P f args w (fun e w' => e = .panicked ch ∧ Ok w0 M' w'))
  (hk : Tr w0 N ds env M' (Q (.panic ch))) :
  Eff P Q w0 N ds env M ⟨some d, .call { callee := .value fo, args := xs.toArray, argTypes := T }, t, pos, af, g⟩ Φ :=
 vR he hfo hx hargs hc fun a e w' ha ⟨h1, h3⟩ => by subst h1; exact hk _ _ ha h3
theorem gT {fn : Func} {R : Ending → World → Prop} {ch : List PanicEntry} (h : ∀ w, Ok w0 M w → R (.panicked ch) w) : Tr w0 N [] env M (bodyPost P fn R (.panic ch)) :=
 fun a w ha hw => ⟨ha.defers, h w hw⟩
theorem gZ {K : Act → World → Prop} {ch : List PanicEntry} (h : Tr w0 N ds env M (Q (.panic ch))) : Tr w0 N ds env M (Exit.then K Q (.panic ch)) := h
theorem nR {i : Nat} {ch : List PanicEntry} (h : Tr w0 N ds env M (Q (.panic ch))) : Tr w0 N ds env M (Exit.inBlock i Q (.panic ch)) := h
theorem aZ9 {α : Type} (xs : List α) (j : Nat) (x y : α) (h : xs[j]? = some x) : xs = xs.take j ++ x :: xs.drop (j + 1) ∧ xs.set j y = xs.take j ++ y :: xs.drop (j + 1) := by
 obtain ⟨hj, rfl⟩ := List.getElem?_eq_some_iff.1 h
 constructor
 ·rw [List.getElem_cons_drop]; exact (List.take_append_drop j xs).symm
 ·rw [List.set_eq_take_append_cons_drop, if_pos hj]
theorem qU {α : Type} (enc : α → List Value) (xs : List α) (j : Nat) (x y : α) (h : xs[j]? = some x) :
  bT (xs.map enc) = bT ((xs.take j).map enc) ++ (enc x ++ bT ((xs.drop (j + 1)).map enc)) ∧ bT ((xs.set j y).map enc) = bT ((xs.take j).map enc) ++ (enc y ++ bT ((xs.drop (j + 1)).map enc)) := by
 obtain ⟨h1, h2⟩ := aZ9 xs j x y h
 constructor
 ·conv => lhs; rw [h1]
  simp [bT]
 ·rw [h2]; simp [bT]
theorem kD {α : Type} (enc : α → List Value) (z : Nat) (hz : ∀ x, (enc x).length = z) (xs : List α) (j : Nat) (hj : j ≤ xs.length) : (bT ((xs.take j).map enc)).length = j * z := by
 rw [gD (z := z) (by simp only [List.mem_map]; rintro _ ⟨x, _, rfl⟩; exact hz x)]
 simp [Nat.min_eq_left hj]
theorem SlRd.of_list {α : Type} (enc : α → List Value) {z b n : Nat} {T : TypeId} {xs : List α} (hz : ∀ x, (enc x).length = z) (hm : cel b T (bT (xs.map enc)) ∈ M) (hn : xs.length = n) (hb : n ≤ 4611686018427387904) :
  SlRd w0 M z (some ⟨b, 0, none⟩) n (xs.map enc) :=
 SlRd.of_cel (sp := []) (by simpa using hm) (by simpa using hn) (by simp only [List.mem_map]; rintro _ ⟨x, _, rfl⟩; exact hz x) hb
end
end Go.Sl
namespace Go.Sl
open Go
section
variable {P : Program} {w0 : World} {N : Nat} {ds : List Deferred} {env : dM} {M : List Ent} {t : TypeId}
theorem nT {sT : TypeId} {x ix : Operand} {e : TypeId} {A : Option Addr} {b o n c : Nat} {k : IntKind} {i : Int} {z : Nat} (j q : Nat) (hT : P.underlying sT = some (.slice e)) (hi : (P.info? e).map (·.size) = some z)
  (hA : A = some ⟨b, o, none⟩) (hx : env.op x = some (.slice A n c)) (hix : env.op ix = some (.int k i)) (hj : i = (j : Int)) (hn : j < n) (hq : o + j * z = q) :
  fL P w0 N ds env M (.indexAddr sT x ix) t (.pointer (some ⟨b, q, none⟩)) := by
 subst hA; subst hq; exact dE hT hi hx hix hj hn
end
end Go.Sl
namespace Go.Sl
open Go
inductive Pick : List Ent → Ent → List Ent → Prop
 | here {x : Ent} {B : List Ent} : Pick (x :: B) x B
 | there {e x : Ent} {A A' : List Ent} (h : Pick A x A') : Pick (e :: A) x (e :: A')
 | left {x : Ent} {A A' B : List Ent} (h : Pick A x A') : Pick (A ++ B) x (A' ++ B)
 | right {x : Ent} {A B B' : List Ent} (h : Pick B x B') : Pick (A ++ B) x (A ++ B')
theorem Pick.perm {M M' : List Ent} {x : Ent} (h : Pick M x M') : M.Perm (x :: M') := by
 induction h with
 | here => exact .refl _
 | there h ih => exact (ih.cons _).trans (.swap _ _ _)
 | left h ih => exact (ih.append_right _)
 | right h ih => exact (ih.append_left _).trans List.perm_middle
theorem pk {M M1 R : List Ent} {x : Ent} (h : Pick M x M1) (h' : M1.Perm R) : M.Perm (x :: R) := h.perm.trans (h'.cons _)
section
variable {P : Program} {Q : Exit → Act → World → Prop} {w0 : World} {N : Nat} {ds : List Deferred} {env : dM} {M : List Ent} {ops : Array Oper} {S : List Ent} {fuel : Nat} {listed : Array Bool}
theorem xS (i j k : Nat) {oi oj ok : Oper} (hi : ops[i]? = some oi) (hj : ops[j]? = some oj) (hk : ops[k]? = some ok) (hgi : oi.guard = none) (hgj : oj.guard = none) (hgk : ok.guard = none) (hr : Region.ready .any ops listed = [i, j, k])
  (h : Eff P Q w0 N ds env M oi (fun a w => Ok w0 S w ∧ wpAnyH P .any ops Q (Ok w0 S) fuel (listed.setIfInBounds i true) a w))
  (h' : Eff P Q w0 N ds env M oj (fun a w => Ok w0 S w ∧ wpAnyH P .any ops Q (Ok w0 S) fuel (listed.setIfInBounds j true) a w))
  (h'' : Eff P Q w0 N ds env M ok (fun a w => Ok w0 S w ∧ wpAnyH P .any ops Q (Ok w0 S) fuel (listed.setIfInBounds k true) a w)) :
  Tr w0 N ds env M (wpAnyH P .any ops Q (Ok w0 S) (fuel + 1) listed) := fun a w ha hw => by
 refine wpAnyH_all hr (by simp) fun q hq => ?_
 simp only [List.mem_cons, List.not_mem_nil, or_false] at hq
 rcases hq with rfl | rfl | rfl
 ·unfold wpOp
  simp only [hi]
  rw [if_pos (by simp [Region.wanted, hgi])]
  exact .inl (h a w ha hw)
 ·unfold wpOp
  simp only [hj]
  rw [if_pos (by simp [Region.wanted, hgj])]
  exact .inl (h' a w ha hw)
 ·unfold wpOp
  simp only [hk]
  rw [if_pos (by simp [Region.wanted, hgk])]
  exact .inl (h'' a w ha hw)
theorem dO {K : Act → World → Prop} {env' : dM} {M' M1 : List Ent} (hK : Tr w0 N ds env' M' K) (he : env.has env') (hM : M.Perm M1) (hs : M'.Sublist M1) : Tr w0 N ds env M (Exit.then K Q .normal) :=
 Tr.keep he (Tr.perm hM (Tr.drop hs hK))
end
end Go.Sl
set_option linter.unusedVariables false
set_option linter.unusedSectionVars false
set_option linter.unusedSimpArgs false
namespace Go.Sl
open Go
def cutv (A : Option Addr) (j h c z : Nat) : Value := .slice (if c = j then A else A.map (·.add (j * z))) (h - j) (c - j)
section
variable {P : Program} {Q : Exit → Act → World → Prop} {w0 : World} {N : Nat} {ds : List Deferred} {env : dM} {M : List Ent} {t : TypeId} {Φ : Act → World → Prop}
 {pos : String} {af : Array Edge} {g : Option (Nat × Bool)} {d : Nat}
theorem fF {o : Op} {v v' : Value} (h : fL P w0 N ds env M o t v) (e : v = v') : fL P w0 N ds env M o t v' := e ▸ h
theorem elem_of {P : Program} {T e : TypeId} (hT : P.underlying T = some (.slice e)) : P.elem T = e := by simp [Program.elem, hT]
theorem aS1 {T e : TypeId} {x lo : Operand} {A : Option Addr} {n c z : Nat} {k : IntKind} {i : Int} (j : Nat) (hT : P.underlying T = some (.slice e)) (hi : (P.info? e).map (·.size) = some z)
  (hx : env.op x = some (.slice A n c)) (hl : env.op lo = some (.int k i)) (hj : i = (j : Int)) (hn : j ≤ n) :
  fL P w0 N ds env M (.slice T x (some lo) none none) t (cutv A j n c z) := fun a w pos af g dst ha hw => by
 obtain ⟨inf, hinf, hz⟩ := Option.map_eq_some_iff.1 hi
 subst hj
 have he := elem_of hT
 have hT' : P.underlying T = some (.slice (P.elem T)) := by rw [he]; exact hT
 have := run_slice_l (P := P) (w := w) T A n c hT' k (j : Int) (by omega) (by omega)
 simp [execOp, ha.op hx, ha.op hl, run_sliceAt_slice _ _ _ _ _ _ hT', this, he, sizeOf, typeInfo, hinf, hz, sliced, cutv]
theorem SlRd.cut {z n c : Nat} {A : Option Addr} {xs : List (List Value)} (h : SlRd w0 M z A n xs) (j : Nat) (hn : j ≤ n) (hc : n ≤ c) :
  ∃ A', cutv A j n c z = .slice A' (n - j) (c - j) ∧ SlRd w0 M z A' (n - j) (xs.drop j) := by
 by_cases h0 : n = j
 ·refine ⟨_, rfl, ?_⟩
  have : xs.drop j = [] := List.drop_eq_nil_of_le (by rw [h.len]; omega)
  rw [this, show n - j = 0 by omega]
  exact .nil
 ·have hne : ¬ c = j := by omega
  obtain ⟨b, o, rfl, hr⟩ := h.at' (by omega)
  refine ⟨some ⟨b, o + j * z, none⟩, by simp [cutv, hne, Addr.add_lit], ⟨by rw [List.length_drop, h.len], fun x hx => h.wide x (List.mem_of_mem_drop hx), by have := h.big; omega, fun _ => ⟨b, _, rfl, fun i x hx k v hv => ?_⟩⟩⟩
  rw [List.getElem?_drop] at hx
  have := hr _ _ hx k v hv
  rw [Nat.add_mul] at this
  rw [show o + j * z + i * z + k = o + (j * z + i * z) + k by omega]
  exact this
theorem bI9 {T : TypeId} {x lo : Operand} {s : ByteArray} {k : IntKind} {i : Int} (j : Nat) (hT : P.underlying T = some .string)
  (hx : env.op x = some (.string s)) (hl : env.op lo = some (.int k i)) (hj : i = (j : Int)) (hn : j ≤ s.size) :
  fL P w0 N ds env M (.slice T x (some lo) none none) t (.string (s.extract j s.size)) := fun a w pos af g dst ha hw => by
 subst hj
 simp [execOp, ha.op hx, ha.op hl, run_sliceAt_string _ _ _ _ _ _ hT, Instr.slice, run_underlying hT, Instr.sliceBounds, Instr.sliceBound, asIntOf, hn]
theorem aH0 {T : TypeId} {x hi' : Operand} {s : ByteArray} {k : IntKind} {i : Int} (j : Nat) (hT : P.underlying T = some .string)
  (hx : env.op x = some (.string s)) (hl : env.op hi' = some (.int k i)) (hj : i = (j : Int)) (hn : j ≤ s.size) :
  fL P w0 N ds env M (.slice T x none (some hi') none) t (.string (s.extract 0 j)) := fun a w pos af g dst ha hw => by
 subst hj
 simp [execOp, ha.op hx, ha.op hl, run_sliceAt_string _ _ _ _ _ _ hT, Instr.slice, run_underlying hT, Instr.sliceBounds, Instr.sliceBound, asIntOf, hn]
theorem r_ss_lh {T : TypeId} {x lo hi' : Operand} {s : ByteArray} {k k' : IntKind} {i i' : Int} (j j' : Nat) (hT : P.underlying T = some .string)
  (hx : env.op x = some (.string s)) (hl : env.op lo = some (.int k i)) (hh : env.op hi' = some (.int k' i')) (hj : i = (j : Int)) (hj' : i' = (j' : Int)) (hn : j ≤ j') (hn' : j' ≤ s.size) :
  fL P w0 N ds env M (.slice T x (some lo) (some hi') none) t (.string (s.extract j j')) := fun a w pos af g dst ha hw => by
 subst hj hj'
 simp [execOp, ha.op hx, ha.op hl, ha.op hh, run_sliceAt_string _ _ _ _ _ _ hT, Instr.slice, run_underlying hT, Instr.sliceBounds, Instr.sliceBound, asIntOf, hn, hn']
theorem qV {T : TypeId} {x ix : Operand} {s : ByteArray} {k : IntKind} {i : Int} {b : UInt8} (j : Nat) (hT : P.underlying T = some .string)
  (hx : env.op x = some (.string s)) (hl : env.op ix = some (.int k i)) (hj : i = (j : Int)) (hb : s[j]? = some b) :
  fL P w0 N ds env M (.index T x ix) t (.int .u8 (b.toNat : Int)) := fun a w pos af g dst ha hw => by
 subst hj
 simp [execOp, ha.op hx, ha.op hl, Instr.index, run_underlying hT, asIntOf, hb]
theorem aS2 {xT yT : TypeId} {x y : Operand} {b c : ByteArray} (hx : env.op x = some (.string b)) (hy : env.op y = some (.string c)) (hl : b.size + c.size ≤ maxLen) :
  fL P w0 N ds env M (.binOp .add xT x y yT) t (.string (b ++ c)) := gO hx hy (eqGuard_at_string _ _ _ _ _ _) fun w => by
 have : ¬ maxLen < b.size + c.size := by omega
 simp [binOp, Op.stringOp, this, Nat.not_lt, hl]
 unfold maxLen at hl; omega
theorem qW {src dst : TypeId} {x : Operand} {k k' : IntKind} {i : Int} {sd : TypeDesc} (hs : P.underlying src = some sd) (hd : P.underlying dst = some (.int k')) (hx : env.op x = some (.int k i)) :
  fL P w0 N ds env M (.convert src dst x) t (.int k' (k'.wrap i)) := fun a w pos af g dst' ha hw => by
 simp [execOp, ha.op hx, convert, run_underlying hs, run_underlying hd, Conv.intToInt]
theorem hD {src dst : TypeId} {x : Operand} {k k' : IntKind} {i i' : Int} {sd : TypeDesc} (hs : P.underlying src = some sd) (hd : P.underlying dst = some (.int k')) (hx : env.op x = some (.int k i)) (hi : k'.wrap i = i') :
  fL P w0 N ds env M (.convert src dst x) t (.int k' i') := hi ▸ qW hs hd hx
theorem aA0 {xT yT : TypeId} {x y : Operand} {k : IntKind} {i j : Int} (hx : env.op x = some (.int k i)) (hy : env.op y = some (.int k j)) : fL P w0 N ds env M (.binOp .and xT x y yT) t (.int k (bits .and k i j)) := gO hx hy (eqGuard_at_int _ _ _ _ _ _ _) fun w => by simp [binOp_and, intBits_and]
theorem r_or {xT yT : TypeId} {x y : Operand} {k : IntKind} {i j : Int} (hx : env.op x = some (.int k i)) (hy : env.op y = some (.int k j)) : fL P w0 N ds env M (.binOp .or xT x y yT) t (.int k (bits .or k i j)) := gO hx hy (eqGuard_at_int _ _ _ _ _ _ _) fun w => by simp [binOp_or, intBits_or]
end
end Go.Sl
set_option linter.unusedVariables false
set_option linter.unusedSectionVars false
set_option linter.unusedSimpArgs false
namespace Go.Sl
open Go
section
variable {α : Type} [DecidableEq α]
def dC (enc : α → Value) : Nat → List (α × Value) → List MapEntry
 | _, [] => []
 | i, p :: l => { key := enc p.1, val := p.2, born := i } :: dC enc (i + 1) l
abbrev kE (b : Nat) (enc : α → Value) (l : List (α × Value)) : Ent := ⟨b, .map (dC enc 0 l).toArray l.length⟩
def fG (a : α) : Nat → List (α × Value) → Option (Nat × Value)
 | _, [] => none
 | i, p :: l => if p.1 = a then some (i, p.2) else fG a (i + 1) l
def gH (a : α) : List (α × Value) → Option Value
 | [] => none
 | p :: l => if p.1 = a then some p.2 else gH a l
def fO (a : α) (v : Value) : List (α × Value) → List (α × Value)
 | [] => [(a, v)]
 | p :: l => if p.1 = a then (a, v) :: l else p :: fO a v l
structure KeyK (P : Program) (kt : TypeId) (enc : α → Value) : Prop where
 chk : ∀ e a w, (Instr.checkKey e 10000 kt (enc a)).run P w = .ok () w
 fnd : ∀ a l w, (Instr.findKey kt (enc a) (dC enc 0 l)).run P w = .ok (fG a 0 l) w
 same : ∀ a, Instr.sameBits 10000 (enc a) (enc a) = true
theorem kN (enc : α → Value) : ∀ (l : List (α × Value)) i, (dC enc i l).length = l.length
 | [], _ => rfl
 | p :: l, i => by simp [dC, kN enc l]
theorem fU (enc : α → Value) : ∀ (l : List (α × Value)) i k, (dC enc i l)[k]? = l[k]?.map fun p => ({ key := enc p.1, val := p.2, born := i + k } : MapEntry)
 | [], _, _ => by simp [dC]
 | p :: l, i, 0 => by simp [dC]
 | p :: l, i, k + 1 => by
  simp only [dC, List.getElem?_cons_succ, fU enc l (i + 1) k]
  congr 1; funext p; congr 1; omega
theorem xU (enc : α → Value) : ∀ (l : List (α × Value)) i k p, dC enc i (l.set k p) = (dC enc i l).set k { key := enc p.1, val := p.2, born := i + k }
 | [], _, _, _ => by simp [dC]
 | q :: l, i, 0, p => by simp [dC]
 | q :: l, i, k + 1, p => by
  simp only [dC, List.set_cons_succ, xU enc l (i + 1) k p, show i + 1 + k = i + (k + 1) by omega]
theorem qZ (enc : α → Value) (p : α × Value) : ∀ (l : List (α × Value)) i, dC enc i (l ++ [p]) = dC enc i l ++ [{ key := enc p.1, val := p.2, born := i + l.length }]
 | [], _ => by simp [dC]
 | q :: l, i => by
  simp only [dC, List.cons_append, qZ enc p l (i + 1), List.length_cons, show i + 1 + l.length = i + (l.length + 1) by omega]
theorem nF {a : α} : ∀ {l : List (α × Value)} {i}, fG a i l = none → (∀ v, fO a v l = l ++ [(a, v)]) ∧ gH a l = none
 | [], _, _ => by simp [fO, gH]
 | p :: l, i, h => by
  unfold fG at h
  split at h
  ·cases h
  ·rename_i hp
   have := nF h
   simp [fO, gH, hp, this]
theorem pI {a : α} : ∀ {l : List (α × Value)} {i j u}, fG a i l = some (j, u) → ∃ k, j = i + k ∧ l[k]? = some (a, u) ∧ (∀ v, fO a v l = l.set k (a, v)) ∧ gH a l = some u
 | [], _, _, _, h => by simp [fG] at h
 | p :: l, i, j, u, h => by
  unfold fG at h
  split at h
  ·rename_i hp
   cases h
   exact ⟨0, rfl, by simp [← hp], by simp [fO, hp], by simp [gH, hp]⟩
  ·rename_i hp
   obtain ⟨k, e1, e2, e3, e4⟩ := pI h
   exact ⟨k + 1, by omega, by simpa using e2, fun v => by simp [fO, hp, e3], by simp [gH, hp, e4]⟩
theorem nU (enc : α → Value) {l : List (α × Value)} {k : Nat} {p q : α × Value} (hk : l[k]? = some p) (f : MapEntry → MapEntry) (hf : f { key := enc p.1, val := p.2, born := k } = { key := enc q.1, val := q.2, born := k }) :
  (dC enc 0 l).toArray.modify k f = (dC enc 0 (l.set k q)).toArray := by
 rw [xU]
 apply Array.ext_getElem?
 intro i
 rw [Array.getElem?_modify]
 simp only [List.getElem?_toArray, List.getElem?_set]
 by_cases h : k = i
 ·subst h
  have : k < l.length := (List.getElem?_eq_some_iff.1 hk).1
  have h2 := fU enc l 0 k
  rw [hk] at h2
  obtain ⟨h4, h3⟩ := List.getElem?_eq_some_iff.1 h2
  simp only [Nat.zero_add] at h3
  simp [kN, this, h3, hf]
 ·simp [h]
end
section
variable {P : Program} {Q : Exit → Act → World → Prop} {w0 : World} {N : Nat} {ds : List Deferred} {env : dM} {M : List Ent} {t : TypeId} {Φ : Act → World → Prop}
 {pos : String} {af : Array Edge} {g : Option (Nat × Bool)} {d : Nat} {α : Type} [DecidableEq α] {enc : α → Value} {l : List (α × Value)} {b : Nat}
theorem gQ (enc : α → Value) {T : TypeId} (hd : Nat.ble (d + 1) N = true) (k : ∀ b, Tr w0 N ds ((d, .map (some b)) :: env) (kE b enc [] :: M) Φ) :
  Eff P Q w0 N ds env M ⟨some d, .makeMap T none, t, pos, af, g⟩ Φ := fun a w ha hw => by
 simp [Oper.wp, execOp, Instr.makeMap, Oper.upon]
 exact k _ _ _ (ha.put hd _) (hw.alloc _)
theorem bA0 {T kt vT : TypeId} {x : Operand} (hT : P.underlying T = some (.map kt vT)) (hx : env.op x = some (.map (some b))) (hm : kE b enc l ∈ M) :
  fL P w0 N ds env M (.call { callee := .builtin .len, args := #[x], argTypes := #[T] }) t (.int .i64 (l.length : Int)) := fun a w pos af g dst ha hw => by
 have h := MapKept.run_getObj_map (P := P) (hw.mem _ hm)
 simp [execOp, resolve, invoke, builtin, ha.op hx, Builtin.len_, run_underlying hT, h, goInt, kN]
theorem aN1 {T kt vT : TypeId} {m k : Operand} {ok : Bool} {a : α} {z : Value} {n by' : Nat} (hT : P.underlying T = some (.map kt vT)) (K : KeyK P kt enc) (hz : (P.info? vT).map (fun i => (i.zero, i.size, i.bytes)) = some (some z, n, by'))
  (hm : env.op m = some (.map (some b))) (hk : env.op k = some (enc a)) (hmem : kE b enc l ∈ M) :
  fL P w0 N ds env M (.lookup T m k ok) t (if ok then .tuple #[(gH a l).getD z, .bool (gH a l).isSome] else (gH a l).getD z) := fun act w pos af g dst ha hw => by
 obtain ⟨i, hi, hh⟩ := Option.map_eq_some_iff.1 hz
 simp only [Prod.mk.injEq] at hh
 have h := MapKept.run_getObj_map (P := P) (hw.mem _ hmem)
 have hf := K.fnd a l
 cases hfd : fG a 0 l with
 | none =>
  have := (nF hfd).2
  simp [execOp, ha.op hm, ha.op hk, Instr.lookup, run_underlying hT, h, K.chk, hf, hfd, this, zeroValue, typeInfo, hi, hh.1]
 | some ju =>
  obtain ⟨j, u⟩ := ju
  obtain ⟨k, e1, e2, e3, e4⟩ := pI hfd
  simp [execOp, ha.op hm, ha.op hk, Instr.lookup, run_underlying hT, h, K.chk, hf, hfd, e4]
theorem aN2 {kt : TypeId} {a : α} (K : KeyK P kt enc) (w : World) : (Instr.keyThatStays (enc a) (enc a)).run P w = .ok (enc a) w := by
 simp [Instr.keyThatStays, K.same a]
theorem pS {T kt vT : TypeId} {a : α} {v : Value} {w : World} (hT : P.underlying T = some (.map kt vT)) (K : KeyK P kt enc) (hb : w.heap[b]? = some (kE b enc l).o) :
  (Instr.mapUpdate T (.map (some b)) (enc a) v).run P w = .ok () { w with heap := w.heap.setIfInBounds b (kE b enc (fO a v l)).o } := by
 have h := MapKept.run_getObj_map (P := P) hb
 have hf := K.fnd a l w
 have hlt := (Array.getElem?_eq_some_iff.1 hb).1
 cases hfd : fG a 0 l with
 | none =>
  have e := (nF hfd).1 v
  have hs := MapKept.run_setObj_map (P := P) (.map ((dC enc 0 l).toArray.push { key := enc a, val := v, born := l.length }) (l.length + 1)) hb
  rw [hfd] at hf
  simp only [Instr.mapUpdate, Sem.run_bind, run_underlying hT, h, K.chk, hf, hs, Result.andThen_ok]
  rw [e, List.push_toArray, qZ]
  simp
 | some ju =>
  obtain ⟨j, u⟩ := ju
  obtain ⟨k, e1, e2, e3, e4⟩ := pI hfd
  obtain rfl : j = k := by omega
  have hk := aN2 (a := a) K w
  have hkey : (((dC enc 0 l).toArray[j]?).map (·.key)).getD (enc a) = enc a := by simp [fU, e2]
  have hmod := nU enc e2 (q := (a, v)) (fun e => { e with key := enc a, val := v }) rfl
  have hs := MapKept.run_setObj_map (P := P) (.map ((dC enc 0 l).toArray.modify j (fun e => { e with key := enc a, val := v })) l.length) hb
  rw [hfd] at hf
  simp only [Instr.mapUpdate, Sem.run_bind, run_underlying hT, h, K.chk, hf, Result.andThen_ok, hkey, hk, hs]
  rw [hmod, e3]
  simp
theorem aN3 {T kt vT : TypeId} {m k x : Operand} {a : α} {v : Value} {M' : List Ent} (hT : P.underlying T = some (.map kt vT)) (K : KeyK P kt enc) (hm : env.op m = some (.map (some b))) (hk : env.op k = some (enc a))
  (hx : env.op x = some v) (hu : Upd M (kE b enc l) (kE b enc (fO a v l)) M') (kk : Tr w0 N ds env M' Φ) :
  Eff P Q w0 N ds env M ⟨none, .mapUpdate T m k x, t, pos, af, g⟩ Φ := fun act w ha hw => by
 obtain ⟨A, B, rfl, rfl⟩ := hu.split
 have hb := hw.mem (kE b enc l) (by simp)
 have hlt := (Array.getElem?_eq_some_iff.1 hb).1
 have hr := pS (P := P) (a := a) (v := v) hT K hb
 have hok := hw.put (kE b enc (fO a v l)).o (w' := { w with heap := w.heap.setIfInBounds b (kE b enc (fO a v l)).o }) rfl rfl rfl (by simp) (by simp only [Array.getElem?_setIfInBounds]; simp; exact hlt) (fun c hc => by simp [Array.getElem?_setIfInBounds, Ne.symm hc])
 simp only [Oper.wp, execOp, Sem.run_bind, ha.op hm, ha.op hk, ha.op hx, hr, Result.andThen_ok]
 simp only [Oper.upon, Sem.run_pure]
 exact kk _ _ ha hok
theorem cD {T kt vT : TypeId} {m k x : Operand} {a : α} {v : Value} {M' : List Ent} (hT : P.underlying T = some (.map kt vT)) (K : KeyK P kt enc) (hm : env.op m = some (.map (some b))) (hk : env.op k = some (enc a))
  (hx : env.op x = some v) (hu : Upd M (kE b enc l) (kE b enc (fO a v l)) M') (kk : Tr w0 N ds env M' Φ) :
  Eff P Q w0 N ds env M ⟨none, .insert T m k x, t, pos, af, g⟩ Φ := fun act w ha hw => by
 obtain ⟨A, B, rfl, rfl⟩ := hu.split
 have hb := hw.mem (kE b enc l) (by simp)
 have hlt := (Array.getElem?_eq_some_iff.1 hb).1
 have hr := pS (P := P) (a := a) (v := v) hT K hb
 have hok := hw.put (kE b enc (fO a v l)).o (w' := { w with heap := w.heap.setIfInBounds b (kE b enc (fO a v l)).o }) rfl rfl rfl (by simp) (by simp only [Array.getElem?_setIfInBounds]; simp; exact hlt) (fun c hc => by simp [Array.getElem?_setIfInBounds, Ne.symm hc])
 simp only [Oper.wp, execOp, Sem.run_bind, ha.op hm, ha.op hk, ha.op hx, hr, Result.andThen_ok]
 simp only [Oper.upon, Sem.run_pure]
 exact kk _ _ ha hok
theorem lN {T : TypeId} {m s x : Operand} {a : α} {u v : Value} {j : Nat} {M' : List Ent} (hm : env.op m = some (.map (some b))) (hs : env.op s = some (.int .i64 (j : Int))) (hx : env.op x = some v) (hj : l[j]? = some (a, u))
  (hu : Upd M (kE b enc l) (kE b enc (l.set j (a, v))) M') (kk : Tr w0 N ds env M' Φ) :
  Eff P Q w0 N ds env M ⟨none, .entryStore T m s x, t, pos, af, g⟩ Φ := fun act w ha hw => by
 obtain ⟨A, B, rfl, rfl⟩ := hu.split
 have hb : w.heap[b]? = some (.map (dC enc 0 l).toArray l.length) := hw.mem (kE b enc l) (by simp)
 have hlt := (Array.getElem?_eq_some_iff.1 hb).1
 have h := MapKept.run_getObj_map (P := P) hb
 have hf : (dC enc 0 l).toArray.findIdx? (fun e => (e.born : Int) == (j : Int)) = some j := by
  have hjl := (List.getElem?_eq_some_iff.1 hj).1
  rw [List.findIdx?_toArray, List.findIdx?_eq_some_iff_getElem]
  refine ⟨by rw [kN]; exact hjl, ?_, fun i hi => ?_⟩
  ·have := fU enc l 0 j
   rw [hj] at this
   obtain ⟨h4, h3⟩ := List.getElem?_eq_some_iff.1 this
   rw [h3]; simp
  ·have hil : i < l.length := by omega
   have := fU enc l 0 i
   rw [List.getElem?_eq_getElem hil] at this
   obtain ⟨h4, h3⟩ := List.getElem?_eq_some_iff.1 this
   rw [h3]; simp; omega
 have hmod := nU enc hj (q := (a, v)) (fun e => { e with val := v }) rfl
 have hs' := MapKept.run_setObj_map (P := P) (.map ((dC enc 0 l).toArray.modify j (fun e => { e with val := v })) l.length) hb
 have hr : (Instr.entryStore T (.map (some b)) (.int .i64 (j : Int)) v).run P w = .ok () { w with heap := w.heap.setIfInBounds b (kE b enc (l.set j (a, v))).o } := by
  simp only [Instr.entryStore, Sem.run_bind, h, Result.andThen_ok, asInt, asIntOf, Sem.run_pure, hf, hs']
  rw [hmod]
  simp
 have hok := hw.put (kE b enc (l.set j (a, v))).o (w' := { w with heap := w.heap.setIfInBounds b (kE b enc (l.set j (a, v))).o }) rfl rfl rfl (by simp) (by simp only [Array.getElem?_setIfInBounds]; simp; exact hlt) (fun c hc => by simp [Array.getElem?_setIfInBounds, Ne.symm hc])
 simp only [Oper.wp, execOp, Sem.run_bind, ha.op hm, ha.op hs, ha.op hx, hr, Result.andThen_ok]
 simp only [Oper.upon, Sem.run_pure]
 exact kk _ _ ha hok
abbrev itE (r b n : Nat) (seen : List Nat) : Ent := ⟨r, .mapIter (some b) n seen.toArray n⟩
theorem e_range {T kt vT : TypeId} {x : Operand} (hT : P.underlying T = some (.map kt vT)) (hx : env.op x = some (.map (some b))) (hm : kE b enc l ∈ M) (hd : Nat.ble (d + 1) N = true)
  (k : ∀ r, Tr w0 N ds ((d, .pointer (some ⟨r, 0, none⟩)) :: env) (itE r b l.length [] :: M) Φ) :
  Eff P Q w0 N ds env M ⟨some d, .range T x, t, pos, af, g⟩ Φ := fun a w ha hw => by
 have h := MapKept.run_getObj_map (P := P) (hw.mem _ hm)
 simp [Oper.wp, execOp, ha.op hx, Instr.range, run_underlying hT, h, Oper.upon]
 exact k _ _ _ (ha.put hd _) (hw.alloc _)
theorem e_next {x : Operand} {r : Nat} {seen : List Nat} {M' : Nat → List Ent} (hx : env.op x = some (.pointer (some ⟨r, 0, none⟩))) (hm : kE b enc l ∈ M) (hd : Nat.ble (d + 1) N = true)
  (hu : ∀ j, Upd M (itE r b l.length seen) (itE r b l.length (seen ++ [j])) (M' j))
  (k0 : (∀ j, j < l.length → j ∈ seen) → Tr w0 N ds ((d, .tuple #[.bool false]) :: env) M Φ)
  (k1 : ∀ j p, l[j]? = some p → j ∉ seen → Tr w0 N ds ((d, .tuple #[.bool true, enc p.1, p.2]) :: env) (M' j) Φ) :
  Eff P Q w0 N ds env M ⟨some d, .next x false, t, pos, af, g⟩ Φ := fun a w ha hw => by
 obtain ⟨A, B, hA, _⟩ := (hu 0).split
 have hit : itE r b l.length seen ∈ M := by rw [hA]; simp
 have hi := hw.mem _ hit
 have hb := hw.mem _ hm
 have hget : ∀ e ∈ (dC enc 0 l), ∃ j p, l[j]? = some p ∧ e = { key := enc p.1, val := p.2, born := j } := fun e he => by
  obtain ⟨j, hj⟩ := List.getElem?_of_mem he
  rw [fU] at hj
  obtain ⟨p, hp, rfl⟩ := Option.map_eq_some_iff.1 hj
  exact ⟨j, p, hp, by simp⟩
 rcases run_next_at (P := P) w t r b l.length l.length seen.toArray (dC enc 0 l).toArray l.length hi hb (fun x hx => by
   obtain ⟨j, p, hp, rfl⟩ := hget x (by simpa using hx)
   exact (List.getElem?_eq_some_iff.1 hp).1) (Nat.le_refl _) with ⟨h0, hr⟩ | ⟨e, he, w1, hw1, hr⟩
 ·simp only [Oper.wp, execOp, Sem.run_bind, ha.op hx, hr, Result.andThen_ok]
  simp only [Oper.upon, Sem.run_pure]
  refine k0 (fun j hj => ?_) _ _ (ha.put hd _) hw
  have hL := Array.eq_empty_of_size_eq_zero h0
  unfold leftOf at hL
  rw [Array.filter_eq_empty_iff] at hL
  have hm' : ({ key := enc (l[j]).1, val := (l[j]).2, born := j } : MapEntry) ∈ (dC enc 0 l).toArray := by
   have := fU enc l 0 j
   rw [List.getElem?_eq_getElem hj] at this
   have := List.mem_of_getElem? this
   simpa using this
  have := hL _ hm'
  simpa using this
 ·unfold leftOf at he
  simp at he
  obtain ⟨j, p, hp, rfl⟩ := hget e he.1
  simp only [Oper.wp, execOp, Sem.run_bind, ha.op hx, hr, Result.andThen_ok]
  simp only [Oper.upon, Sem.run_pure]
  obtain ⟨A', B', e1, e2⟩ := (hu j).split
  have hw1' : Ok w0 M w1 := by rcases hw1 with rfl | rfl; exact hw; exact hw.drew
  have hi1 := hw1'.mem _ hit
  have hlt := (Array.getElem?_eq_some_iff.1 hi1).1
  refine k1 j p hp (by simpa using he.2) _ _ (ha.put hd _) ?_
  rw [e2]
  rw [e1] at hw1'
  simp only [List.push_toArray]
  exact hw1'.put _ rfl rfl rfl (by simp [ChangeMaps.setBlock]) (by simp [ChangeMaps.setBlock, Array.getElem?_setIfInBounds]; exact hlt) (fun c hc => by simp [ChangeMaps.setBlock, Array.getElem?_setIfInBounds, Ne.symm hc])
theorem r_entry {x : Operand} {r j : Nat} {seen : List Nat} {p : α × Value} (hx : env.op x = some (.pointer (some ⟨r, 0, none⟩))) (hm : kE b enc l ∈ M) (hi : itE r b l.length (seen ++ [j]) ∈ M) (hp : l[j]? = some p) :
  fL P w0 N ds env M (.entry x) t (.tuple #[enc p.1, p.2]) := fun a w pos af g dst ha hw => by
 have h1 := hw.mem _ hi
 have h2 := hw.mem _ hm
 have hmem : ({ key := enc p.1, val := p.2, born := j } : MapEntry) ∈ (dC enc 0 l) := by
  have := fU enc l 0 j
  rw [hp] at this
  have := List.mem_of_getElem? this
  simpa using this
 have hborn : ∀ (l : List (α × Value)) i, ((dC enc i l).map (·.born)) = List.range' i l.length := by
  intro l
  induction l with
  | nil => intro i; rfl
  | cons p l ih => intro i; simp [dC, ih, List.range'_succ]
 have hr := run_entry_at (P := P) w r b l.length seen.toArray (dC enc 0 l).toArray l.length { key := enc p.1, val := p.2, born := j } (by simpa [List.push_toArray] using h1) h2 (by simpa using hmem) (by
  have := hborn l 0
  simp only [this]
  exact List.nodup_range')
 simp [execOp, ha.op hx, hr]
end
end Go.Sl
set_option linter.unusedVariables false
set_option linter.unusedSectionVars false
set_option linter.unusedSimpArgs false
namespace Go.Sl
open Go
section
variable {P : Program} {α : Type} [DecidableEq α]
theorem uO {kt : TypeId} {d : TypeDesc} {enc : α → Value} (hT : P.underlying kt = some d) (hs : ∀ a b, Instr.sameNow d (enc a) (enc b) = some (decide (b = a))) (a : α) (l : List (α × Value)) (w : World) :
  (Instr.findKey kt (enc a) (dC enc 0 l)).run P w = .ok (fG a 0 l) w := by
 have : ∀ (l : List (α × Value)) i, Instr.findNow d (enc a) (dC enc i l) i = some (fG a i l) := by
  intro l
  induction l with
  | nil => intro i; rfl
  | cons p l ih =>
   intro i
   simp only [dC, Instr.findNow, hs, fG]
   by_cases h : p.1 = a
   ·simp [h]
   ·simp [h, ih]
 exact MapKept.run_findKey hT (this l 0)
theorem KeyK.int {kt : TypeId} {k : IntKind} (hT : P.underlying kt = some (.int k)) : KeyK P kt (fun i : Int => Value.int k i) :=
 ⟨fun e a w => MapKept.run_checkKey hT (by simp [MapKept.IsKey]) e 9999, fun a l w => uO hT (fun a b => by simp [Instr.sameNow, eq_comm, Bool.beq_eq_decide_eq]) a l w, fun a => by simp [Instr.sameBits]⟩
theorem aA1 (a b : ByteArray) : (a == b) = decide (a = b) := (beq_toListBytes a b).trans (qR a b)
theorem KeyK.str {kt : TypeId} (hT : P.underlying kt = some .string) : KeyK P kt (fun s : ByteArray => Value.string s) :=
 ⟨fun e a w => MapKept.run_checkKey hT (by simp [MapKept.IsKey]) e 9999, fun a l w => uO hT (fun a b => by simp [Instr.sameNow, aA1, eq_comm]) a l w, fun a => by simp [Instr.sameBits, aA1]⟩
abbrev gI (l : List Int) : List Value := l.map (.int .i64)
theorem xV {ft : TypeId} {k : IntKind} {cs : List Int} {i : Nat} {x : Int} (hT : P.underlying ft = some (.int k)) (hx : cs[i]? = some x) (w : World) : (part ft (gI cs).toArray i).run P w = .ok (.int .i64 x) w := by
 simp [part, isAgg, run_underlying hT, hx]
theorem xW {d : Nat} {xs ys : List Int} : ∀ (fs : List Field) (i : Nat), (∀ (j : Nat) (f : Field), fs[j]? = some f → f.name ≠ "_" ∧ f.offset = i + j ∧ P.underlying f.type = some (.int .i64)) → xs.length = i + fs.length → ys.length = i + fs.length →
  ∀ w, (Op.eqFields (d + 1) (gI xs).toArray (gI ys).toArray fs).run P w = .ok (decide (xs.drop i = ys.drop i)) w
 | [], i, _, hx, hy, w => by
  simp at hx hy
  rw [List.drop_eq_nil_of_le (by omega), List.drop_eq_nil_of_le (by omega)]; simp [Op.eqFields]
 | f :: fs, i, hf, hx, hy, w => by
  obtain ⟨h1, h2, h3⟩ := hf 0 f rfl
  simp at hx hy h2
  obtain ⟨x, hxi⟩ : ∃ x, xs[i]? = some x := ⟨_, List.getElem?_eq_getElem (by omega)⟩
  obtain ⟨y, hyi⟩ : ∃ y, ys[i]? = some y := ⟨_, List.getElem?_eq_getElem (by omega)⟩
  have ih := xW (d := d) (xs := xs) (ys := ys) fs (i + 1) (fun j g hg => by
   obtain ⟨a, b, c⟩ := hf (j + 1) g (by simpa using hg)
   exact ⟨a, by omega, c⟩) (by omega) (by omega) w
  have ex : xs.drop i = x :: xs.drop (i + 1) := by
   obtain ⟨h, e⟩ := List.getElem?_eq_some_iff.1 hxi
   rw [← e]; exact List.drop_eq_getElem_cons h
  have ey : ys.drop i = y :: ys.drop (i + 1) := by
   obtain ⟨h, e⟩ := List.getElem?_eq_some_iff.1 hyi
   rw [← e]; exact List.drop_eq_getElem_cons h
  simp only [Op.eqFields, h1, ne_eq, not_false_eq_true, if_true, Sem.run_bind, h2, xV h3 hxi, xV h3 hyi, Result.andThen_ok]
  rw [run_equalIn_int _ _ _ _ _ _ _ h3]
  simp only [Result.andThen_ok]
  rw [ex, ey]
  by_cases h : x = y
  ·subst h
   simp [ih]
  ·simp [h]
theorem KeyK.ints {kt : TypeId} {fs : Array Field} (cells : α → List Int) (hT : P.underlying kt = some (.struct fs)) (hp : P.stoodInHeld kt = false)
  (hf : ∀ (j : Nat) (f : Field), fs.toList[j]? = some f → f.name ≠ "_" ∧ f.offset = j ∧ P.underlying f.type = some (.int .i64)) (hl : ∀ a, (cells a).length = fs.size) (inj : ∀ a b, cells a = cells b → a = b) :
  KeyK P kt (fun a => Value.agg (gI (cells a)).toArray) := by
 have hfo : P.fieldsOf kt = fs := by simp [Program.fieldsOf, hT]
 have eqv : ∀ a b w, (Op.equal kt (.agg (gI (cells a)).toArray) (.agg (gI (cells b)).toArray)).run P w = .ok (decide (b = a)) w := fun a b w => by
  rw [show Op.equal kt (.agg (gI (cells a)).toArray) (.agg (gI (cells b)).toArray) = Op.equalIn (9999 + 1) kt (.agg (gI (cells a)).toArray) (.agg (gI (cells b)).toArray) from rfl]
  rw [run_equalIn_struct w 9999 kt _ _ (by rw [hfo]; exact hT) hp, hfo]
  rw [xW (d := 9998) fs.toList 0 (fun j f h => by have := hf j f h; simpa using this) (by simp [hl]) (by simp [hl])]
  simp only [List.drop_zero]
  congr 1
  by_cases h : a = b
  ·subst h; simp
  ·have : ¬ cells a = cells b := fun e => h (inj _ _ e)
   simp [this, Ne.symm h]
 refine ⟨fun e a w => ?_, fun a l w => ?_, fun a => ?_⟩
 ·have key : ∀ (gs : List Field) (i : Nat), (∀ (j : Nat) (f : Field), gs[j]? = some f → f.name ≠ "_" ∧ f.offset = i + j ∧ P.underlying f.type = some (.int .i64)) → (cells a).length = i + gs.length →
    (forIn gs PUnit.unit (fun (f : Field) (_ : PUnit) => ((if f.name ≠ "_" then (part f.type (gI (cells a)).toArray f.offset >>= fun x => Instr.checkKey e 9999 f.type x >>= fun _ => pure (ForInStep.yield PUnit.unit)) else pure (ForInStep.yield PUnit.unit)) : Sem (ForInStep PUnit)))).run P w = .ok PUnit.unit w := by
   intro gs
   induction gs with
   | nil => intro i _ _; simp
   | cons f gs ih =>
    intro i h hln
    obtain ⟨h1, h2, h3⟩ := h 0 f rfl
    simp at h2 hln
    obtain ⟨x, hxi⟩ : ∃ x, (cells a)[i]? = some x := ⟨_, List.getElem?_eq_getElem (by omega)⟩
    have := ih (i + 1) (fun j g hg => by
     obtain ⟨a, b, c⟩ := h (j + 1) g (by simpa using hg)
     exact ⟨a, by omega, c⟩) (by omega)
    have hck := MapKept.run_checkKey (P := P) (w := w) (k := .int .i64 x) h3 (by simp [MapKept.IsKey]) e 9998
    simp only [List.forIn_cons, h1, ne_eq, not_false_eq_true, if_true, Sem.run_bind, h2, xV h3 hxi, Result.andThen_ok, hck, Sem.run_pure]
    exact this
  unfold Instr.checkKey
  simp only [Sem.run_bind, run_underlying hT, Result.andThen_ok]
  rw [← Array.forIn_toList]
  have := key fs.toList 0 (fun j f h => by have := hf j f h; simpa using this) (by simp [hl])
  simp at this ⊢
  rw [this]; rfl
 ·have asking : ∀ (l : List (α × Value)) i, (Instr.findAsking kt (.agg (gI (cells a)).toArray) (dC (fun a => Value.agg (gI (cells a)).toArray) i l) i).run P w = .ok (fG a i l) w := by
   intro l
   induction l with
   | nil => intro i; simp [dC, Instr.findAsking, fG]
   | cons p l ih =>
    intro i
    simp only [dC, Instr.findAsking, Sem.run_bind, eqv, Result.andThen_ok, fG]
    by_cases h : p.1 = a
    ·simp [h]
    ·simp [h, ih]
  unfold Instr.findKey
  simp only [Sem.run_bind, run_underlying hT, Result.andThen_ok]
  cases l with
  | nil => simp [dC, Instr.findNow, fG]
  | cons p l =>
   have : Instr.findNow (.struct fs) (.agg (gI (cells a)).toArray) (dC (fun a => Value.agg (gI (cells a)).toArray) 0 (p :: l)) 0 = none := by
    simp [dC, Instr.findNow, Instr.sameNow]
   rw [this]
   exact asking _ 0
 ·show Instr.sameBits (9999 + 1) _ _ = true
  simp only [Instr.sameBits, beq_self_eq_true, Bool.true_and]
  generalize cells a = cs
  have : ∀ (cs : List Int), ((gI cs).zip (gI cs)).all (fun x => Instr.sameBits 9999 x.1 x.2) = true := by
   intro cs
   induction cs with
   | nil => rfl
   | cons c cs ih => simp only [gI, List.map_cons, List.zip_cons_cons, List.all_cons]; simp only [gI] at ih; rw [ih]; simp [Instr.sameBits]
  simpa using this cs
end
section
variable {P : Program} {Q : Exit → Act → World → Prop} {w0 : World} {N : Nat} {ds : List Deferred} {env : dM} {M : List Ent} {t : TypeId} {Φ : Act → World → Prop}
 {pos : String} {af : Array Edge} {g : Option (Nat × Bool)} {d : Nat}
theorem sO {T e : TypeId} {A : Option Addr} {n c : Nat} (hT : P.underlying T = some (.slice e)) (k : Nat) (w : World) : (Op.equalIn (k + 1) T (.slice A n c) (.slice none 0 0)).run P w = .ok A.isNone w := by
 cases A <;> simp [Op.equalIn, run_underlying hT]
theorem oE {T kt vT : TypeId} {A : Option Nat} (hT : P.underlying T = some (.map kt vT)) (k : Nat) (w : World) : (Op.equalIn (k + 1) T (.map A) (.map none)).run P w = .ok A.isNone w := by
 cases A <;> simp [Op.equalIn, run_underlying hT]
theorem hZ {T e yT : TypeId} {x y : Operand} {A : Option Addr} {n c : Nat} (hT : P.underlying T = some (.slice e)) (hx : env.op x = some (.slice A n c)) (hy : env.op y = some (.slice none 0 0)) :
  fL P w0 N ds env M (.binOp .eql T x y yT) t (.bool A.isNone) := gO hx hy rfl fun w => by
 have h := sO (A := A) (n := n) (c := c) hT 9999 w
 simp only [binOp, Op.equal, Op.maxDepth, Sem.run_bind]
 rw [h]; rfl
theorem aN4 {T kt vT yT : TypeId} {x y : Operand} {A : Option Nat} (hT : P.underlying T = some (.map kt vT)) (hx : env.op x = some (.map A)) (hy : env.op y = some (.map none)) :
  fL P w0 N ds env M (.binOp .eql T x y yT) t (.bool A.isNone) := gO hx hy rfl fun w => by
 have h := oE (A := A) hT 9999 w
 simp only [binOp, Op.equal, Op.maxDepth, Sem.run_bind]
 rw [h]; rfl
theorem aN5 {T kt vT yT : TypeId} {x y : Operand} {A : Option Nat} (hT : P.underlying T = some (.map kt vT)) (hx : env.op x = some (.map A)) (hy : env.op y = some (.map none)) :
  fL P w0 N ds env M (.binOp .neq T x y yT) t (.bool (!A.isNone)) := gO hx hy rfl fun w => by
 have h := oE (A := A) hT 9999 w
 simp only [binOp, Op.equal, Op.maxDepth, Sem.run_bind]
 rw [h]; rfl
end
end Go.Sl
set_option linter.unusedVariables false
set_option linter.unusedSectionVars false
set_option linter.unusedSimpArgs false
namespace Go.Sl
open Go
section
variable {P : Program} {Q : Exit → Act → World → Prop} {w0 : World} {N : Nat} {ds : List Deferred} {env : dM} {M : List Ent} {t : TypeId} {Φ : Act → World → Prop}
 {pos : String} {af : Array Edge} {g : Option (Nat × Bool)} {d : Nat}
theorem lS {T e : TypeId} {s y : Operand} {z by' m c : Nat} {zv : Value} {v : Value} {xs ys : List (List Value)} {A : Addr} {E Fr : List Ent} (hT : P.underlying T = some (.slice e))
  (hz : (P.info? e).map (fun i => (i.zero, i.size, i.bytes)) = some (some zv, z, by')) (hzc : zv.cells.size = z) (h0 : 0 < z)
  (hs : env.op s = some v) (hy : env.op y = some (.slice (some A) m c)) (hown : Own e z v xs E) (hM : M.Perm (E ++ Fr)) (hrd : SlRd w0 M z (some A) m ys) (h1 : ∀ x ∈ ys, ∀ u ∈ x, u.oneCell' = true)
  (hb : (xs.length + m) * by' ≤ 140737488355328) (hlen : xs.length + m ≤ maxLen) (hd : Nat.ble (d + 1) N = true) (hne : v ≠ .slice none 0 0)
  (k : ∀ v' E', Own e z v' (xs ++ ys) E' → v' ≠ .slice none 0 0 → Tr w0 N ds ((d, v') :: env) (E' ++ Fr) Φ) :
  Eff P Q w0 N ds env M ⟨some d, .call { callee := .builtin .append, args := #[s, y], argTypes := #[T, T] }, t, pos, af, g⟩ Φ := fun a w ha hw => by
 obtain ⟨i, hi, hh⟩ := Option.map_eq_some_iff.1 hz
 simp only [Prod.mk.injEq] at hh
 obtain ⟨hz0, hz1, hz2⟩ := hh
 have hw' := hw.perm hM
 have hfl := gD hown.wide
 have hfy := gD hrd.wide
 rw [hrd.len] at hfy
 have hrow : w.ownsRow w0.heap.size e z v xs.length (bT xs) := by
  rcases hown.sh with ⟨rfl, rfl, rfl⟩ | ⟨b, c, l, rfl, rfl, h2, h3, h4, h5⟩
  ·exact ⟨by simp [bT], .inl ⟨rfl, rfl⟩⟩
  ·exact aG9 hw' (by simp) h2 h3 h4 h5 hfl
 have hcells : ∀ j u, (bT ys)[j]? = some u → w.cell? (A.add j) = some u := fun j u hj => by
  have hj' := (List.getElem?_eq_some_iff.1 hj).1
  rw [hfy] at hj'
  have hm0 : 0 < m := by
   rcases Nat.eq_zero_or_pos m with rfl | h
   ·simp at hj'
   ·exact h
  obtain ⟨b, o, he, hr⟩ := hrd.at' hm0
  cases he
  have hq : j / z < m := (Nat.div_lt_iff_lt_mul h0).2 hj'
  obtain ⟨x, hx⟩ : ∃ x, ys[j / z]? = some x := ⟨_, List.getElem?_eq_getElem (by rw [hrd.len]; exact hq)⟩
  have hxw := hrd.wide x (List.mem_of_getElem? hx)
  have hlt : j % z < x.length := by rw [hxw]; exact Nat.mod_lt _ h0
  have h6 := xP hrd.wide (j / z) x hx (j % z) x[j % z] (List.getElem?_eq_getElem hlt)
  have hj2 : j / z * z + j % z = j := by rw [Nat.mul_comm]; exact Nat.div_add_mod j z
  rw [hj2, hj] at h6
  have := hr (j / z) x hx (j % z) x[j % z] (List.getElem?_eq_getElem hlt) w hw
  rw [Addr.add_lit, show o + j = o + j / z * z + j % z by omega, this, ← h6]
 have h1' : ∀ u ∈ bT ys, u.oneCell' = true := fun u hu => by
  obtain ⟨x, hx, hux⟩ := List.mem_flatten.1 hu
  exact h1 x hx u hux
 obtain ⟨v', w', hr, ho', hg, hnil, hat⟩ := run_append_own_at (P := P) w w0.heap.size T t e i zv z by' hT hi hz0 hz1 hz2 hzc h0 v xs.length (bT xs) hrow A m c (bT ys) hfy hcells h1' hlen hb hw.size
 have hfl' : bT xs ++ bT ys = bT (xs ++ ys) := by simp [bT]
 rw [hfl'] at ho'
 have hwide' : ∀ y ∈ xs ++ ys, y.length = z := fun y hy => by
  rcases List.mem_append.1 hy with h | h
  ·exact hown.wide y h
  ·exact hrd.wide y h
 have hln : (xs ++ ys).length = xs.length + m := by simp [hrd.len]
 simp [Oper.wp, execOp, resolve, invoke, builtin, ha.op hs, ha.op hy, hr, Oper.upon]
 rcases ho'.2 with ⟨hv', hn0⟩ | ⟨b', c', cur, rfl, hbb, hheap, hle, hmax, hsz, htk⟩
 ·exact absurd (hnil.1 hv').1 hne
 ·refine k _ [cel b' e cur.toList] ⟨hwide', .inr ⟨b', c', cur.toList, by rw [hln], rfl, by simpa using hsz, by omega, hmax, by rw [hln]; exact htk⟩⟩ (by simp) _ _ (ha.put hd _) ?_
  have hnd := hw'.nodup
  have hFr : ∀ f ∈ Fr, f.b < w.heap.size := fun f hf => hw'.lt (by simp [hf])
  have hne : ∀ f ∈ Fr, f.b ≠ b' ∧ w'.heap[f.b]? = w.heap[f.b]? := by
   intro f hf
   have hlt := hFr f hf
   rcases hown.sh with ⟨rfl, rfl, rfl⟩ | ⟨b, c, l, rfl, rfl, h2, h3, h4, h5⟩
   ·have hb' : b' = w.heap.size := by simpa [Value.ownBlock] using hat
    exact ⟨by omega, hg.block _ hlt (by simp [Value.ownBlock])⟩
   ·have hfb : f.b ≠ b := by
     intro e'
     simp at hnd
     exact hnd.1 f hf e'
    have hblk := hg.block _ hlt (by simp [Value.ownBlock]; exact hfb)
    simp [Value.ownBlock] at hat
    rcases hat with hat | hat
    ·exact ⟨by rw [hat]; exact hfb, hblk⟩
    ·exact ⟨by omega, hblk⟩
  refine ⟨hg.os.trans hw.os, hg.tape.trans hw.tape, hg.output.trans hw.output, Nat.le_trans hw.size hg.size, fun c hc => ?_, ?_, ?_, ?_⟩
  ·rw [hg.block c (Nat.lt_of_lt_of_le hc hw.size) ?_]
   ·exact hw.old c hc
   ·rcases hown.sh with ⟨rfl, rfl, rfl⟩ | ⟨b, c2, l, rfl, rfl, h2, h3, h4, h5⟩
    ·simp [Value.ownBlock]
    ·have := hw'.fresh (cel b e l) (by simp)
     simp [Value.ownBlock]; simp at this; omega
  ·simp only [List.singleton_append, List.map_cons, List.nodup_cons]
   refine ⟨fun hm => ?_, ?_⟩
   ·obtain ⟨f, hf, hfe⟩ := List.mem_map.1 hm
    exact (hne f hf).1 hfe
   ·simp only [List.map_append] at hnd
    exact (List.nodup_append.1 hnd).2.1
  ·intro f hf
   simp only [List.singleton_append, List.mem_cons] at hf
   rcases hf with rfl | hf
   ·exact hbb
   ·exact hw'.fresh f (by simp [hf])
  ·intro f hf
   simp only [List.singleton_append, List.mem_cons] at hf
   rcases hf with rfl | hf
   ·simpa using hheap
   ·rw [(hne f hf).2]; exact hw'.mem f (by simp [hf])
theorem fK {α : Type} [DecidableEq α] {enc : α → Value} {l : List (α × Value)} {b : Nat} {T kt vT : TypeId} {m k : Operand} (a : α) {z : Value} {n by' : Nat} (hT : P.underlying T = some (.map kt vT)) (K : KeyK P kt enc)
  (hz : (P.info? vT).map (fun i => (i.zero, i.size, i.bytes)) = some (some z, n, by')) (hm : env.op m = some (.map (some b))) (hk : env.op k = some (enc a)) (hmem : kE b enc l ∈ M) :
  fL P w0 N ds env M (.lookup T m k false) t ((gH a l).getD z) := aN1 (ok := false) hT K hz hm hk hmem
theorem pJ {α : Type} [DecidableEq α] {enc : α → Value} {l : List (α × Value)} {b : Nat} {T kt vT : TypeId} {m k : Operand} (a : α) {z : Value} {n by' : Nat} (hT : P.underlying T = some (.map kt vT)) (K : KeyK P kt enc)
  (hz : (P.info? vT).map (fun i => (i.zero, i.size, i.bytes)) = some (some z, n, by')) (hm : env.op m = some (.map (some b))) (hk : env.op k = some (enc a)) (hmem : kE b enc l ∈ M) :
  fL P w0 N ds env M (.lookup T m k true) t (.tuple #[(gH a l).getD z, .bool (gH a l).isSome]) := aN1 (ok := true) hT K hz hm hk hmem
inductive PickB : List Ent → List Ent → List Ent → Prop
 | here {E B : List Ent} : PickB (E ++ B) E B
 | there {e : Ent} {E A A' : List Ent} (h : PickB A E A') : PickB (e :: A) E (e :: A')
 | right {E A B B' : List Ent} (h : PickB B E B') : PickB (A ++ B) E (A ++ B')
theorem PickB.perm {M E M' : List Ent} (h : PickB M E M') : M.Perm (E ++ M') := by
 induction h with
 | here => exact .refl _
 | there h ih => exact (ih.cons _).trans List.perm_middle.symm
 | right h ih => exact (ih.append_left _).trans ((List.append_assoc _ _ _).symm ▸ (List.append_assoc _ _ _ ▸ (List.perm_append_comm.append_right _)))
theorem mH {M M1 R E : List Ent} (h : PickB M E M1) (h' : M1.Perm R) : M.Perm (E ++ R) := h.perm.trans (h'.append_left _)
theorem Own.one {T : TypeId} {z : Nat} {v : Value} {xs : List (List Value)} {E : List Ent} (h : Own T z v xs E) : v.oneCell' = true := by
 rcases h.sh with ⟨rfl, _⟩ | ⟨b, c, l, rfl, _⟩ <;> rfl
theorem Own.rd {T : TypeId} {z : Nat} {v : Value} {xs : List (List Value)} {E : List Ent} (h : Own T z v xs E) (hb : xs.length ≤ 4611686018427387904) :
  ∃ A c, v = .slice A xs.length c ∧ xs.length ≤ c ∧ (A = none → v = .slice none 0 0) ∧ ∀ w0 M, (∀ e ∈ E, e ∈ M) → SlRd w0 M z A xs.length xs := by
 rcases h.sh with ⟨rfl, rfl, rfl⟩ | ⟨b, c, l, rfl, rfl, h1, h2, h3, h4⟩
 ·exact ⟨none, 0, rfl, by simp, fun _ => rfl, fun _ _ _ => .nil⟩
 ·refine ⟨_, c, rfl, h2, by simp, fun w0 M hE => (SlRd.of_cel (T := T) (sp := l.drop (xs.length * z)) ?_ rfl h.wide hb)⟩
  rw [← h4, List.take_append_drop]
  exact hE _ (by simp)
theorem kX {T : TypeId} {x : Operand} {v : Value} {dd : TypeDesc} (hT : P.underlying T = some dd) (hi : ∀ m, dd ≠ .interface m) (hx : env.op x = some v) :
  fL P w0 N ds env M (.makeInterface T x) t (.iface T v) := fun a w pos af g dst ha hw => by
 cases dd <;> simp_all [execOp, ha.op hx, Instr.makeInterface, run_underlying hT]
theorem aH1 {xT T : TypeId} {x : Operand} {v : Value} {dd : TypeDesc} (hT : P.underlying T = some dd) (hi : ∀ m, dd ≠ .interface m) (hx : env.op x = some (.iface T v)) :
  fL P w0 N ds env M (.typeAssert x xT T false) t v := fun a w pos af g dst ha hw => by
 cases dd <;> simp_all [execOp, ha.op hx, Instr.typeAssert, run_underlying hT]
theorem xX {xT T : TypeId} {x : Operand} {v : Value} {dd : TypeDesc} (hT : P.underlying T = some dd) (hi : ∀ m, dd ≠ .interface m) (hx : env.op x = some (.iface T v)) :
  fL P w0 N ds env M (.typeAssert x xT T true) t (.tuple #[v, .bool true]) := fun a w pos af g dst ha hw => by
 cases dd <;> simp_all [execOp, ha.op hx, Instr.typeAssert, run_underlying hT]
theorem xY {f : FuncId} {fn : Func} {e : Array Value → Sem Value} {xs : List Operand} {T : Array TypeId} {vs : List Value} (hf : P.funcs[f]? = some fn) (hname : (fn.name == "runtime.NumGoroutine") = false)
  (hb : fn.body.isNone = true) (hn : Extern.findNext fn = none) (he : Extern.find fn = some e) (hx : env.opl xs = some vs) (hd : Nat.ble (d + 1) N = true)
  (k : ∀ w, Ok w0 M w → ∃ v w', (e vs.toArray).run P w = .ok v w' ∧ ∃ M', Ok w0 M' w' ∧ Tr w0 N ds ((d, v) :: env) M' Φ) :
  Eff P Q w0 N ds env M ⟨some d, .call { callee := .value (.func f), args := xs.toArray, argTypes := T }, t, pos, af, g⟩ Φ := fun a w ha hw => by
 obtain ⟨v, w', hr, M', hw', hk⟩ := k w hw
 have hxs := ha.opl hx
 have hc := run_callFunc_extern (P := P) hf hname hb hn he vs.toArray w
 simp only [Oper.wp, execOp, resolve, Deferred.ofValue, Act.eval, invoke, Sem.run_bind, Sem.run_pure, Result.andThen_ok, List.map_toArray]
 have hxs' : List.map a.eval xs = vs := hxs
 simp only [hxs', Array.append_empty, Array.empty_append, hc, hr, Result.andThen_ok, Oper.upon, Sem.run_pure]
 exact hk _ _ (ha.put hd _) hw'
end
end Go.Sl
set_option linter.unusedVariables false
set_option linter.unusedSectionVars false
set_option linter.unusedSimpArgs false
namespace Go.Sl
open Go
abbrev G (ro : Option Nat) : Fence := { Fence.wide with round := ro }
theorem aH2 {ro : Option Nat} {n : Nat} (h : (G ro).depth.isSome = true) : 1 ≤ n := by simp [Fence.wide] at h
theorem aH3 {P : Program} {ro : Option Nat} {n : Nat} {f : FuncId} {args : Array Value} {w : World} {R : Ending → World → Prop} (h : Calls P f args w R) : CallsIn (G ro) n P f args w R :=
 (callsIn_wide (n := n)).2 h
theorem rows_G {P : Program} {ro : Option Nat} {n : Nat} {row : String} {args : Array Value} {w : World} {R : Value → World → Prop} (h : Rows P row args w R) : RowsIn (G ro) n P row args w R :=
 fun c cs _ => let ⟨v, w', r, s⟩ := h c cs; ⟨v, w', r, stepsIn_wide.2 s⟩
section
variable {P : Program} {ro : Option Nat} {n : Nat} {Q : Exit → Act → World → Prop} {w0 : World} {N : Nat} {ds : List Deferred} {env : dM} {M : List Ent} {t : TypeId} {Φ X : Act → World → Prop}
 {pos : String} {af : Array Edge} {d : Nat} {ops : Array Oper} {rest : List Oper} {o : Op} {v : Value}
def aH4 (P : Program) (ro : Option Nat) (n : Nat) (Q : Exit → Act → World → Prop) (w0 : World) (N : Nat) (ds : List Deferred) (env : dM) (M : List Ent) (o : Oper) (Φ : Act → World → Prop) : Prop :=
 ∀ a w, EnvOk N ds env a → Ok w0 M w → o.wpIn (G ro) n P a w Φ Q
def nV : Op → Bool
 | .defer _ => false
 | _ => true
theorem xZ {o : Oper} (h : nV o.op = true) : ∀ c, o.op ≠ .defer c := fun c e => by rw [e] at h; cases h
theorem aH4.of {o : Oper} (h : Eff P Q w0 N ds env M o Φ) (hd : nV o.op = true) : aH4 P ro n Q w0 N ds env M o Φ := fun a w ha hw => by
 have h1 := h a w ha hw
 refine ⟨fun _ _ => trivial, ?_⟩
 rw [Oper.semAt_eq _ _ _ (xZ hd)]
 unfold Oper.wp at h1
 generalize (execOp a.eval o).run P w = r at h1
 cases r with
 | ok nx w' =>
  cases nx <;> simp only [Oper.upon] at h1 <;> simp only [Oper.uponIn] <;>
   first
    | exact h1
    | exact ⟨aH2, aH3 h1⟩
    | exact ⟨aH2, rows_G h1⟩
    | exact False.elim h1
 | halt x w' => cases x <;> simp only [Oper.upon] at h1 <;> simp only [Oper.uponIn] <;> exact h1
theorem fZ (h : Tr w0 N ds env M (Q .normal)) : Tr w0 N ds env M (wpListIn (G ro) n P ops Q []) := h
theorem yB {oo : Oper} (h : ∀ a w, EnvOk N ds env a → Ok w0 M w → Region.wanted oo (yielded ops a.tmps) = true) (he : aH4 P ro n Q w0 N ds env M oo (wpListIn (G ro) n P ops Q rest)) :
  Tr w0 N ds env M (wpListIn (G ro) n P ops Q (oo :: rest)) := fun a w ha hw => by
 simp only [wpListIn]
 rw [if_pos (h a w ha hw)]
 exact he a w ha hw
theorem i_skip {oo : Oper} {dd : Nat} (hdst : oo.dst = some dd) (h : ∀ a w, EnvOk N ds env a → Ok w0 M w → Region.wanted oo (yielded ops a.tmps) = false) (hd : Nat.ble (dd + 1) N = true)
  (he : Tr w0 N ds ((dd, undef) :: env) M (wpListIn (G ro) n P ops Q rest)) : Tr w0 N ds env M (wpListIn (G ro) n P ops Q (oo :: rest)) := fun a w ha hw => by
 simp only [wpListIn]
 rw [if_neg (by rw [h a w ha hw]; simp)]
 refine ⟨fun _ _ => trivial, ?_⟩
 rw [hdst]
 exact he _ _ (ha.put hd undef) hw
theorem aN6 {g : Option (Nat × Bool)} (hr : fL P w0 N ds env M o t v) (hn : nV o = true) (hd : Nat.ble (d + 1) N = true) (h : Tr w0 N ds ((d, v) :: env) M Φ) : aH4 P ro n Q w0 N ds env M ⟨some d, o, t, pos, af, g⟩ Φ :=
 aH4.of (iK hr hd h) hn
theorem cJ (hr : fL P w0 N ds env M o t v) (hd : Nat.ble (d + 1) N = true) (h : Tr w0 N ds ((d, v) :: env) M (wpListIn (G ro) n P ops Q rest)) (hn : nV o = true := by rfl) :
  Tr w0 N ds env M (wpListIn (G ro) n P ops Q (⟨some d, o, t, pos, af, none⟩ :: rest)) :=
 yB (fun _ _ _ _ => rfl) (aN6 hr hn hd h)
theorem gR {oo : Oper} (hg : oo.guard = none) (h : Eff P Q w0 N ds env M oo (wpListIn (G ro) n P ops Q rest)) (hn : nV oo.op = true := by rfl) : Tr w0 N ds env M (wpListIn (G ro) n P ops Q (oo :: rest)) :=
 yB (fun _ _ _ _ => by simp [Region.wanted, hg]) (aH4.of h hn)
theorem yC {oo : Oper} (hg : oo.guard = none) (h : aH4 P ro n Q w0 N ds env M oo (wpListIn (G ro) n P ops Q rest)) : Tr w0 N ds env M (wpListIn (G ro) n P ops Q (oo :: rest)) :=
 yB (fun _ _ _ _ => by simp [Region.wanted, hg]) h
theorem nW {j s : Nat} {b c : Bool} (hc : c = b) (hs : fY ops j = some s) (hb : env.get s = some (.bool c)) (hr : fL P w0 N ds env M o t v) (hd : Nat.ble (d + 1) N = true)
  (h : Tr w0 N ds ((d, v) :: env) M (wpListIn (G ro) n P ops Q rest)) (hn : nV o = true := by rfl) : Tr w0 N ds env M (wpListIn (G ro) n P ops Q (⟨some d, o, t, pos, af, some (j, b)⟩ :: rest)) := by
 subst hc; exact yB (fun a w ha hw => by rw [gY ha hs hb]; simp) (aN6 hr hn hd h)
theorem aW8 {j s : Nat} {b c : Bool} {dst : Option Tmp} (hc : c = b) (hs : fY ops j = some s) (hb : env.get s = some (.bool c)) (h : aH4 P ro n Q w0 N ds env M ⟨dst, o, t, pos, af, some (j, b)⟩ (wpListIn (G ro) n P ops Q rest)) :
  Tr w0 N ds env M (wpListIn (G ro) n P ops Q (⟨dst, o, t, pos, af, some (j, b)⟩ :: rest)) := by
 subst hc; exact yB (fun a w ha hw => by rw [gY ha hs hb]; simp) h
theorem lO {j s : Nat} {b c want : Bool} (hc : c = b) (hs : fY ops j = some s) (hb : env.get s = some (.bool c)) (hne : (b == want) = false) (hd : Nat.ble (d + 1) N = true)
  (h : Tr w0 N ds ((d, undef) :: env) M (wpListIn (G ro) n P ops Q rest)) : Tr w0 N ds env M (wpListIn (G ro) n P ops Q (⟨some d, o, t, pos, af, some (j, want)⟩ :: rest)) := by
 subst hc; exact i_skip rfl (fun a w ha hw => by rw [gY ha hs hb, hne]) hd h
theorem iC {j s : Nat} {b : Bool} (hs : fY ops j = some s) (hb : env.get s = some (.bool b)) (hr : fL P w0 N ds env M o t v) (hd : Nat.ble (d + 1) N = true)
  (h : Tr w0 N ds ((d, v) :: env) M (wpListIn (G ro) n P ops Q rest)) (hn : nV o = true := by rfl) : Tr w0 N ds env M (wpListIn (G ro) n P ops Q (⟨some d, o, t, pos, af, some (j, b)⟩ :: rest)) := nW rfl hs hb hr hd h hn
theorem jD {j s : Nat} {b want : Bool} (hs : fY ops j = some s) (hb : env.get s = some (.bool b)) (hne : (b == want) = false) (hd : Nat.ble (d + 1) N = true)
  (h : Tr w0 N ds ((d, undef) :: env) M (wpListIn (G ro) n P ops Q rest)) : Tr w0 N ds env M (wpListIn (G ro) n P ops Q (⟨some d, o, t, pos, af, some (j, want)⟩ :: rest)) := lO rfl hs hb hne hd h
theorem aH5 : ∀ (l1 l2 : List Oper) (a : Act) (w : World), wpListIn (G ro) n P ops (Exit.then (wpListIn (G ro) n P ops Q l2) Q) l1 a w → wpListIn (G ro) n P ops Q (l1 ++ l2) a w := by
 intro l1 l2
 induction l1 with
 | nil => intro a w h; exact h
 | cons o l1 ih =>
  intro a w h
  simp only [wpListIn, List.cons_append] at h ⊢
  split
  ·rename_i hw
   rw [if_pos hw] at h
   refine ⟨h.1, ?_⟩
   have h2 := h.2
   generalize (o.semAt (G ro).round a.eval).run P w = r at *
   cases r with
   | ok nx w' =>
    cases nx <;> simp only [Oper.uponIn] at h2 ⊢ <;>
     first
      | exact ih _ _ h2
      | exact ⟨h2.1, h2.2.mono (fun e w'' he => by cases e <;> first | exact ih _ _ he | exact he)⟩
      | exact ⟨h2.1, h2.2.mono (fun _ _ he => ih _ _ he)⟩
   | halt x w' => cases x <;> simp only [Oper.uponIn] at h2 ⊢ <;> exact h2
  ·rename_i hw
   rw [if_neg hw] at h
   exact ⟨h.1, ih _ _ h.2⟩
theorem i_cut (k : Nat) {l : List Oper} (env' : dM) (M' : List Ent)
  (h1 : ∀ K : Act → World → Prop, Tr w0 N ds env' M' K → Tr w0 N ds env M (wpListIn (G ro) n P ops (Exit.then K Q) (l.take k)))
  (h2 : Tr w0 N ds env' M' (wpListIn (G ro) n P ops Q (l.drop k))) : Tr w0 N ds env M (wpListIn (G ro) n P ops Q l) := fun a w ha hw => by
 have := aH5 (l.take k) (l.drop k) a w (h1 _ h2 a w ha hw)
 rwa [List.take_append_drop] at this
theorem uP (k : Nat) {s d : Nat} {c y : Bool} {l : List Oper} (hs : env.get s = some (.bool c))
  (h1 : c = true → ∀ K : Act → World → Prop, (∀ b : Bool, b = (c && y) → Tr w0 N ds ((d, .bool b) :: env) M K) → Tr w0 N ds env M (wpListIn (G ro) n P ops (Exit.then K Q) (l.take k)))
  (h2 : c = false → ∀ K : Act → World → Prop, (∀ b : Bool, b = (c && y) → Tr w0 N ds ((d, .bool b) :: env) M K) → Tr w0 N ds env M (wpListIn (G ro) n P ops (Exit.then K Q) (l.take k)))
  (h3 : Tr w0 N ds ((d, .bool (c && y)) :: env) M (wpListIn (G ro) n P ops Q (l.drop k))) : Tr w0 N ds env M (wpListIn (G ro) n P ops Q l) :=
 i_cut k ((d, .bool (c && y)) :: env) M (fun K hK => by
  cases hc : c
  ·exact h2 hc K fun b e => by rw [e]; exact hK
  ·exact h1 hc K fun b e => by rw [e]; exact hK) h3
theorem eE {id : Nat} {l : List Oper} (h : Tr w0 N ds env M (wpListIn (G ro) n P l.toArray Q l)) : Tr w0 N ds env M ((Code.region id l.toArray false).wpIn (G ro) n P Q) :=
 fun a w ha hw => wpIn_region_lit (h a w ha hw)
theorem kF {id : Nat} {l : List Oper} (h : Tr w0 N ds env M (wpListIn (G none) 1 P l.toArray Q l)) : Tr w0 N ds env M ((Code.region id l.toArray false).wp P Q) :=
 fun a w ha hw => (wpIn_wide (n := 1)).1 (wpIn_region_lit (h a w ha hw))
theorem pT {x y : Code} (h : Tr w0 N ds env M (x.wpIn (G ro) n P (Exit.then (y.wpIn (G ro) n P Q) Q))) : Tr w0 N ds env M ((Code.seq x y).wpIn (G ro) n P Q) := fun a w ha hw => wpIn_seq (h a w ha hw)
theorem nZ {i : Nat} {c : Code} (h : Tr w0 N ds env M (c.wpIn (G ro) n P (Exit.inBlock i Q))) : Tr w0 N ds env M ((Code.block i c).wpIn (G ro) n P Q) := fun a w ha hw => wpIn_block (h a w ha hw)
theorem vV (h : Tr w0 N ds env M (Q .normal)) : Tr w0 N ds env M (Code.skip.wpIn (G ro) n P Q) := fun a w ha hw => wpIn_skip (h a w ha hw)
theorem i_exit {i : Nat} (h : Tr w0 N ds env M (Q (.exit i))) : Tr w0 N ds env M ((Code.exit i).wpIn (G ro) n P Q) := fun a w ha hw => wpIn_exit (h a w ha hw)
theorem aH6 {c : Operand} {x y : Code} {b : Bool} (hc : env.op c = some (.bool b)) (h1 : b = true → Tr w0 N ds env M (x.wpIn (G ro) n P Q)) (h2 : b = false → Tr w0 N ds env M (y.wpIn (G ro) n P Q)) :
  Tr w0 N ds env M ((Code.cond c x y).wpIn (G ro) n P Q) := fun a w ha hw => wpIn_cond_split (ha.op hc) (fun e => h1 e a w ha hw) (fun e => h2 e a w ha hw)
theorem bJ0 {c : Operand} {x y : Code} (hc : env.op c = some (.bool false)) (h1 : Tr w0 N ds env M (y.wpIn (G ro) n P Q)) : Tr w0 N ds env M ((Code.cond c x y).wpIn (G ro) n P Q) := fun a w ha hw => wpIn_cond_false (ha.op hc) (h1 a w ha hw)
theorem oA {l : Nat} {fo : Operand} {xs : List Operand} {T : Array TypeId} {vs : List Value} {u : Value} {σ : Type} {φ : σ → Prop} {M' : σ → List Ent} {g : Option (Nat × Bool)} (hfo : env.op fo = some (.func (.yield l) #[] #[])) (hx : env.opl xs = some vs) (hd : Nat.ble (d + 1) N = true)
  (hy : ∀ w, Ok w0 M w → YieldAt (G none) 0 P l vs.toArray w (fun e w' => e = .returned u ∧ ∃ s, φ s ∧ Ok w0 (M' s) w')) (hk : ∀ s, φ s → Tr w0 N ds ((d, u) :: env) (M' s) Φ) :
  aH4 P none 1 Q w0 N ds env M ⟨some d, .call { callee := .value fo, args := xs.toArray, argTypes := T }, t, pos, af, g⟩ Φ := fun a w ha hw => by
 obtain ⟨fn, tmps, assign, body, hrun, hround⟩ := hy w hw
 have hxs := ha.opl hx
 refine ⟨fun _ _ => trivial, ?_⟩
 rw [Oper.semAt_eq _ _ _ (xZ rfl)]
 have hrun' : (execOp a.eval ⟨some d, .call { callee := .value fo, args := xs.toArray, argTypes := T }, t, pos, af, g⟩).run P w = .ok (.round l fn tmps assign body) w := by
  simp only [execOp, resolve, Deferred.ofValue, ha.op hfo, invoke, Sem.run_bind, Sem.run_pure, Result.andThen_ok, List.map_toArray, hxs]
  simpa using hrun
 rw [hrun']
 refine ⟨aH2, hround.mono fun e w' he => ?_⟩
 obtain ⟨rfl, s, hs, hw'⟩ := he
 exact hk s hs _ _ (ha.put hd u) hw'
end
end Go.Sl
set_option linter.unusedVariables false
set_option linter.unusedSectionVars false
set_option linter.unusedSimpArgs false
namespace Go.Sl
open Go
abbrev jX (l : Nat) (r : Loop) : Ent := ⟨l, .loop { r with state := .ready, pending := none }⟩
abbrev bJ1 (l : Nat) (r : Loop) : Ent := ⟨l, .loop { r with state := .busy, pending := none }⟩
abbrev jV (D : Nat) : Ent := ⟨D, .deferred (some [])⟩
abbrev uQ (D : Nat) : Deferred := { target := .collected D, args := #[] }
def tS (P : Program) (l : Nat) (Y : Act → World → Prop) : Act → World → Prop := fun a₁ w₁ => ∃ w₂, (Instr.beginRound l).run P w₁ = .ok () w₂ ∧ Y a₁ w₂
def aS3 : List Nat → List Value → dM → dM
 | p :: ps, v :: vs, e => aS3 ps vs ((p, v) :: e)
 | _, _, e => e
theorem aH7 {N : Nat} : ∀ (ps : List Nat) (vs : List Value) (env : dM) (tm : Array Value), (∀ p ∈ ps, p < N) → EnvOk N [] env { tmps := tm, defers := [] } →
  EnvOk N [] (aS3 ps vs env) { tmps := (ps.zip vs).foldl (fun t (p : Nat × Value) => t.setIfInBounds p.1 p.2) tm, defers := [] }
 | [], _, _, _, _, h => by simpa [aS3] using h
 | _ :: _, [], _, _, _, h => by simpa [aS3] using h
 | p :: ps, v :: vs, env, tm, hp, h => by
  simp only [aS3, List.zip_cons_cons, List.foldl_cons]
  refine aH7 ps vs _ _ (fun q hq => hp q (by simp [hq])) ?_
  have := h.put (d := p) (by rw [Nat.ble_eq]; have := hp p (by simp); omega) v
  simpa [Act.put] using this
section
variable {P : Program} {Q : Exit → Act → World → Prop} {w0 : World} {N : Nat} {ds : List Deferred} {env : dM} {M : List Ent} {Y : Act → World → Prop}
theorem Ok.putObj {w : World} {M M' : List Ent} {b : Nat} {o o' : Obj} (hw : Ok w0 M w) (hu : Upd M ⟨b, o⟩ ⟨b, o'⟩ M') : Ok w0 M' (w.putObj b o') := by
 obtain ⟨A, B, rfl, rfl⟩ := hu.split
 have hb := hw.lt (k := ⟨b, o⟩) (by simp)
 exact hw.put o' rfl rfl rfl (by simp) (World.putObj_heap_same hb) (fun c hc => World.putObj_heap_other hc)
theorem Upd.mem {M M' : List Ent} {x y : Ent} (h : Upd M x y M') : x ∈ M := by
 obtain ⟨A, B, rfl, _⟩ := h.split; simp
theorem oB {l : Nat} {r : Loop} {M' : List Ent} (hu : Upd M (jX l r) (bJ1 l r) M') (h : Tr w0 N ds env M' Y) : Tr w0 N ds env M (tS P l Y) := fun a w ha hw =>
 ⟨_, run_beginRound (hw.mem _ hu.mem) rfl, h a _ ha (hw.putObj hu)⟩
theorem fV {l : Nat} {r : Loop} {R : Ending → World → Prop} {M' : List Ent} (hu : Upd M (bJ1 l r) (jX l r) M') (h : ∀ w, Ok w0 M' w → R (.returned (.bool true)) w) :
  Tr w0 N ds env M (roundPost P l R .normal) := fun a w ha hw =>
 ⟨_, _, run_endRound none (hw.mem _ hu.mem), h _ (hw.putObj hu)⟩
abbrev aS4 {α σ : Type} (w0 : World) (inv : List α → σ → Prop) (Me : σ → List Ent) (l : Nat) (r : Loop) (Fr : List Ent) (pre : List α) : Ending → World → Prop :=
 fun e w' => e = .returned (.bool true) ∧ ∃ s, inv pre s ∧ Ok w0 (jX l r :: (Fr ++ Me s)) w'
abbrev Yields {α σ : Type} (P : Program) (w0 : World) (encs : α → List Value) (inv : List α → σ → Prop) (Me : σ → List Ent) (xs : List α) (l : Nat) (r : Loop) : Prop :=
 ∀ Fr pre x post, xs = pre ++ x :: post → ∀ s, inv pre s → ∀ w, Ok w0 (jX l r :: (Fr ++ Me s)) w → YieldAt (G none) 0 P l (encs x).toArray w (aS4 w0 inv Me l r Fr (pre ++ [x]))
theorem jJ {α σ : Type} {g : Operand} {ps : Array Tmp} {assign body : Code} {gf : FuncId} {lb : Array Value} (hg : env.op g = some (.func (.func gf) #[] lb)) (eg : aV P gf)
  (encs : α → List Value) (hps : ∀ x, (encs x).length = ps.size) (hpN : ∀ p ∈ ps.toList, p < N) (xs : List α) (inv : List α → σ → Prop) (Me : σ → List Ent) (s0 : σ) (h0 : inv [] s0) (hM : M = Me s0)
  (hiter : ∀ l r Fr, Yields P w0 encs inv Me xs l r → ∀ w, Ok w0 (jX l r :: (Fr ++ Me s0)) w → Calls P gf (#[.func (.yield l) #[] #[]] ++ lb) w (fun e w' => (∃ v, e = .returned v) ∧ ∃ s, inv xs s ∧ Ok w0 (jX l r :: (Fr ++ Me s)) w'))
  (hround : ∀ l r Fr pre x post, xs = pre ++ x :: post → ∀ s, inv pre s → Tr w0 N [] (aS3 ps.toList (encs x) env) (jX l r :: (Fr ++ Me s))
   (assign.wpIn (G (some l)) 0 P (Exit.then (tS P l (body.wpIn (G (some l)) 0 P (roundPost P l (aS4 w0 inv Me l r Fr (pre ++ [x]))))) (fun _ _ _ => False))))
  (hdone : ∀ D s, inv xs s → Tr w0 N (uQ D :: ds) env (jV D :: Me s) (Q .normal)) :
  Tr w0 N ds env M ((Code.rangeFunc g ps assign body).wp P Q) := fun a w ha hw => by
 subst hM
 refine (wpIn_wide (n := 2)).1 (wpIn_rangeFunc (F := Fence.wide) fun fn _ => ?_)
 obtain ⟨r, hr⟩ : ∃ r : Loop, r = { state := .ready, pending := none, fn, tmps := a.tmps, params := ps, assign, body, defers := w.heap.size } := ⟨_, rfl⟩
 have hr0 : (jX (w.heap.size + 1) r).o = .loop r := by rw [hr]
 obtain ⟨W1, hW1⟩ : ∃ W1, (w.alloc (.deferred (some []))).alloc (.loop r) = W1 := ⟨_, rfl⟩
 have hok : Ok w0 (jX (w.heap.size + 1) r :: ([jV w.heap.size] ++ Me s0)) W1 := by
  have := (hw.alloc (.deferred (some []))).alloc (.loop r)
  rw [← hW1]
  rw [World.size_alloc] at this
  show Ok w0 (⟨w.heap.size + 1, .loop { r with state := .ready, pending := none }⟩ :: _) _
  have e : ({ r with state := .ready, pending := none } : Loop) = r := by rw [hr]
  rw [e]; exact this
 refine ⟨w.heap.size + 1, [uQ w.heap.size], W1, { target := .fn (.func gf) lb, args := #[.func (.yield (w.heap.size + 1)) #[] #[]] }, W1, gf,
  #[.func (.yield (w.heap.size + 1)) #[] #[]] ++ lb, W1, ?_, ?_, fun _ _ => trivial, ?_, fun h => by simp [Fence.wide] at h, ?_⟩
 ·rw [← hW1, hr]; exact run_enterLoop_outer _ _ _ _ _
 ·have hev := ha.op hg
  simp only [resolve, hev, Deferred.ofValue]
  simp [Act.eval]
 ·have := eg (#[.func (.yield (w.heap.size + 1)) #[] #[]] ++ lb) W1
  simpa [invoke] using this
 ·have hy : Yields P w0 encs inv Me xs (w.heap.size + 1) r := fun Fr pre x post hx s hs W hW => by
   have hl : W.heap[w.heap.size + 1]? = some (.loop { r with state := .ready, pending := none }) := hW.mem (jX (w.heap.size + 1) r) (by simp)
   have hsz : (encs x).toArray.size = ({ r with state := .ready, pending := none } : Loop).params.size := by rw [hr]; simpa using hps x
   refine ⟨_, _, _, _, run_yield hl hsz, roundIn_of_wpIn trivial ?_⟩
   have hen : EnvOk N [] env { tmps := a.tmps, defers := [] } := ⟨ha.size, rfl, ha.get⟩
   have := hround (w.heap.size + 1) r Fr pre x post hx s hs _ _ (aH7 ps.toList (encs x) env a.tmps hpN hen) hW
   rw [hr] at this ⊢
   simp only at this ⊢
   have ez : ((ps.zip (encs x).toArray).foldl (fun tmps (x : Tmp × Value) => tmps.setIfInBounds x.1 x.2) a.tmps) = ((ps.toList.zip (encs x)).foldl (fun t (p : Nat × Value) => t.setIfInBounds p.1 p.2) a.tmps) := by
    rw [← Array.foldl_toList]; simp
   rw [ez]
   exact this
  refine (aH3 (ro := none) (n := 1) (hiter (w.heap.size + 1) r [jV w.heap.size] hy W1 hok)).mono ?_
  rintro e W2 ⟨⟨v, rfl⟩, s, hs, hW2⟩
  have hl : W2.heap[w.heap.size + 1]? = some (.loop { r with state := .ready, pending := none }) := hW2.mem (jX (w.heap.size + 1) r) (by simp)
  refine ⟨none, _, run_endLoop hl (by simp), ?_⟩
  have hfin : Ok w0 (jV w.heap.size :: Me s) (W2.putObj (w.heap.size + 1) (.loop { r with state := .exhausted, pending := none })) :=
   (hW2.putObj (o' := .loop { r with state := .exhausted, pending := none }) .here).sub (List.sublist_cons_self _ _)
  exact hdone w.heap.size s hs _ _ ⟨ha.size, by simp [ha.defers], ha.get⟩ hfin
theorem rA {f : FuncId} {fn : Func} {c : Code} {vs : List Value} {R : Ending → World → Prop} (hf : P.funcs[f]? = some fn) (hb : fn.body = some c) (hN : fn.ntmps = N) (hl : Nat.ble vs.length N = true)
  (h : Tr w0 N [] (mU 0 vs) M (c.wp P (bodyPostM Fence.wide 2 P fn R))) : ∀ w, Ok w0 M w → Calls P f vs.toArray w R := fun w hw => by
 have hl' : vs.length ≤ N := Nat.le_of_ble_eq_true hl
 refine (callsIn_wide (n := 2)).1 (callsIn_of_wp_marks hf hb trivial ((wpIn_wide (n := 2)).2 (h _ _ ⟨by simp [hN]; omega, rfl, fun d v hd => ?_⟩ hw)))
 obtain ⟨_, hv⟩ := qT vs 0 d v hd
 have hd' : d < vs.length := by
  have := (List.getElem?_eq_some_iff.1 hv).1; omega
 simp only [Nat.sub_zero] at hv
 simp [Array.getElem?_append, hd', hv]
 have := List.getElem?_eq_some_iff.1 hv
 obtain ⟨_, h2⟩ := this
 exact h2
theorem oX {fn : Func} {tm : Array Value} {R : Ending → World → Prop} {D : Nat} {M' : List Ent} {w : World} {ds : List Deferred} {u : FrameMode} (hu : u ≠ .run) (hw : Ok w0 (jV D :: M') w)
  (h : ∀ w', Ok w0 M' w' → LeavesInM Fence.wide 2 P fn tm R ds u w') : LeavesInM Fence.wide 2 P fn tm R (uQ D :: ds) u w :=
 ⟨hu, .inl ⟨D, _, rfl, run_takeDeferred (hw.mem (jV D) (by simp)), h _ ((hw.putObj (o' := .deferred none) .here).sub (List.sublist_cons_self _ _))⟩⟩
theorem vW {fn : Func} {R : Ending → World → Prop} {s D : Nat} {v : Value} {M' : List Ent} (hr : fn.results = #[.tmp s]) (hs : env.get s = some v) (hM : M.Perm (jV D :: M')) (h : ∀ w, Ok w0 M' w → R (.returned v) w) :
  Tr w0 N [uQ D] env M (bodyPostM Fence.wide 2 P fn R .ret) := fun a w ha hw => by
 simp only [bodyPostM, ha.defers]
 exact oX (by simp) (hw.perm hM) fun w' hw' => ⟨v, by rw [results_tmp hr]; have := ha.get s v hs; simp [Array.getD_eq_getD_getElem?, this], h w' hw'⟩
theorem sP {fn : Func} {R : Ending → World → Prop} {s T b k n : Nat} {vs : List Value} (hr : fn.results = #[.cell s T]) (ht : bY P T = some (some n)) (hs : env.get s = some (.pointer (some ⟨b, k, none⟩)))
  (hrd : ∀ j v, vs[j]? = some v → Rd w0 M ⟨b, k + j, none⟩ v) (hn : vs.length = n) (h : ∀ w, Ok w0 M w → R (.returned (.agg vs.toArray)) w) :
  Tr w0 N [] env M (bodyPost P fn R .ret) := fun a w ha hw => by
 refine ⟨ha.defers, _, ?_, h w hw⟩
 obtain ⟨h1, i, hi, hsz⟩ := sL ht
 have h2 := run_loadCells_list (P := P) (w := w) ⟨b, k, none⟩ vs (fun j v hv => by rw [Addr.add_lit]; exact hrd j v hv w hw)
 rw [hn] at h2
 have h3 := ha.get s _ hs
 have h4 : a.tmps.getD s undef = .pointer (some ⟨b, k, none⟩) := by simp [Array.getD_eq_getD_getElem?, h3]
 simp only [results, hr]
 simp [h4, h3, asAddr, loadVar, h1, sizeOf, typeInfo, hi, hsz, h2]
end
end Go.Sl
