/-
 What functions of the program that RallyChecks reaches do, one contract each, part 10.
-/
import Derived.Test.YtakiijkfjjmppaaGreatDoorKWI
import Derived.Test.YtakiijkfjjmppaaGreatDoorKSlB
set_option linter.unusedVariables false
set_option linter.unusedSimpArgs false
set_option linter.unusedSectionVars false
set_option maxRecDepth 100000
set_option maxHeartbeats 1000000
namespace Go.Proofs.W
open Go Go.Sl Go.RowKit Go.Proofs
attribute [local irreducible] Go.Sl.Eff
def vE : Nat → List ByteArray → List ByteArray
 | _, [] => []
 | b, s :: r => gL (jH (b : Int) s) :: vE (jH (b : Int) s) r
@[simp] theorem chainsF_len : ∀ (b : Nat) (l : List ByteArray), (vE b l).length = l.length
 | _, [] => rfl
 | b, x :: l => by simp [vE, chainsF_len]
def chainsV (ls : List ByteArray) : List ByteArray := vE 14695981039346656037 ls
@[simp] theorem chainsV_len (l : List ByteArray) : (chainsV l).length = l.length := chainsF_len _ _
section
variable {w0 : World} {N : Nat} {ds : List Deferred} {env : dM} {M : List Ent}
end
end Go.Proofs.W
set_option linter.unusedVariables false
set_option linter.unusedSimpArgs false
set_option linter.unusedSectionVars false
set_option maxRecDepth 100000
namespace Go.Proofs.W
open Go Go.Sl Go.RowKit Go.Proofs
attribute [local irreducible] Go.Sl.Eff
section
variable {w0 : World} {N : Nat} {ds : List Deferred} {env : dM} {M : List Ent} {t : TypeId}
end
section
variable {w0 : World} {N : Nat} {ds : List Deferred} {env : dM} {M : List Ent}
end
end Go.Proofs.W
set_option linter.unusedVariables false
set_option linter.unusedSimpArgs false
set_option linter.unusedSectionVars false
set_option maxRecDepth 100000
namespace Go.Proofs.W
open Go Go.Sl Go.RowKit Go.Proofs
attribute [local irreducible] Go.Sl.Eff
def lowD (h : Nat) : Nat → List UInt8
 | 0 => []
 | j + 1 => lK (h / 16 ^ j % 16) :: lowD h j
@[simp] theorem lowD_len (h : Nat) : ∀ j, (lowD h j).length = j
 | 0 => rfl
 | j + 1 => by simp [lowD, lowD_len h j]
section
variable {w0 : World} {N : Nat} {ds : List Deferred} {env : dM} {M : List Ent}
end
end Go.Proofs.W
set_option linter.unusedVariables false
set_option linter.unusedSimpArgs false
set_option linter.unusedSectionVars false
set_option maxRecDepth 100000
namespace Go.Proofs.W
open Go Go.Sl Go.RowKit Go.Proofs
attribute [local irreducible] Go.Sl.Eff
structure PlanV where
 items : List SItem
 classes : Int
 late : Int
 early : Int
 maxLate : Int
 legLate : Int
 jumps : List Int
 b5 : Bool
 missed : Int
 notional : Int
 percent : Int
 power : Int
 points : List Int
 extra : List Int
structure PlanAt where
 I : Option Addr
 J : Option Addr
 X : Option Addr
 Y : Option Addr
 ci : Nat
 cj : Nat
 cx : Nat
 cy : Nat
abbrev PlanV.rules (p : PlanV) (a : PlanAt) : List Value := [.int .i64 p.late, .int .i64 p.early, .int .i64 p.maxLate, .int .i64 p.legLate, .slice a.J p.jumps.length a.cj, .bool p.b5, .int .i64 p.missed, .int .i64 p.notional, .int .i64 p.percent, .int .i64 p.power, .slice a.X p.points.length a.cx, .slice a.Y p.extra.length a.cy]
abbrev PlanV.cells (p : PlanV) (a : PlanAt) : List Value := .slice a.I p.items.length a.ci :: .int .i64 p.classes :: p.rules a
structure PlanV.In (w0 : World) (M : List Ent) (p : PlanV) (a : PlanAt) : Prop where
 items : SlRd w0 M 4 a.I p.items.length (p.items.map SItem.cells)
 jumps : SlRd w0 M 1 a.J p.jumps.length (p.jumps.map encI)
 points : SlRd w0 M 1 a.X p.points.length (p.points.map encI)
 extra : SlRd w0 M 1 a.Y p.extra.length (p.extra.map encI)
theorem PlanV.In.sub {w0 : World} {M M' : List Ent} {p : PlanV} {a : PlanAt} (h : p.In w0 M a) (hs : M.Sublist M') : p.In w0 M' a := ⟨h.items.sub hs, h.jumps.sub hs, h.points.sub hs, h.extra.sub hs⟩
def item0 : SItem := ⟨0, 0, 0, false⟩
def cF (l : List SItem) (k : Nat) : SItem := l.getD k item0
theorem itemA_at {l : List SItem} {k : Nat} (h : k < l.length) : l[k]? = some (cF l k) := by simp [cF, List.getD, h]
def lB (l : List SItem) (k : Nat) : Bool :=
 !((decide (0 < (k : Int)) && !eK (IntKind.i64.wrap ((cF l k).leg - (cF l (k - 1)).leg)) 0 1) || decide (6 ≤ (cF l k).leg)) &&
 (if (cF l k).kind == 1 then eK (cF l k).target 0 1440 else if (cF l k).kind == 2 then !(((cF l k).target != 0) || (cF l k).free) else false)
def lV (p : PlanV) : Bool := !((!eK (p.items.length : Int) 1 100 || !eK p.classes 1 20) || ((cF p.items 0).leg != 0))
theorem oJ {n : Nat} {i : Int} (h : (!eK i (-1) ((n : Int) - 1)) = false) (h2 : decide (0 ≤ i) = true) : i.toNat < n ∧ i = (i.toNat : Int) ∧ 0 < n := by
 simp [eK] at h h2; omega
theorem pA {n : Nat} {c : Bool} (h : (!eK (n : Int) 1 100 || c) = false) : 0 < n := by
 simp [eK] at h; omega
def qB (p : PlanV) : Bool := (List.range p.items.length).all (lB p.items)
def oK (p : PlanV) : Bool := !((!eX [p.late, p.early, p.missed] 3 3 36000000 || !eX [p.maxLate, p.legLate] 2 2 1440) || !eX p.jumps 1 10 36000000)
def oL (p : PlanV) : Bool := !((((decide (p.notional < 1) || decide (4 < p.notional)) || !eK p.percent 100 1000) || !eX p.points 0 60 1000) || !eX p.extra 0 60 1000)
def qC (p : PlanV) : Bool := !(!eK p.power (-1) ((p.items.length : Int) - 1) || (decide (0 ≤ p.power) && ((cF p.items p.power.toNat).kind != 2)))
def eW (p : PlanV) : Bool := lV p && qB p && oK p && oL p && qC p
theorem lP {p : PlanV} {k : Nat} (h : k < p.items.length) (hk : lB p.items k = false) : eW p = false := by
 have : qB p = false := by
  unfold qB
  rw [List.all_eq_false]
  exact ⟨k, List.mem_range.2 h, by simp [hk]⟩
 simp [eW, this]
theorem wB {p : PlanV} (h : ∀ j, j < p.items.length → lB p.items j = true) : qB p = true := by
 unfold qB
 rw [List.all_eq_true]
 intro j hj
 exact h j (List.mem_range.1 hj)
section
variable {l : List SItem} {k : Nat} {c : Bool}
theorem aU8 (h : ((decide (0 < (k : Int)) && !eK (IntKind.i64.wrap ((cF l k).leg - (cF l (k - 1)).leg)) 0 1) || decide (6 ≤ (cF l k).leg)) = true) : lB l k = false := by unfold lB; rw [h]; rfl
theorem aB7 (h : ((decide (0 < (k : Int)) && !eK (IntKind.i64.wrap ((cF l k).leg - (cF l (k - 1)).leg)) 0 1) || decide (6 ≤ (cF l k).leg)) = false) (h1 : ((cF l k).kind == 1) = true) (h2 : (!eK (cF l k).target 0 1440) = c) : lB l k = !c := by
 unfold lB; rw [h, if_pos h1, ← h2]; simp
theorem aB8 (h : ((decide (0 < (k : Int)) && !eK (IntKind.i64.wrap ((cF l k).leg - (cF l (k - 1)).leg)) 0 1) || decide (6 ≤ (cF l k).leg)) = false) (h1 : ((cF l k).kind == 1) = false) (h3 : ((cF l k).kind == 2) = true) (h2 : (((cF l k).target != 0) || (cF l k).free) = c) : lB l k = !c := by
 unfold lB; rw [h, if_neg (by rw [h1]; decide), if_pos h3, h2]; simp
theorem itemB_3 (h : ((decide (0 < (k : Int)) && !eK (IntKind.i64.wrap ((cF l k).leg - (cF l (k - 1)).leg)) 0 1) || decide (6 ≤ (cF l k).leg)) = false) (h1 : ((cF l k).kind == 1) = false) (h3 : ((cF l k).kind == 2) = false) : lB l k = false := by
 unfold lB; rw [h, if_neg (by rw [h1]; decide), if_neg (by rw [h3]; decide)]; rfl
end
section
variable {w0 : World} {M : List Ent}
theorem yQ {p : PlanV} {a : PlanAt} (h : p.In w0 M a) : ∀ w, Ok w0 M w → Calls Tryz.prog 52 #[.agg (p.cells a).toArray] w (fun e w' => e = .returned (.int .i64 (if eW p then 0 else 2)) ∧ Ok w0 M w') := by
 have hbI := h.items.big
 obtain ⟨bi, oi, hA, hri⟩ : ∃ b o, (0 < p.items.length → a.I = some ⟨b, o, none⟩) ∧ ∀ j x, (p.items.map SItem.cells)[j]? = some x → ∀ k v, x[k]? = some v → Rd w0 M ⟨b, o + j * 4 + k, none⟩ v := by
  rcases Nat.eq_zero_or_pos p.items.length with h0 | h0
  ·exact ⟨0, 0, fun h1 => by omega, fun j x hx => by rw [List.eq_nil_of_length_eq_zero h0] at hx; simp at hx⟩
  ·obtain ⟨b, o, h1, h2⟩ := h.items.at' h0
   exact ⟨b, o, fun _ => h1, h2⟩
 refine enter (vs := [_]) Tryz.func52 rfl Tryz.ntmps52 rfl (aE (aA (te (cH rfl rfl fun b1 => (tv (aD rfl) (aF ?_))))))
 refine Tr.keep (env' := [(1, _)]) ⟨rfl, trivial⟩ (aB (aE (aE (aA (tv (aI cQ rfl) ?_)))))
 refine tv (aG eJ rfl (aK (.head _) rfl)) (tv (aP Tryz.underlying28 rfl) (te (aJ gX rfl rfl rfl rfl (cO _ _ _) (tv (bF rfl) (tv (aC rfl) ?_)))))
 apply aZ 5 (s := 11) (d := 16) rfl
 ·intro hg1 K hK
  refine bE hg1 rfl rfl (aI vK rfl) (bE hg1 rfl rfl (aG bB rfl (aK (.head _) rfl)) (dB hg1 rfl rfl (aJ gX rfl rfl rfl rfl (cO _ _ _) (bE hg1 rfl rfl (bF rfl) (tv (bW hg1 rfl rfl) ?_)))))
  iterate 4 refine Tr.weak2 rfl ?_
  exact hK _ (dJ hg1)
 ·intro hg1 K hK
  refine aH hg1 rfl rfl rfl rfl (aH hg1 rfl rfl rfl rfl (aH hg1 rfl rfl rfl rfl (aH hg1 rfl rfl rfl rfl (tv (bV hg1 rfl rfl) ?_))))
  iterate 4 refine Tr.weak2 rfl ?_
  exact hK _ (dK hg1)
 refine tv (aC rfl) ?_
 apply aZ 7 (s := 17) (d := 24) rfl
 ·intro hg2 K hK
  refine bE hg2 rfl rfl (aI cQ rfl) (bE hg2 rfl rfl (aG eJ rfl (aK (.head _) rfl)) (bE hg2 rfl rfl (cL (0) Tryz.underlying28 eT (hA (pA hg2)) rfl rfl rfl (pA hg2)) (bE hg2 rfl rfl (aI eC rfl) ?_)))
  refine bE hg2 rfl rfl (aG bB rfl (Rd.sub (hri (0) (cF p.items (0)).cells (by rw [List.getElem?_map, itemA_at (pA hg2)]; rfl) 1 _ rfl) (.cons _ (.refl _)))) ?_
  refine bE hg2 rfl rfl (eF rfl rfl) (tv (bW hg2 rfl rfl) ?_)
  iterate 6 refine Tr.weak2 rfl ?_
  exact hK _ (dJ hg2)
 ·intro hg2 K hK
  refine aH hg2 rfl rfl rfl rfl (aH hg2 rfl rfl rfl rfl (aH hg2 rfl rfl rfl rfl (aH hg2 rfl rfl rfl rfl (aH hg2 rfl rfl rfl rfl (aH hg2 rfl rfl rfl rfl ?_)))))
  refine tv (bV hg2 rfl rfl) ?_
  iterate 6 refine Tr.weak2 rfl ?_
  exact hK _ (dK hg2)
 refine aF (Tr.keep (env' := [(1, _), (24, _)]) ⟨rfl, rfl, trivial⟩ (aB ?_))
 refine bD rfl (fun hb1 => ?_) (fun hb1 => ?_)
 ·have hP1 : lV p = false := by rw [lV, hb1]; rfl
  refine aE (aA (tv (aD rfl) (aF (Tr.keep (env' := [(2, _)]) ⟨rfl, trivial⟩ (aB ?_)))))
  refine aQ (aN (aW rfl rfl (fun w hw => ?_)))
  exact ⟨by rw [show eW p = false from by simp [eW, hP1]]; rfl, Ok.sub hw (.cons _ (.refl _))⟩
 ·have hP1 : lV p = true := by rw [lV, hb1]; rfl
  refine aO (aB (aE (aE (aA (tv (aI cQ rfl) ?_)))))
  refine tv (aG eJ rfl (aK (.head _) rfl)) (tv (aP Tryz.underlying28 rfl) (tv (aC rfl) (aF (Tr.keep (env' := [(1, _), (26, _), (27, _), (28, _)]) ⟨rfl, rfl, rfl, rfl, trivial⟩ (aB ?_)))))
  refine aX (dW (fun k : Nat => [(1, .pointer (some ⟨b1, 0, none⟩)), (26, .slice a.I p.items.length a.ci), (27, .int .i64 (p.items.length : Int)), (28, .int .i64 (k : Int))]) (fun k : Nat => cel b1 33 (p.cells a) :: M) (fun k : Nat => k ≤ p.items.length ∧ ∀ j, j < k → lB p.items j = true) (fun k : Nat => p.items.length - k) 0 ⟨by omega, by omega⟩ ⟨rfl, rfl, rfl, rfl, trivial⟩ (.refl _) ?_)
  intro K k ⟨hk, hp⟩ IH
  refine aE (aA (tv (dI rfl rfl) (aF (Tr.keep (env' := [(1, _), (26, _), (27, _), (28, _), (29, _)]) ⟨rfl, rfl, rfl, rfl, rfl, trivial⟩ (aB ?_)))))
  refine aE ?_
  refine bD rfl (fun hc1 => ?_) (fun hc1 => ?_)
  ·have hlt : k < p.items.length := by have := of_decide_eq_true hc1; omega
   have hA := hA (by omega)
   refine aO (aB (aE (aX (aE (aA ?_)))))
   refine tv (aC rfl) (tv (cL (k) Tryz.underlying28 eT hA rfl rfl rfl hlt) ?_)
   refine tv (cM (v2 := .agg #[.int .i64 (cF p.items (k)).kind, .int .i64 (cF p.items (k)).leg, .int .i64 (cF p.items (k)).target, .bool (cF p.items (k)).free]) (aY qK rfl (fun j v hv => Rd.sub (hri (k) (cF p.items (k)).cells (by rw [List.getElem?_map, itemA_at (hlt)]; rfl) j v hv) (.cons _ (.refl _))) rfl) rfl) ?_
   refine te (bO pH (l := [.int .i64 0, .int .i64 0, .int .i64 0, .bool false]) rfl rfl fun b4 => (tv (aD rfl) (te (bJ eT rfl rfl (vs := [_, _, _, _]) rfl rfl (by simp [Value.oneCell']) (.cons .zero (.cons (.succ .zero) (.cons (.succ (.succ .zero)) (.cons (.succ (.succ (.succ .zero))) .nil)))) .here (aF (Tr.keep (env' := [(1, _), (3, _), (4, _), (26, _), (27, _), (28, _)]) ⟨rfl, rfl, rfl, rfl, rfl, rfl, trivial⟩ (aB ?_)))))))
   refine aE (aE (Tr.keep (env' := [(1, _), (3, _), (4, _), (26, _), (27, _), (28, _)]) ⟨rfl, rfl, rfl, rfl, rfl, rfl, trivial⟩ ?_))
   refine mG [(53, .bool ((decide (0 < (k : Int)) && !eK (IntKind.i64.wrap ((cF p.items k).leg - (cF p.items (k - 1)).leg)) 0 1) || decide (6 ≤ (cF p.items k).leg)))] (fun K hK => ?_) ?_
   ·skip
    refine cI cK rfl (dv 0 rfl (.refl _) (aC rfl) (dv 1 rfl (.refl _) (fC rfl rfl) (dv 2 rfl (.refl _) (aC rfl) ?_)))
    refine dN (s := 35) rfl (fun hd5 => ?_) (fun hd5 => ?_)
    ·skip
     refine dS 3 hd5 rfl (.refl _) rfl rfl (aI eC rfl) (dS 4 hd5 rfl (.refl _) rfl rfl (aG bB rfl (aK (.head _) rfl)) (dS 5 hd5 rfl (.refl _) rfl rfl (aI cQ rfl) (dS 6 hd5 rfl (.refl _) rfl rfl (aG eJ rfl (aK (.tail _ (.head _)) rfl)) (dS 7 hd5 rfl (.refl _) rfl rfl (aC rfl) (dS 8 hd5 rfl (.refl _) rfl rfl (cP rfl rfl (by omega)) ?_)))))
     refine dS 9 hd5 rfl (.refl _) rfl rfl (cL (k - 1) Tryz.underlying28 eT hA rfl rfl (by have := of_decide_eq_true ‹decide (0 < (k : Int)) = true›; omega) (by omega)) (dS 10 hd5 rfl (.refl _) rfl rfl (aI eC rfl) ?_)
     refine dS 11 hd5 rfl (.refl _) rfl rfl (aG bB rfl (Rd.sub (hri (k - 1) (cF p.items (k - 1)).cells (by rw [List.getElem?_map, itemA_at (by omega)]; rfl) 1 _ rfl) (.cons _ (.cons _ (.refl _))))) ?_
     refine dS 12 hd5 rfl (.refl _) rfl rfl (xN rfl rfl) (tR 13 hd5 rfl (by kernel_rfl) rfl rfl (aJ gX rfl rfl rfl rfl (cO _ _ _) (aU (.refl _) (dS 14 hd5 rfl (.refl _) rfl rfl (bF rfl) (dv 15 rfl (.refl _) (bV hd5 rfl rfl) (dv 16 rfl (.refl _) (aC rfl) ?_))))))
     refine dN (s := 49) rfl (fun hd6 => ?_) (fun hd6 => ?_)
     ·skip
      refine dR 17 hd6 rfl (.refl _) rfl rfl (dR 18 hd6 rfl (.refl _) rfl rfl (dR 19 hd6 rfl (.refl _) rfl rfl (dv 20 rfl (.refl _) (bV hd6 rfl rfl) (bQ (by kernel_rfl) ?_))))
      exact dF hK ⟨(by first | (simp [dM.get, hd5, hd6]; done) | exact absurd hd5 (by decide) | exact absurd hd6 (by decide) | (simp_all [dM.get]; done)), rfl, rfl, rfl, rfl, rfl, rfl, trivial⟩ (.refl _)
     ·skip
      refine dS 17 hd6 rfl (.refl _) rfl rfl (aI eC rfl) (dS 18 hd6 rfl (.refl _) rfl rfl (aG bB rfl (aK (.head _) rfl)) (dS 19 hd6 rfl (.refl _) rfl rfl (fI rfl rfl) (dv 20 rfl (.refl _) (bW hd6 rfl rfl) (bQ (by kernel_rfl) ?_))))
      exact dF hK ⟨(by first | (simp [dM.get, hd5, hd6]; done) | exact absurd hd5 (by decide) | exact absurd hd6 (by decide) | (simp_all [dM.get]; done)), rfl, rfl, rfl, rfl, rfl, rfl, trivial⟩ (.refl _)
    ·skip
     refine dR 3 hd5 rfl (.refl _) rfl rfl (dR 4 hd5 rfl (.refl _) rfl rfl (dR 5 hd5 rfl (.refl _) rfl rfl (dR 6 hd5 rfl (.refl _) rfl rfl (dR 7 hd5 rfl (.refl _) rfl rfl (dR 8 hd5 rfl (.refl _) rfl rfl ?_)))))
     refine dR 9 hd5 rfl (.refl _) rfl rfl (dR 10 hd5 rfl (.refl _) rfl rfl (dR 11 hd5 rfl (.refl _) rfl rfl (dR 12 hd5 rfl (.refl _) rfl rfl (dR 13 hd5 rfl (.refl _) rfl rfl (dR 14 hd5 rfl (.refl _) rfl rfl ?_)))))
     refine dv 15 rfl (.refl _) (bW hd5 rfl rfl) (dv 16 rfl (.refl _) (aC rfl) (eI 17 rfl (.refl _) rfl rfl (aI eC rfl) (eI 18 rfl (.refl _) rfl rfl (aG bB rfl (aK (.head _) rfl)) (eI 19 rfl (.refl _) rfl rfl (fI rfl rfl) (dv 20 rfl (.refl _) (bS rfl rfl) ?_)))))
     refine bQ (by kernel_rfl) ?_
     exact dF hK ⟨(by first | (simp [dM.get, hd5]; done) | exact absurd hd5 (by decide) | (simp_all [dM.get]; done)), rfl, rfl, rfl, rfl, rfl, rfl, trivial⟩ (.refl _)
   refine Tr.keep (env' := [(1, _), (4, _), (26, _), (27, _), (28, _), (53, _)]) ⟨rfl, rfl, rfl, rfl, rfl, rfl, trivial⟩ (aB ?_)
   refine bD rfl (fun hb2 => ?_) (fun hb2 => ?_)
   ·skip
    refine aE (aA (tv (aD rfl) (aF (Tr.keep (env' := [(2, _)]) ⟨rfl, trivial⟩ (aB ?_)))))
    refine aQ (aN (bM (aN (aN (bM ?_)))))
    refine aN (aW rfl rfl (fun w hw => ?_))
    exact ⟨by rw [show eW p = false from lP hlt (aU8 hb2)]; rfl, Ok.sub hw (.cons _ (.cons _ (.refl _)))⟩
   ·skip
    refine aO (aB (aE (aA (tv (aI gC rfl) (tv (aG jR rfl (aK (.head _) rfl)) ?_)))))
    refine aF (Tr.keep (env' := [(1, _), (4, _), (26, _), (27, _), (28, _), (55, _)]) ⟨rfl, rfl, rfl, rfl, rfl, rfl, trivial⟩ (aB (aX (aE (aA ?_)))))
    refine tv (cW rfl rfl) (tv (aD rfl) (aF (Tr.keep (env' := [(1, _), (4, _), (26, _), (27, _), (28, _), (55, _), (56, _)]) ⟨rfl, rfl, rfl, rfl, rfl, rfl, rfl, trivial⟩ (aB ?_))))
    refine bD rfl (fun hk1 => ?_) (fun hk1 => ?_)
    ·skip
     refine aE (aA (tv (aI lX rfl) (tv (aG bB rfl (aK (.head _) rfl)) (te (aJ gX rfl rfl rfl rfl (cO _ _ _) (tv (bF rfl) ?_))))))
     refine aF (Tr.keep (env' := [(1, _), (26, _), (27, _), (28, _), (61, _)]) ⟨rfl, rfl, rfl, rfl, rfl, trivial⟩ (aB ?_))
     refine bD rfl (fun hb3 => ?_) (fun hb3 => ?_)
     ·skip
      refine aE (aA (tv (aD rfl) (aF (Tr.keep (env' := [(2, _)]) ⟨rfl, trivial⟩ (aB ?_)))))
      refine aQ (bM (bM (aN (aN (bM ?_)))))
      refine aN (aW rfl rfl (fun w hw => ?_))
      exact ⟨by rw [show eW p = false from lP hlt (aB7 hb2 hk1 hb3)]; rfl, Ok.sub hw (.cons _ (.cons _ (.refl _)))⟩
     ·skip
      refine aO (cX (cX (aB (aA (tv (cC rfl rfl (by omega)) ?_)))))
      refine tv (aC rfl) (aF (Tr.keep (env' := [(1, _), (26, _), (27, _), (28, _)]) ⟨rfl, rfl, rfl, rfl, trivial⟩ (aB (nD (IH (k + 1) ⟨by omega, fun j hj => ?_⟩ (by omega)) ⟨rfl, rfl, rfl, rfl, trivial⟩ (.cons _ (.refl _))))))
      rcases Nat.lt_or_ge j k with h8 | h8
      ·exact hp j h8
      ·obtain rfl : j = k := by omega
       first | exact aB7 hb2 hk1 hb3 | exact aB8 hb2 hk1 hk2 hb4
    ·skip
     refine aE (aA (tv (cW rfl rfl) (tv (aD rfl) (aF (Tr.keep (env' := [(1, _), (4, _), (26, _), (27, _), (28, _), (62, _)]) ⟨rfl, rfl, rfl, rfl, rfl, rfl, trivial⟩ ?_)))))
     refine aB ?_
     refine bD rfl (fun hk2 => ?_) (fun hk2 => ?_)
     ·skip
      refine aE (aA (tv (aI lX rfl) (tv (aG bB rfl (aK (.head _) rfl)) (tv (eF rfl rfl) (tv (aC rfl) ?_)))))
      apply aZ 3 (s := 67) (d := 70) rfl
      ·intro hg11 K hK
       refine bE hg11 rfl rfl (aI wE rfl) (bE hg11 rfl rfl (aG pK rfl (aK (.head _) rfl)) (tv (bW hg11 rfl rfl) ?_))
       iterate 2 refine Tr.weak2 rfl ?_
       exact hK _ (dJ hg11)
      ·intro hg11 K hK
       refine aH hg11 rfl rfl rfl rfl (aH hg11 rfl rfl rfl rfl (tv (bV hg11 rfl rfl) ?_))
       iterate 2 refine Tr.weak2 rfl ?_
       exact hK _ (dK hg11)
      refine aF (Tr.keep (env' := [(1, _), (26, _), (27, _), (28, _), (70, _)]) ⟨rfl, rfl, rfl, rfl, rfl, trivial⟩ (aB ?_))
      refine bD rfl (fun hb4 => ?_) (fun hb4 => ?_)
      ·skip
       refine aE (aA (tv (aD rfl) (aF (Tr.keep (env' := [(2, _)]) ⟨rfl, trivial⟩ (aB ?_)))))
       refine aQ (bM (bM (aN (aN (bM ?_)))))
       refine aN (aW rfl rfl (fun w hw => ?_))
       exact ⟨by rw [show eW p = false from lP hlt (aB8 hb2 hk1 hk2 hb4)]; rfl, Ok.sub hw (.cons _ (.cons _ (.refl _)))⟩
      ·skip
       refine aO (cX (cX (aB (aA (tv (cC rfl rfl (by omega)) ?_)))))
       refine tv (aC rfl) (aF (Tr.keep (env' := [(1, _), (26, _), (27, _), (28, _)]) ⟨rfl, rfl, rfl, rfl, trivial⟩ (aB (nD (IH (k + 1) ⟨by omega, fun j hj => ?_⟩ (by omega)) ⟨rfl, rfl, rfl, rfl, trivial⟩ (.cons _ (.refl _))))))
       rcases Nat.lt_or_ge j k with h8 | h8
       ·exact hp j h8
       ·obtain rfl : j = k := by omega
        first | exact aB7 hb2 hk1 hb3 | exact aB8 hb2 hk1 hk2 hb4
     ·skip
      refine aE (aA (tv (aD rfl) (aF (Tr.keep (env' := [(2, _)]) ⟨rfl, trivial⟩ (aB ?_)))))
      refine aQ (bM (bM (aN (aN (bM ?_)))))
      refine aN (aW rfl rfl (fun w hw => ?_))
      exact ⟨by rw [show eW p = false from lP hlt (itemB_3 hb2 hk1 hk2)]; rfl, Ok.sub hw (.cons _ (.cons _ (.refl _)))⟩
  ·have h9 : ¬ k < p.items.length := by have := of_decide_eq_false hc1; omega
   refine cY (aS (aS (bX (aB (aE ?_)))))
   refine aA (tv (aI mK rfl) (tv (aY bD9 rfl (bL (n := 12) (vs := [_, _, _, _, _, _, _, _, _, _, _, _]) (.head _) rfl) rfl) (te (bO aP3 (l := [.int .i64 0, .int .i64 0, .int .i64 0, .int .i64 0, .slice none 0 0, .bool false, .int .i64 0, .int .i64 0, .int .i64 0, .int .i64 0, .slice none 0 0, .slice none 0 0]) rfl rfl fun b5 => (te (bJ bE0 rfl rfl (vs := [_, _, _, _, _, _, _, _, _, _, _, _]) rfl rfl (by simp [Value.oneCell']) (.cons .zero (.cons (.succ .zero) (.cons (.succ (.succ .zero)) (.cons (.succ (.succ (.succ .zero))) (.cons (.succ (.succ (.succ (.succ .zero)))) (.cons (.succ (.succ (.succ (.succ (.succ .zero))))) (.cons (.succ (.succ (.succ (.succ (.succ (.succ .zero)))))) (.cons (.succ (.succ (.succ (.succ (.succ (.succ (.succ .zero))))))) (.cons (.succ (.succ (.succ (.succ (.succ (.succ (.succ (.succ .zero)))))))) (.cons (.succ (.succ (.succ (.succ (.succ (.succ (.succ (.succ (.succ .zero))))))))) (.cons (.succ (.succ (.succ (.succ (.succ (.succ (.succ (.succ (.succ (.succ .zero)))))))))) (.cons (.succ (.succ (.succ (.succ (.succ (.succ (.succ (.succ (.succ (.succ (.succ .zero))))))))))) .nil)))))))))))) .here (aF ?_)))))))
   refine Tr.keep (env' := [(1, _), (5, _)]) ⟨rfl, rfl, trivial⟩ (aB (aE (aE (aA (tv (aI aC8 rfl) ?_)))))
   refine tv (aG bB rfl (aK (.head _) rfl)) (tv (aI aC9 rfl) (tv (aG bB rfl (aK (.head _) rfl)) (tv (aI aD2 rfl) (tv (aG bB rfl (aK (.head _) rfl)) (te (bN (E := 3) (l := bT ([p.late, p.early, p.missed].map encI)) rfl (fun w => by kernel_rfl) rfl fun b80 => ?_))))))
   refine te (aJ mC rfl rfl rfl rfl (jS (xs := [p.late, p.early, p.missed]) (SlRd.of_list encI mZ (xs := [p.late, p.early, p.missed]) (.head _) rfl (by simp)) _ _ _) (tv (bF rfl) (tv (aC rfl) ?_)))
   apply aZ 8 (s := 83) (d := 91) rfl
   ·intro hg13 K hK
    refine bE hg13 rfl rfl (aI aD0 rfl) (bE hg13 rfl rfl (aG bB rfl (aK (.tail _ (.head _)) rfl)) (bE hg13 rfl rfl (aI aD1 rfl) (bE hg13 rfl rfl (aG bB rfl (aK (.tail _ (.head _)) rfl)) (dB hg13 rfl rfl (bN (E := 3) (l := bT ([p.maxLate, p.legLate].map encI)) rfl (fun w => by kernel_rfl) rfl fun b88 => (dB hg13 rfl rfl (aJ mC rfl rfl rfl rfl (jS (xs := [p.maxLate, p.legLate]) (SlRd.of_list encI mZ (xs := [p.maxLate, p.legLate]) (.head _) rfl (by simp)) _ _ _) ?_)))))))
    refine bE hg13 rfl rfl (bF rfl) (tv (bW hg13 rfl rfl) ?_)
    iterate 7 refine Tr.weak2 rfl ?_
    exact Tr.drop (.cons _ (.refl _)) (hK _ (dJ hg13))
   ·intro hg13 K hK
    refine aH hg13 rfl rfl rfl rfl (aH hg13 rfl rfl rfl rfl (aH hg13 rfl rfl rfl rfl (aH hg13 rfl rfl rfl rfl (aH hg13 rfl rfl rfl rfl (aH hg13 rfl rfl rfl rfl ?_)))))
    refine aH hg13 rfl rfl rfl rfl (tv (bV hg13 rfl rfl) ?_)
    iterate 7 refine Tr.weak2 rfl ?_
    exact hK _ (dK hg13)
   refine tv (aC rfl) ?_
   apply aZ 5 (s := 92) (d := 97) rfl
   ·intro hg14 K hK
    refine bE hg14 rfl rfl (aI mJ rfl) (bE hg14 rfl rfl (aG dQ rfl (aK (.tail _ (.head _)) rfl)) (dB hg14 rfl rfl (aJ mC rfl rfl rfl rfl (jS (h.jumps.sub (.cons _ (.cons _ (.cons _ (.refl _))))) _ _ _) (bE hg14 rfl rfl (bF rfl) (tv (bW hg14 rfl rfl) ?_)))))
    iterate 4 refine Tr.weak2 rfl ?_
    exact hK _ (dJ hg14)
   ·intro hg14 K hK
    refine aH hg14 rfl rfl rfl rfl (aH hg14 rfl rfl rfl rfl (aH hg14 rfl rfl rfl rfl (aH hg14 rfl rfl rfl rfl (tv (bV hg14 rfl rfl) ?_))))
    iterate 4 refine Tr.weak2 rfl ?_
    exact hK _ (dK hg14)
   refine aF (Tr.keep (env' := [(1, _), (5, _), (97, _)]) ⟨rfl, rfl, rfl, trivial⟩ (aB ?_))
   refine bD rfl (fun hb5 => ?_) (fun hb5 => ?_)
   ·skip
    refine aE (aA (tv (aD rfl) (aF (Tr.keep (env' := [(2, _)]) ⟨rfl, trivial⟩ (aB ?_)))))
    refine aQ (aN (aW rfl rfl (fun w hw => ?_)))
    exact ⟨by rw [show eW p = false from by simp [eW, oK, hb5]]; rfl, Ok.sub hw (.cons _ (.cons _ (.cons _ (.refl _))))⟩
   ·skip
    refine aO (aB (aE (aE (aA (tv (aI pC rfl) ?_)))))
    refine tv (aG zT rfl (aK (.tail _ (.head _)) rfl)) (tv (dI rfl rfl) (tv (aC rfl) ?_))
    apply aZ 4 (s := 101) (d := 105) rfl
    ·intro hg16 K hK
     refine bE hg16 rfl rfl (aI pC rfl) (bE hg16 rfl rfl (aG zT rfl (aK (.tail _ (.head _)) rfl)) (bE hg16 rfl rfl (fC rfl rfl) (tv (bW hg16 rfl rfl) ?_)))
     iterate 3 refine Tr.weak2 rfl ?_
     exact hK _ (dJ hg16)
    ·intro hg16 K hK
     refine aH hg16 rfl rfl rfl rfl (aH hg16 rfl rfl rfl rfl (aH hg16 rfl rfl rfl rfl (tv (bV hg16 rfl rfl) ?_)))
     iterate 3 refine Tr.weak2 rfl ?_
     exact hK _ (dK hg16)
    refine tv (aC rfl) ?_
    apply aZ 5 (s := 106) (d := 111) rfl
    ·intro hg17 K hK
     refine bE hg17 rfl rfl (aI aD3 rfl) (bE hg17 rfl rfl (aG bB rfl (aK (.tail _ (.head _)) rfl)) (dB hg17 rfl rfl (aJ gX rfl rfl rfl rfl (cO _ _ _) (bE hg17 rfl rfl (bF rfl) (tv (bW hg17 rfl rfl) ?_)))))
     iterate 4 refine Tr.weak2 rfl ?_
     exact hK _ (dJ hg17)
    ·intro hg17 K hK
     refine aH hg17 rfl rfl rfl rfl (aH hg17 rfl rfl rfl rfl (aH hg17 rfl rfl rfl rfl (aH hg17 rfl rfl rfl rfl (tv (bV hg17 rfl rfl) ?_))))
     iterate 4 refine Tr.weak2 rfl ?_
     exact hK _ (dK hg17)
    refine tv (aC rfl) ?_
    apply aZ 5 (s := 112) (d := 117) rfl
    ·intro hg18 K hK
     refine bE hg18 rfl rfl (aI kQ rfl) (bE hg18 rfl rfl (aG dQ rfl (aK (.tail _ (.head _)) rfl)) (dB hg18 rfl rfl (aJ mC rfl rfl rfl rfl (jS (h.points.sub (.cons _ (.cons _ (.cons _ (.refl _))))) _ _ _) (bE hg18 rfl rfl (bF rfl) (tv (bW hg18 rfl rfl) ?_)))))
     iterate 4 refine Tr.weak2 rfl ?_
     exact hK _ (dJ hg18)
    ·intro hg18 K hK
     refine aH hg18 rfl rfl rfl rfl (aH hg18 rfl rfl rfl rfl (aH hg18 rfl rfl rfl rfl (aH hg18 rfl rfl rfl rfl (tv (bV hg18 rfl rfl) ?_))))
     iterate 4 refine Tr.weak2 rfl ?_
     exact hK _ (dK hg18)
    refine tv (aC rfl) ?_
    apply aZ 5 (s := 118) (d := 123) rfl
    ·intro hg19 K hK
     refine bE hg19 rfl rfl (aI kR rfl) (bE hg19 rfl rfl (aG dQ rfl (aK (.tail _ (.head _)) rfl)) (dB hg19 rfl rfl (aJ mC rfl rfl rfl rfl (jS (h.extra.sub (.cons _ (.cons _ (.cons _ (.refl _))))) _ _ _) (bE hg19 rfl rfl (bF rfl) (tv (bW hg19 rfl rfl) ?_)))))
     iterate 4 refine Tr.weak2 rfl ?_
     exact hK _ (dJ hg19)
    ·intro hg19 K hK
     refine aH hg19 rfl rfl rfl rfl (aH hg19 rfl rfl rfl rfl (aH hg19 rfl rfl rfl rfl (aH hg19 rfl rfl rfl rfl (tv (bV hg19 rfl rfl) ?_))))
     iterate 4 refine Tr.weak2 rfl ?_
     exact hK _ (dK hg19)
    refine aF (Tr.keep (env' := [(1, _), (5, _), (123, _)]) ⟨rfl, rfl, rfl, trivial⟩ (aB ?_))
    refine bD rfl (fun hb6 => ?_) (fun hb6 => ?_)
    ·skip
     refine aE (aA (tv (aD rfl) (aF (Tr.keep (env' := [(2, _)]) ⟨rfl, trivial⟩ (aB ?_)))))
     refine aQ (aN (aW rfl rfl (fun w hw => ?_)))
     exact ⟨by rw [show eW p = false from by simp [eW, oL, hb6]]; rfl, Ok.sub hw (.cons _ (.cons _ (.cons _ (.refl _))))⟩
    ·skip
     refine aO (aB (aE (aE (aA (tv (aI lI rfl) ?_)))))
     refine tv (aG bB rfl (aK (.tail _ (.head _)) rfl)) (tv (aI cQ rfl) (tv (aG eJ rfl (aK (.tail _ (.tail _ (.head _))) rfl)) (tv (aP Tryz.underlying28 rfl) (tv (cP rfl rfl (by omega)) (te (aJ gX rfl rfl rfl rfl (cO _ _ _) ?_))))))
     refine tv (bF rfl) (tv (aC rfl) ?_)
     apply aZ 14 (s := 132) (d := 146) rfl
     ·intro hg21 K hK
      refine bE hg21 rfl rfl (aI lI rfl) (bE hg21 rfl rfl (aG bB rfl (aK (.tail _ (.head _)) rfl)) (bE hg21 rfl rfl (fI rfl rfl) (bE hg21 rfl rfl (aC rfl) ?_)))
      apply bH 9 (s := 136) (d := 145) rfl
      ·intro hg22 K hK
       refine bE hg22 rfl rfl (aI cQ rfl) (bE hg22 rfl rfl (aG eJ rfl (aK (.tail _ (.tail _ (.head _))) rfl)) (bE hg22 rfl rfl (aI lI rfl) (bE hg22 rfl rfl (aG bB rfl (aK (.tail _ (.head _)) rfl)) (bE hg22 rfl rfl (cL (p.power.toNat) Tryz.underlying28 eT (hA (oJ ‹(!eK p.power (-1) ((p.items.length : Int) - 1)) = false› ‹decide (0 ≤ p.power) = true›).2.2) rfl rfl (oJ ‹(!eK p.power (-1) ((p.items.length : Int) - 1)) = false› ‹decide (0 ≤ p.power) = true›).2.1 (oJ ‹(!eK p.power (-1) ((p.items.length : Int) - 1)) = false› ‹decide (0 ≤ p.power) = true›).1) (bE hg22 rfl rfl (aI gC rfl) ?_)))))
       refine bE hg22 rfl rfl (aG jR rfl (Rd.sub (hri (p.power.toNat) (cF p.items (p.power.toNat)).cells (by rw [List.getElem?_map, itemA_at ((oJ ‹(!eK p.power (-1) ((p.items.length : Int) - 1)) = false› ‹decide (0 ≤ p.power) = true›).1)]; rfl) 0 _ rfl) (.cons _ (.cons _ (.cons _ (.refl _)))))) ?_
       refine bE hg22 rfl rfl (eF rfl rfl) (bE hg21 rfl rfl (bV hg22 rfl rfl) ?_)
       iterate 8 refine Tr.weak2 rfl ?_
       exact hK _ (dT hg22)
      ·intro hg22 K hK
       refine aH hg22 rfl rfl rfl rfl (aH hg22 rfl rfl rfl rfl (aH hg22 rfl rfl rfl rfl (aH hg22 rfl rfl rfl rfl (aH hg22 rfl rfl rfl rfl (aH hg22 rfl rfl rfl rfl ?_)))))
       refine aH hg22 rfl rfl rfl rfl (aH hg22 rfl rfl rfl rfl (bE hg21 rfl rfl (bW hg22 rfl rfl) ?_))
       iterate 8 refine Tr.weak2 rfl ?_
       exact hK _ (dU hg22)
      refine tv (bW hg21 rfl rfl) ?_
      iterate 5 refine Tr.weak2 rfl ?_
      exact hK _ (dJ hg21)
     ·intro hg21 K hK
      refine aH hg21 rfl rfl rfl rfl (aH hg21 rfl rfl rfl rfl (aH hg21 rfl rfl rfl rfl (aH hg21 rfl rfl rfl rfl (bZ rfl rfl rfl (bZ rfl rfl rfl ?_)))))
      refine bZ rfl rfl rfl (bZ rfl rfl rfl (bZ rfl rfl rfl (bZ rfl rfl rfl (bZ rfl rfl rfl (bZ rfl rfl rfl ?_)))))
      refine aH hg21 rfl rfl rfl rfl (tv (bV hg21 rfl rfl) ?_)
      iterate 13 refine Tr.weak2 rfl ?_
      exact hK _ (dK hg21)
     refine aF (Tr.keep (env' := [(146, _)]) ⟨rfl, trivial⟩ (aB ?_))
     refine bD rfl (fun hb7 => ?_) (fun hb7 => ?_)
     ·skip
      refine aE (aA (tv (aD rfl) (aF (Tr.keep (env' := [(2, _)]) ⟨rfl, trivial⟩ (aB ?_)))))
      refine aQ (aN (aW rfl rfl (fun w hw => ?_)))
      exact ⟨by rw [show eW p = false from by simp [eW, qC, hb7]]; rfl, Ok.sub hw (.cons _ (.cons _ (.cons _ (.refl _))))⟩
     ·skip
      refine aO (aB (aE (aA (tv (aD rfl) (aF ?_)))))
      refine Tr.keep (env' := [(2, _)]) ⟨rfl, trivial⟩ (aB (aQ (aW rfl rfl (fun w hw => ?_))))
      exact ⟨by rw [show eW p = true from by simp [eW, hP1, wB (fun j hj => hp j (by omega)), oK, hb5, oL, hb6, qC, hb7]]; rfl, Ok.sub hw (.cons _ (.cons _ (.cons _ (.refl _))))⟩
end
end Go.Proofs.W
set_option linter.unusedVariables false
set_option linter.unusedSimpArgs false
set_option linter.unusedSectionVars false
set_option maxRecDepth 100000
namespace Go.Proofs.W
open Go Go.Sl Go.RowKit Go.Proofs
attribute [local irreducible] Go.Sl.Eff
structure ArtV where
 number : Int
 frm : Int
 least : Int
 most : Int
def ArtV.cells (x : ArtV) : List Value := [.int .i64 x.number, .int .i64 x.frm, .int .i64 x.least, .int .i64 x.most]
structure CodeV where
 cars : Int
 arts : List ArtV
 window : Int
 second : Int
 fee : Int
 price : Int
abbrev CodeV.cells (p : CodeV) (A : Option Addr) (c : Nat) : List Value := [.int .i64 p.cars, .slice A p.arts.length c, .int .i64 p.window, .int .i64 p.second, .int .i64 p.fee, .int .i64 p.price]
def dZ (l : List ArtV) (k : Nat) : ArtV := l.getD k ⟨0, 0, 0, 0⟩
theorem pB {l : List ArtV} {k : Nat} (h : k < l.length) : l[k]? = some (dZ l k) := by simp [dZ, List.getD, h]
def oM (x : ArtV) : Bool := ((!eK x.number 1 10000 || !eK x.frm 0 10000000) || !eK x.least 0 x.most) || decide (36000000 < x.most)
def sZ (l : List ArtV) (k : Nat) : Bool := decide (0 ≤ orI [iO (dZ l (k - 1)).number (dZ l k).number, iO (dZ l (k - 1)).frm (dZ l k).frm])
def rH (l : List ArtV) (k : Nat) : Bool := !oM (dZ l k) && !(decide (0 < (k : Int)) && sZ l k)
def kJ (p : CodeV) : Bool := !(((((!eK p.cars 1 200 || !eK (p.arts.length : Int) 1 500) || !eK p.window 0 10000) || !eK p.second 0 10000) || !eK p.fee 0 1000000000) || !eK p.price 0 1000000000)
def rI (p : CodeV) : Bool := (List.range p.arts.length).all (rH p.arts)
def eP (p : CodeV) : Bool := kJ p && rI p
theorem nH {p : CodeV} {k : Nat} (h : k < p.arts.length) (hk : rH p.arts k = false) : eP p = false := by
 have : rI p = false := by
  unfold rI
  rw [List.all_eq_false]
  exact ⟨k, List.mem_range.2 h, by simp [hk]⟩
 simp [eP, this]
theorem uC {p : CodeV} (h : ∀ j, j < p.arts.length → rH p.arts j = true) : rI p = true := by
 unfold rI
 rw [List.all_eq_true]
 intro j hj
 exact h j (List.mem_range.1 hj)
section
variable {w0 : World} {M : List Ent}
theorem oN {p : CodeV} {A : Option Addr} {c : Nat} (h : SlRd w0 M 4 A p.arts.length (p.arts.map ArtV.cells)) : ∀ w, Ok w0 M w → Calls Tryz.prog 53 #[.agg (p.cells A c).toArray] w (fun e w' => e = .returned (.int .i64 (if eP p then 0 else 2)) ∧ Ok w0 M w') := by
 have hbI := h.big
 obtain ⟨bi, oi, hA, hri⟩ : ∃ b o, (0 < p.arts.length → A = some ⟨b, o, none⟩) ∧ ∀ j x, (p.arts.map ArtV.cells)[j]? = some x → ∀ k v, x[k]? = some v → Rd w0 M ⟨b, o + j * 4 + k, none⟩ v := by
  rcases Nat.eq_zero_or_pos p.arts.length with h0 | h0
  ·exact ⟨0, 0, fun h1 => by omega, fun j x hx => by rw [List.eq_nil_of_length_eq_zero h0] at hx; simp at hx⟩
  ·obtain ⟨b, o, h1, h2⟩ := h.at' h0
   exact ⟨b, o, fun _ => h1, h2⟩
 refine enter (vs := [_]) Tryz.func53 rfl Tryz.ntmps53 rfl (aE (aA (te (cH rfl rfl fun b1 => (tv (aD rfl) (aF ?_))))))
 refine Tr.keep (env' := [(1, _)]) ⟨rfl, trivial⟩ (aB (aE (aE (aA (tv (aI pD rfl) ?_)))))
 refine tv (aG bB rfl (aK (.head _) rfl)) (te (aJ iB rfl rfl rfl rfl (cN _ _ _) (tv (bF rfl) (tv (aC rfl) ?_))))
 apply aZ 6 (s := 10) (d := 16) rfl
 ·intro hg1 K hK
  refine bE hg1 rfl rfl (aI fJ rfl) (bE hg1 rfl rfl (aG lC rfl (aK (.head _) rfl)) (bE hg1 rfl rfl (aP Tryz.underlying34 rfl) (dB hg1 rfl rfl (aJ iB rfl rfl rfl rfl (cN _ _ _) (bE hg1 rfl rfl (bF rfl) (tv (bW hg1 rfl rfl) ?_))))))
  iterate 5 refine Tr.weak2 rfl ?_
  exact hK _ (dJ hg1)
 ·intro hg1 K hK
  refine aH hg1 rfl rfl rfl rfl (aH hg1 rfl rfl rfl rfl (aH hg1 rfl rfl rfl rfl (aH hg1 rfl rfl rfl rfl (aH hg1 rfl rfl rfl rfl (tv (bV hg1 rfl rfl) ?_)))))
  iterate 5 refine Tr.weak2 rfl ?_
  exact hK _ (dK hg1)
 refine tv (aC rfl) ?_
 apply aZ 5 (s := 17) (d := 22) rfl
 ·intro hg2 K hK
  refine bE hg2 rfl rfl (aI aD5 rfl) (bE hg2 rfl rfl (aG bB rfl (aK (.head _) rfl)) (dB hg2 rfl rfl (aJ iB rfl rfl rfl rfl (cN _ _ _) (bE hg2 rfl rfl (bF rfl) (tv (bW hg2 rfl rfl) ?_)))))
  iterate 4 refine Tr.weak2 rfl ?_
  exact hK _ (dJ hg2)
 ·intro hg2 K hK
  refine aH hg2 rfl rfl rfl rfl (aH hg2 rfl rfl rfl rfl (aH hg2 rfl rfl rfl rfl (aH hg2 rfl rfl rfl rfl (tv (bV hg2 rfl rfl) ?_))))
  iterate 4 refine Tr.weak2 rfl ?_
  exact hK _ (dK hg2)
 refine tv (aC rfl) ?_
 apply aZ 5 (s := 23) (d := 28) rfl
 ·intro hg3 K hK
  refine bE hg3 rfl rfl (aI aD6 rfl) (bE hg3 rfl rfl (aG bB rfl (aK (.head _) rfl)) (dB hg3 rfl rfl (aJ iB rfl rfl rfl rfl (cN _ _ _) (bE hg3 rfl rfl (bF rfl) (tv (bW hg3 rfl rfl) ?_)))))
  iterate 4 refine Tr.weak2 rfl ?_
  exact hK _ (dJ hg3)
 ·intro hg3 K hK
  refine aH hg3 rfl rfl rfl rfl (aH hg3 rfl rfl rfl rfl (aH hg3 rfl rfl rfl rfl (aH hg3 rfl rfl rfl rfl (tv (bV hg3 rfl rfl) ?_))))
  iterate 4 refine Tr.weak2 rfl ?_
  exact hK _ (dK hg3)
 refine tv (aC rfl) ?_
 apply aZ 5 (s := 29) (d := 34) rfl
 ·intro hg4 K hK
  refine bE hg4 rfl rfl (aI aD7 rfl) (bE hg4 rfl rfl (aG bB rfl (aK (.head _) rfl)) (dB hg4 rfl rfl (aJ iB rfl rfl rfl rfl (cN _ _ _) (bE hg4 rfl rfl (bF rfl) (tv (bW hg4 rfl rfl) ?_)))))
  iterate 4 refine Tr.weak2 rfl ?_
  exact hK _ (dJ hg4)
 ·intro hg4 K hK
  refine aH hg4 rfl rfl rfl rfl (aH hg4 rfl rfl rfl rfl (aH hg4 rfl rfl rfl rfl (aH hg4 rfl rfl rfl rfl (tv (bV hg4 rfl rfl) ?_))))
  iterate 4 refine Tr.weak2 rfl ?_
  exact hK _ (dK hg4)
 refine tv (aC rfl) ?_
 apply aZ 5 (s := 35) (d := 40) rfl
 ·intro hg5 K hK
  refine bE hg5 rfl rfl (aI aD8 rfl) (bE hg5 rfl rfl (aG bB rfl (aK (.head _) rfl)) (dB hg5 rfl rfl (aJ iB rfl rfl rfl rfl (cN _ _ _) (bE hg5 rfl rfl (bF rfl) (tv (bW hg5 rfl rfl) ?_)))))
  iterate 4 refine Tr.weak2 rfl ?_
  exact hK _ (dJ hg5)
 ·intro hg5 K hK
  refine aH hg5 rfl rfl rfl rfl (aH hg5 rfl rfl rfl rfl (aH hg5 rfl rfl rfl rfl (aH hg5 rfl rfl rfl rfl (tv (bV hg5 rfl rfl) ?_))))
  iterate 4 refine Tr.weak2 rfl ?_
  exact hK _ (dK hg5)
 refine aF (Tr.keep (env' := [(1, _), (40, _)]) ⟨rfl, rfl, trivial⟩ (aB ?_))
 refine bD rfl (fun hb1 => ?_) (fun hb1 => ?_)
 ·have hP1 : kJ p = false := by rw [kJ, hb1]; rfl
  refine aE (aA (tv (aD rfl) (aF (Tr.keep (env' := [(2, _)]) ⟨rfl, trivial⟩ (aB ?_)))))
  refine aQ (aN (aW rfl rfl (fun w hw => ?_)))
  exact ⟨by rw [show eP p = false from by simp [eP, hP1]]; rfl, Ok.sub hw (.cons _ (.refl _))⟩
 ·have hP1 : kJ p = true := by rw [kJ, hb1]; rfl
  refine aO (aB (aE (aE (aA (tv (aI fJ rfl) ?_)))))
  refine tv (aG lC rfl (aK (.head _) rfl)) (tv (aP Tryz.underlying34 rfl) (tv (aC rfl) (aF (Tr.keep (env' := [(1, _), (42, _), (43, _), (44, _)]) ⟨rfl, rfl, rfl, rfl, trivial⟩ (aB ?_)))))
  refine aX (dW (fun k : Nat => [(1, .pointer (some ⟨b1, 0, none⟩)), (42, .slice A p.arts.length c), (43, .int .i64 (p.arts.length : Int)), (44, .int .i64 (k : Int))]) (fun k : Nat => cel b1 36 (p.cells A c) :: M) (fun k : Nat => k ≤ p.arts.length ∧ ∀ j, j < k → rH p.arts j = true) (fun k : Nat => p.arts.length - k) 0 ⟨by omega, by omega⟩ ⟨rfl, rfl, rfl, rfl, trivial⟩ (.refl _) ?_)
  intro K k ⟨hk, hp⟩ IH
  refine aE (aA (tv (dI rfl rfl) (aF (Tr.keep (env' := [(1, _), (42, _), (43, _), (44, _), (45, _)]) ⟨rfl, rfl, rfl, rfl, rfl, trivial⟩ (aB ?_)))))
  refine aE ?_
  refine bD rfl (fun hc1 => ?_) (fun hc1 => ?_)
  ·have hlt : k < p.arts.length := by have := of_decide_eq_true hc1; omega
   have hA := hA (by omega)
   refine aO (aB (aE (aX (aE (aA ?_)))))
   refine tv (aC rfl) (tv (cL (k) Tryz.underlying34 lZ hA rfl rfl rfl hlt) ?_)
   refine tv (cM (v2 := .agg #[.int .i64 (dZ p.arts (k)).number, .int .i64 (dZ p.arts (k)).frm, .int .i64 (dZ p.arts (k)).least, .int .i64 (dZ p.arts (k)).most]) (aY aD4 rfl (fun j v hv => Rd.sub (hri (k) (dZ p.arts (k)).cells (by rw [List.getElem?_map, pB (hlt)]; rfl) j v hv) (.cons _ (.refl _))) rfl) rfl) ?_
   refine te (bO sJ (l := [.int .i64 0, .int .i64 0, .int .i64 0, .int .i64 0]) rfl rfl fun b4 => (tv (aD rfl) (te (bJ lZ rfl rfl (vs := [_, _, _, _]) rfl rfl (by simp [Value.oneCell']) (.cons .zero (.cons (.succ .zero) (.cons (.succ (.succ .zero)) (.cons (.succ (.succ (.succ .zero))) .nil)))) .here (aF (Tr.keep (env' := [(1, _), (3, _), (4, _), (42, _), (43, _), (44, _)]) ⟨rfl, rfl, rfl, rfl, rfl, rfl, trivial⟩ (aB ?_)))))))
   refine aE (aE (aA (tv (aI jO rfl) (tv (aG bB rfl (aK (.head _) rfl)) (te (aJ iB rfl rfl rfl rfl (cN _ _ _) ?_))))))
   refine tv (bF rfl) (tv (aC rfl) ?_)
   apply aZ 5 (s := 53) (d := 58) rfl
   ·intro hg8 K hK
    refine bE hg8 rfl rfl (aI lY rfl) (bE hg8 rfl rfl (aG bB rfl (aK (.head _) rfl)) (dB hg8 rfl rfl (aJ iB rfl rfl rfl rfl (cN _ _ _) (bE hg8 rfl rfl (bF rfl) (tv (bW hg8 rfl rfl) ?_)))))
    iterate 4 refine Tr.weak2 rfl ?_
    exact hK _ (dJ hg8)
   ·intro hg8 K hK
    refine aH hg8 rfl rfl rfl rfl (aH hg8 rfl rfl rfl rfl (aH hg8 rfl rfl rfl rfl (aH hg8 rfl rfl rfl rfl (tv (bV hg8 rfl rfl) ?_))))
    iterate 4 refine Tr.weak2 rfl ?_
    exact hK _ (dK hg8)
   refine tv (aC rfl) ?_
   apply aZ 7 (s := 59) (d := 66) rfl
   ·intro hg9 K hK
    refine bE hg9 rfl rfl (aI wF rfl) (bE hg9 rfl rfl (aG bB rfl (aK (.head _) rfl)) (bE hg9 rfl rfl (aI mX rfl) (bE hg9 rfl rfl (aG bB rfl (aK (.head _) rfl)) (dB hg9 rfl rfl (aJ iB rfl rfl rfl rfl (cN _ _ _) (bE hg9 rfl rfl (bF rfl) ?_))))))
    refine tv (bW hg9 rfl rfl) ?_
    iterate 6 refine Tr.weak2 rfl ?_
    exact hK _ (dJ hg9)
   ·intro hg9 K hK
    refine aH hg9 rfl rfl rfl rfl (aH hg9 rfl rfl rfl rfl (aH hg9 rfl rfl rfl rfl (aH hg9 rfl rfl rfl rfl (aH hg9 rfl rfl rfl rfl (aH hg9 rfl rfl rfl rfl ?_)))))
    refine tv (bV hg9 rfl rfl) ?_
    iterate 6 refine Tr.weak2 rfl ?_
    exact hK _ (dK hg9)
   refine tv (aC rfl) ?_
   apply aZ 4 (s := 67) (d := 71) rfl
   ·intro hg10 K hK
    refine bE hg10 rfl rfl (aI mX rfl) (bE hg10 rfl rfl (aG bB rfl (aK (.head _) rfl)) (bE hg10 rfl rfl (fC rfl rfl) (tv (bW hg10 rfl rfl) ?_)))
    iterate 3 refine Tr.weak2 rfl ?_
    exact hK _ (dJ hg10)
   ·intro hg10 K hK
    refine aH hg10 rfl rfl rfl rfl (aH hg10 rfl rfl rfl rfl (aH hg10 rfl rfl rfl rfl (tv (bV hg10 rfl rfl) ?_)))
    iterate 3 refine Tr.weak2 rfl ?_
    exact hK _ (dK hg10)
   refine aF (Tr.keep (env' := [(1, _), (3, _), (4, _), (42, _), (43, _), (44, _), (71, _)]) ⟨rfl, rfl, rfl, rfl, rfl, rfl, rfl, trivial⟩ (aB ?_))
   refine bD rfl (fun hb2 => ?_) (fun hb2 => ?_)
   ·skip
    refine aE (aA (tv (aD rfl) (aF (Tr.keep (env' := [(2, _)]) ⟨rfl, trivial⟩ (aB ?_)))))
    refine aQ (aN (bM (aN (aN (bM ?_)))))
    refine aN (aW rfl rfl (fun w hw => ?_))
    exact ⟨by rw [show eP p = false from nH hlt (by rw [rH, show oM (dZ p.arts k) = true from hb2]; rfl)]; rfl, Ok.sub hw (.cons _ (.cons _ (.refl _)))⟩
   ·skip
    refine aO (aB (aE (aA (tv (aC rfl) (tv (fC rfl rfl) ?_)))))
    refine aF (Tr.keep (env' := [(1, _), (3, _), (4, _), (42, _), (43, _), (44, _), (73, _)]) ⟨rfl, rfl, rfl, rfl, rfl, rfl, rfl, trivial⟩ (aB ?_))
    refine bD rfl (fun hb3 => ?_) (fun hb3 => ?_)
    ·skip
     refine aE (aA (tv (aI fJ rfl) (tv (aG lC rfl (aK (.tail _ (.head _)) rfl)) (tv (aC rfl) (tv (cP rfl rfl (by omega)) ?_)))))
     refine tv (cL (k - 1) Tryz.underlying34 lZ hA rfl rfl (by have := of_decide_eq_true hb3; omega) (by omega)) ?_
     refine tv (cM (v2 := .agg #[.int .i64 (dZ p.arts (k - 1)).number, .int .i64 (dZ p.arts (k - 1)).frm, .int .i64 (dZ p.arts (k - 1)).least, .int .i64 (dZ p.arts (k - 1)).most]) (aY aD4 rfl (fun j v hv => Rd.sub (hri (k - 1) (dZ p.arts (k - 1)).cells (by rw [List.getElem?_map, pB (by omega)]; rfl) j v hv) (.cons _ (.cons _ (.refl _)))) rfl) rfl) ?_
     refine te (bO sJ (l := [.int .i64 0, .int .i64 0, .int .i64 0, .int .i64 0]) rfl rfl fun b5 => (te (bJ lZ rfl rfl (vs := [_, _, _, _]) rfl rfl (by simp [Value.oneCell']) (.cons .zero (.cons (.succ .zero) (.cons (.succ (.succ .zero)) (.cons (.succ (.succ (.succ .zero))) .nil)))) .here (aF (Tr.keep (env' := [(1, _), (4, _), (5, _), (42, _), (43, _), (44, _)]) ⟨rfl, rfl, rfl, rfl, rfl, rfl, trivial⟩ (aB (aE ?_)))))))
     refine cI cK rfl (dv 0 rfl (.refl _) (aI jO rfl) (dv 1 rfl (.refl _) (aG bB rfl (aK (.head _) rfl)) (dv 2 rfl (.refl _) (aI jO rfl) (dv 3 rfl (.refl _) (aG bB rfl (aK (.tail _ (.head _)) rfl)) (dv 5 rfl (.refl _) (aI lY rfl) ?_)))))
     refine dv 6 rfl (.refl _) (aG bB rfl (aK (.head _) rfl)) (dv 7 rfl (.refl _) (aI lY rfl) (dv 8 rfl (.refl _) (aG bB rfl (aK (.tail _ (.head _)) rfl)) (de 4 rfl (aJ qD rfl rfl rfl rfl (gE _ _) (aU (.refl _) (de 9 rfl (aJ qD rfl rfl rfl rfl (gE _ _) ?_)))))))
     refine aU (.refl _) (de 10 rfl (bN (E := 3) (l := bT ([iO (dZ p.arts (k - 1)).number (dZ p.arts k).number, iO (dZ p.arts (k - 1)).frm (dZ p.arts k).frm].map encI)) rfl (fun w => by kernel_rfl) rfl fun b90 => (aU (.cons _ (.refl _)) (de 11 rfl (aJ bC8 rfl rfl rfl rfl (aK1 (xs := [iO (dZ p.arts (k - 1)).number (dZ p.arts k).number, iO (dZ p.arts (k - 1)).frm (dZ p.arts k).frm]) (SlRd.of_list encI mZ (.head _) rfl (by simp))) (aU (.cons _ (.refl _)) (dv 12 rfl (.cons _ (.refl _)) (fI rfl rfl) ?_)))))))
     refine bQ (by kernel_rfl) (Tr.keep (env' := [(1, _), (42, _), (43, _), (44, _), (92, _)]) ⟨rfl, rfl, rfl, rfl, rfl, trivial⟩ (aB ?_))
     refine bD rfl (fun hb4 => ?_) (fun hb4 => ?_)
     ·skip
      refine aE (aA (tv (aD rfl) (aF (Tr.keep (env' := [(2, _)]) ⟨rfl, trivial⟩ (aB ?_)))))
      refine aQ (bM (aN (aN (bM (aN ?_)))))
      refine aW rfl rfl (fun w hw => ?_)
      exact ⟨by rw [show eP p = false from nH hlt (by rw [rH, hb3, show sZ p.arts k = true from hb4]; simp)]; rfl, Ok.sub hw (.cons _ (.cons _ (.cons _ (.cons _ (.refl _)))))⟩
     ·skip
      refine aO (cX (aB (aA (tv (cC rfl rfl (by omega)) (tv (aC rfl) ?_)))))
      refine aF (Tr.keep (env' := [(1, _), (42, _), (43, _), (44, _)]) ⟨rfl, rfl, rfl, rfl, trivial⟩ (aB (nD (IH (k + 1) ⟨by omega, fun j hj => ?_⟩ (by omega)) ⟨rfl, rfl, rfl, rfl, trivial⟩ (.cons _ (.cons _ (.cons _ (.refl _)))))))
      rcases Nat.lt_or_ge j k with h8 | h8
      ·exact hp j h8
      ·obtain rfl : j = k := by omega
       first | (rw [rH, show oM (dZ p.arts j) = false from hb2, hb3, show sZ p.arts j = false from hb4]; rfl) | (rw [rH, show oM (dZ p.arts j) = false from hb2, hb3]; rfl)
    ·skip
     refine aO (cX (aB (aA (tv (cC rfl rfl (by omega)) (tv (aC rfl) ?_)))))
     refine aF (Tr.keep (env' := [(1, _), (42, _), (43, _), (44, _)]) ⟨rfl, rfl, rfl, rfl, trivial⟩ (aB (nD (IH (k + 1) ⟨by omega, fun j hj => ?_⟩ (by omega)) ⟨rfl, rfl, rfl, rfl, trivial⟩ (.cons _ (.refl _)))))
     rcases Nat.lt_or_ge j k with h8 | h8
     ·exact hp j h8
     ·obtain rfl : j = k := by omega
      first | (rw [rH, show oM (dZ p.arts j) = false from hb2, hb3, show sZ p.arts j = false from hb4]; rfl) | (rw [rH, show oM (dZ p.arts j) = false from hb2, hb3]; rfl)
  ·have h9 : ¬ k < p.arts.length := by have := of_decide_eq_false hc1; omega
   refine cY (aS (aS (bX (aB (aE ?_)))))
   refine aA (tv (aD rfl) (aF (Tr.keep (env' := [(2, _)]) ⟨rfl, trivial⟩ (aB (aQ ?_)))))
   refine aW rfl rfl (fun w hw => ?_)
   exact ⟨by rw [show eP p = true from by simp [eP, hP1, uC (fun j hj => hp j (by omega))]]; rfl, Ok.sub hw (.cons _ (.refl _))⟩
end
end Go.Proofs.W
set_option linter.unusedVariables false
set_option linter.unusedSimpArgs false
set_option linter.unusedSectionVars false
set_option maxRecDepth 100000
namespace Go.Proofs.W
open Go Go.Sl Go.RowKit Go.Proofs
attribute [local irreducible] Go.Sl.Eff
structure SetupV where
 g : GPlan
 cars : Int
 places : Int
 least : List Int
 srcs : List Src
 plan : PlanV
 code : CodeV
structure SetupAt where
 L : Option Addr
 S : Option Addr
 A : Option Addr
 cl : Nat
 cs : Nat
 ca : Nat
 p : PlanAt
abbrev SetupV.cells (s : SetupV) (a : SetupAt) : List Value := [.int .i64 s.g.posts, .int .i64 s.g.silence, .int .i64 s.g.clear, .int .i64 s.g.interval, .int .i64 s.g.missing, .int .i64 s.g.cars, .int .i64 s.cars, .int .i64 s.places, .slice a.L s.least.length a.cl, .slice a.S s.srcs.length a.cs,
 .slice a.p.I s.plan.items.length a.p.ci, .int .i64 s.plan.classes, .int .i64 s.plan.late, .int .i64 s.plan.early, .int .i64 s.plan.maxLate, .int .i64 s.plan.legLate, .slice a.p.J s.plan.jumps.length a.p.cj, .bool s.plan.b5, .int .i64 s.plan.missed, .int .i64 s.plan.notional, .int .i64 s.plan.percent, .int .i64 s.plan.power, .slice a.p.X s.plan.points.length a.p.cx, .slice a.p.Y s.plan.extra.length a.p.cy,
 .int .i64 s.code.cars, .slice a.A s.code.arts.length a.ca, .int .i64 s.code.window, .int .i64 s.code.second, .int .i64 s.code.fee, .int .i64 s.code.price]
abbrev NoA (A : Option Addr) (n c : Nat) : Prop := A = none → n = 0 ∧ c = 0
structure SetupV.In (w0 : World) (M : List Ent) (s : SetupV) (a : SetupAt) : Prop where
 least : SlRd w0 M 1 a.L s.least.length (s.least.map encI)
 srcs : SlRd w0 M 2 a.S s.srcs.length (s.srcs.map Src.cells)
 plan : s.plan.In w0 M a.p
 arts : SlRd w0 M 4 a.A s.code.arts.length (s.code.arts.map ArtV.cells)
 nL : NoA a.L s.least.length a.cl
 nS : NoA a.S s.srcs.length a.cs
 nA : NoA a.A s.code.arts.length a.ca
 nI : NoA a.p.I s.plan.items.length a.p.ci
 nJ : NoA a.p.J s.plan.jumps.length a.p.cj
 nX : NoA a.p.X s.plan.points.length a.p.cx
 nY : NoA a.p.Y s.plan.extra.length a.p.cy
theorem SetupV.In.sub {w0 : World} {M M' : List Ent} {s : SetupV} {a : SetupAt} (h : s.In w0 M a) (hs : M.Sublist M') : s.In w0 M' a :=
 ⟨h.least.sub hs, h.srcs.sub hs, h.plan.sub hs, h.arts.sub hs, h.nL, h.nS, h.nA, h.nI, h.nJ, h.nX, h.nY⟩
def mI (s : SetupV) : Bool := eW s.plan && eP s.code
def lH (s : SetupV) : Bool := !((((s.g.cars != s.cars) || (s.code.cars != s.cars)) || (s.g.posts != s.places)) || !(s.plan.items.any fun x => x.kind == 2))
def fA (s : SetupV) : Bool := s.g.ok && (fR s.cars s.places s.least s.srcs && (mI s && lH s))
theorem tA {c p : Int} {l : List Int} {r : List Src} (h : fR c p l r = true) : l.length ≤ 1000000 ∧ r.length ≤ 1000000 := by
 simp [fR, eK] at h; omega
theorem aJ8 (l : List SItem) : (l.map SItem.cells).any (fun y => (vF y).kind == 2) = l.any fun x => x.kind == 2 := by simp [List.any_map, Function.comp_def]
theorem if02 (b : Bool) : ((if b = true then (0 : Int) else 2) != 0) = !b := by cases b <;> rfl
section
variable {w0 : World} {M : List Ent}
theorem aB9 {s : SetupV} {a : SetupAt} (h : s.In w0 M a) (hg : s.g.ok = false) : ∀ w, Ok w0 M w → Calls Tryz.prog 15 #[.agg (s.cells a).toArray] w (fun e w' => e = .returned (.int .i64 (if fA s then 0 else 2)) ∧ Ok w0 M w') := by
 refine enter (vs := [_]) Tryz.func15 rfl Tryz.ntmps15 rfl (aE (aA (te (cH rfl rfl fun b1 => (tv (aD rfl) (aF ?_))))))
 refine Tr.keep (env' := [(1, _)]) ⟨rfl, trivial⟩ (aB (aE (aE (aA (tv (aI iD rfl) ?_)))))
 refine tv (aY pQ rfl (bL (n := 6) (vs := [_, _, _, _, _, _]) (.head _) rfl) rfl) (te (aJ zU rfl rfl rfl rfl (aG1 (p := s.g) hg) (tv (aC rfl) (tv (bA rfl rfl) (tv (bA rfl rfl) (tv (aD rfl) ?_))))))
 refine tv (aD rfl) (aF (Tr.keep (env' := [(1, _), (4, _)]) ⟨rfl, rfl, trivial⟩ (aB (aE (aA ?_)))))
 refine tv (aC rfl) (tv (eF rfl rfl) (aF (Tr.keep (env' := [(1, _), (15, _)]) ⟨rfl, rfl, trivial⟩ (aB (bI rfl ?_)))))
 refine aE (aA (tv (aD rfl) (aF (Tr.keep (env' := [(2, _)]) ⟨rfl, trivial⟩ (aB ?_)))))
 refine aQ (aN (aW rfl rfl (fun w hw => ?_)))
 exact ⟨by rw [show fA s = false from by simp [fA, hg]]; rfl, Ok.sub hw (.cons _ (.refl _))⟩
theorem aC0 {s : SetupV} {a : SetupAt} (h : s.In w0 M a) (hg : s.g.ok = true) (hf : fR s.cars s.places s.least s.srcs = false) : ∀ w, Ok w0 M w → Calls Tryz.prog 15 #[.agg (s.cells a).toArray] w (fun e w' => e = .returned (.int .i64 (if fA s then 0 else 2)) ∧ Ok w0 M w') := by
 refine enter (vs := [_]) Tryz.func15 rfl Tryz.ntmps15 rfl (aE (aA (te (cH rfl rfl fun b1 => (tv (aD rfl) (aF ?_))))))
 refine Tr.keep (env' := [(1, _)]) ⟨rfl, trivial⟩ (aB (aE (aE (aA (tv (aI iD rfl) ?_)))))
 refine tv (aY pQ rfl (bL (n := 6) (vs := [_, _, _, _, _, _]) (.head _) rfl) rfl) (te (bP zU rfl rfl rfl rfl (iX (p := s.g) hg) fun gl _ => (tv (aC rfl) (tv (bA rfl rfl) (tv (bA rfl rfl) (tv (aD rfl) ?_))))))
 refine tv (aD rfl) (aF (Tr.keep (env' := [(1, _), (4, _)]) ⟨rfl, rfl, trivial⟩ (aB (aE (aA ?_)))))
 refine tv (aC rfl) (tv (eF rfl rfl) (aF (Tr.keep (env' := [(1, _), (15, _)]) ⟨rfl, rfl, trivial⟩ (aB (aR rfl ?_)))))
 refine aO (aB (aE (aE (aA (tv (aI eG rfl) ?_)))))
 refine tv (aY sG rfl (bL (n := 3) (vs := [_, _, _]) (.tail _ (.tail _ (.tail _ (.tail _ (.head _))))) rfl) rfl) (tv (aI iZ rfl) (tv (aG oO rfl (aK (.tail _ (.tail _ (.tail _ (.tail _ (.head _))))) rfl)) (te (aJ aK3 rfl rfl rfl rfl (aM8 (h.least.sub (.cons _ (.cons _ (.cons _ (.cons _ (.cons _ (.refl _))))))) (h.srcs.sub (.cons _ (.cons _ (.cons _ (.cons _ (.cons _ (.refl _))))))) hf) (tv (aC rfl) (tv (bA rfl rfl) ?_))))))
 refine tv (bA rfl rfl) (tv (aD rfl) (tv (aD rfl) (aF (Tr.keep (env' := [(1, _), (6, _)]) ⟨rfl, rfl, trivial⟩ (aB ?_)))))
 refine aE (aA (tv (aC rfl) (tv (eF rfl rfl) (aF (Tr.keep (env' := [(1, _), (25, _)]) ⟨rfl, rfl, trivial⟩ ?_)))))
 refine aB (bI rfl (aE (aA (tv (aD rfl) (aF ?_)))))
 refine Tr.keep (env' := [(2, _)]) ⟨rfl, trivial⟩ (aB (aQ (aN (aW rfl rfl (fun w hw => ?_)))))
 exact ⟨by rw [show fA s = false from by simp [fA, hf]]; rfl, Ok.sub hw (.cons _ (.cons _ (.cons _ (.cons _ (.cons _ (.refl _))))))⟩
theorem aC1 {s : SetupV} {a : SetupAt} (h : s.In w0 M a) (hg : s.g.ok = true) (hf : fR s.cars s.places s.least s.srcs = true) : ∀ w, Ok w0 M w → Calls Tryz.prog 15 #[.agg (s.cells a).toArray] w (fun e w' => e = .returned (.int .i64 (if fA s then 0 else 2)) ∧ Ok w0 M w') := by
 refine enter (vs := [_]) Tryz.func15 rfl Tryz.ntmps15 rfl (aE (aA (te (cH rfl rfl fun b1 => (tv (aD rfl) (aF ?_))))))
 refine Tr.keep (env' := [(1, _)]) ⟨rfl, trivial⟩ (aB (aE (aE (aA (tv (aI iD rfl) ?_)))))
 refine tv (aY pQ rfl (bL (n := 6) (vs := [_, _, _, _, _, _]) (.head _) rfl) rfl) (te (bP zU rfl rfl rfl rfl (iX (p := s.g) hg) fun gl _ => (tv (aC rfl) (tv (bA rfl rfl) (tv (bA rfl rfl) (tv (aD rfl) ?_))))))
 refine tv (aD rfl) (aF (Tr.keep (env' := [(1, _), (4, _)]) ⟨rfl, rfl, trivial⟩ (aB (aE (aA ?_)))))
 refine tv (aC rfl) (tv (eF rfl rfl) (aF (Tr.keep (env' := [(1, _), (15, _)]) ⟨rfl, rfl, trivial⟩ (aB (aR rfl ?_)))))
 refine aO (aB (aE (aE (aA (tv (aI eG rfl) ?_)))))
 refine tv (aY sG rfl (bL (n := 3) (vs := [_, _, _]) (.tail _ (.tail _ (.tail _ (.tail _ (.head _))))) rfl) rfl) (tv (aI iZ rfl) (tv (aG oO rfl (aK (.tail _ (.tail _ (.tail _ (.tail _ (.head _))))) rfl)) (te (bP aK3 rfl rfl rfl rfl (lL (h.least.sub (.cons _ (.cons _ (.cons _ (.cons _ (.cons _ (.refl _))))))) (h.srcs.sub (.cons _ (.cons _ (.cons _ (.cons _ (.cons _ (.refl _))))))) hf h.nL h.nS (tA hf).1 (tA hf).2) fun wl hwl => (tv (aC rfl) (tv (bA rfl rfl) ?_))))))
 refine tv (bA rfl rfl) (tv (aD rfl) (tv (aD rfl) (aF (Tr.keep (env' := [(1, _), (6, _)]) ⟨rfl, rfl, trivial⟩ (aB ?_)))))
 refine aE (aA (tv (aC rfl) (tv (eF rfl rfl) (aF (Tr.keep (env' := [(1, _), (25, _)]) ⟨rfl, rfl, trivial⟩ ?_)))))
 refine aB (aR rfl (aO (aB (aE (aE ?_)))))
 refine aA (tv (aI eA rfl) (tv (aY uL rfl (bL (n := 14) (vs := [_, _, _, _, _, _, _, _, _, _, _, _, _, _]) (.tail _ (.tail _ (List.mem_append_right _ (List.mem_append_right _ (.tail _ (.tail _ (.tail _ (.tail _ (.head _))))))))) rfl) rfl) (te (aJ bG9 rfl rfl rfl rfl (yQ (h.plan.sub (.cons _ (.cons _ (List.Sublist.trans (List.Sublist.trans (.cons _ (.cons _ (.cons _ (.cons _ (.cons _ (.refl _)))))) (List.sublist_append_right _ _)) (List.sublist_append_right _ _)))))) (tv (eF rfl rfl) (tv (aC rfl) ?_))))))
 apply aZ 5 (s := 30) (d := 35) rfl
 ·intro hg1 K hK
  refine bE hg1 rfl rfl (aI iM rfl) (bE hg1 rfl rfl (aY rQ rfl (bL (n := 6) (vs := [_, _, _, _, _, _]) (.tail _ (.tail _ (List.mem_append_right _ (List.mem_append_right _ (.tail _ (.tail _ (.tail _ (.tail _ (.head _))))))))) rfl) rfl) (dB hg1 rfl rfl (aJ aV3 rfl rfl rfl rfl (oN (h.arts.sub (.cons _ (.cons _ (List.Sublist.trans (List.Sublist.trans (.cons _ (.cons _ (.cons _ (.cons _ (.cons _ (.refl _)))))) (List.sublist_append_right _ _)) (List.sublist_append_right _ _)))))) (bE hg1 rfl rfl (eF rfl rfl) (tv (bW hg1 rfl rfl) ?_)))))
  iterate 4 refine Tr.weak2 rfl ?_
  exact hK _ (dJ hg1)
 ·intro hg1 K hK
  refine aH hg1 rfl rfl rfl rfl (aH hg1 rfl rfl rfl rfl (aH hg1 rfl rfl rfl rfl (aH hg1 rfl rfl rfl rfl (tv (bV hg1 rfl rfl) ?_))))
  iterate 4 refine Tr.weak2 rfl ?_
  exact hK _ (dK hg1)
 refine aF (Tr.keep (env' := [(1, _), (35, _)]) ⟨rfl, rfl, trivial⟩ (aB ?_))
 refine bD rfl (fun hb1 => ?_) (fun hb1 => ?_)
 ·have h1 : mI s = false := by rw [if02, if02] at hb1; rw [mI]; revert hb1; cases eW s.plan <;> cases eP s.code <;> simp
  refine aE (aA (tv (aD rfl) (aF (Tr.keep (env' := [(2, _)]) ⟨rfl, trivial⟩ (aB ?_)))))
  refine aQ (aN (aW rfl rfl (fun w hw => ?_)))
  exact ⟨by rw [show fA s = false from by simp [fA, h1]]; rfl, Ok.sub hw (.cons _ (.cons _ (List.Sublist.trans (List.Sublist.trans (.cons _ (.cons _ (.cons _ (.cons _ (.cons _ (.refl _)))))) (List.sublist_append_right _ _)) (List.sublist_append_right _ _))))⟩
 ·have h1 : mI s = true := by rw [if02, if02] at hb1; rw [mI]; revert hb1; cases eW s.plan <;> cases eP s.code <;> simp
  refine aO (aB (aE (aA (tv (aD rfl) (aF ?_)))))
  refine Tr.keep (env' := [(1, _), (7, _)]) ⟨rfl, rfl, trivial⟩ (aB (aE (aE (aA (tv (aI iD rfl) ?_)))))
  refine tv (aI jK rfl) (tv (aG bB rfl (aK (.tail _ (.tail _ (List.mem_append_right _ (List.mem_append_right _ (.tail _ (.tail _ (.tail _ (.tail _ (.head _))))))))) rfl)) (tv (aI eG rfl) (tv (aI gM rfl) (tv (aG bB rfl (aK (.tail _ (.tail _ (List.mem_append_right _ (List.mem_append_right _ (.tail _ (.tail _ (.tail _ (.tail _ (.head _))))))))) rfl)) (tv (eF rfl rfl) ?_)))))
  refine tv (aC rfl) ?_
  apply aZ 8 (s := 43) (d := 51) rfl
  ·intro hg3 K hK
   refine bE hg3 rfl rfl (aI iM rfl) (bE hg3 rfl rfl (aI pD rfl) (bE hg3 rfl rfl (aG bB rfl (aK (.tail _ (.tail _ (List.mem_append_right _ (List.mem_append_right _ (.tail _ (.tail _ (.tail _ (.tail _ (.head _))))))))) rfl)) (bE hg3 rfl rfl (aI eG rfl) (bE hg3 rfl rfl (aI gM rfl) (bE hg3 rfl rfl (aG bB rfl (aK (.tail _ (.tail _ (List.mem_append_right _ (List.mem_append_right _ (.tail _ (.tail _ (.tail _ (.tail _ (.head _))))))))) rfl)) ?_)))))
   refine bE hg3 rfl rfl (eF rfl rfl) (tv (bW hg3 rfl rfl) ?_)
   iterate 7 refine Tr.weak2 rfl ?_
   exact hK _ (dJ hg3)
  ·intro hg3 K hK
   refine aH hg3 rfl rfl rfl rfl (aH hg3 rfl rfl rfl rfl (aH hg3 rfl rfl rfl rfl (aH hg3 rfl rfl rfl rfl (aH hg3 rfl rfl rfl rfl (aH hg3 rfl rfl rfl rfl ?_)))))
   refine aH hg3 rfl rfl rfl rfl (tv (bV hg3 rfl rfl) ?_)
   iterate 7 refine Tr.weak2 rfl ?_
   exact hK _ (dK hg3)
  refine tv (aC rfl) ?_
  apply aZ 8 (s := 52) (d := 60) rfl
  ·intro hg4 K hK
   refine bE hg4 rfl rfl (aI iD rfl) (bE hg4 rfl rfl (aI iL rfl) (bE hg4 rfl rfl (aG bB rfl (aK (.tail _ (.tail _ (List.mem_append_right _ (List.mem_append_right _ (.tail _ (.tail _ (.tail _ (.tail _ (.head _))))))))) rfl)) (bE hg4 rfl rfl (aI eG rfl) (bE hg4 rfl rfl (aI kM rfl) (bE hg4 rfl rfl (aG bB rfl (aK (.tail _ (.tail _ (List.mem_append_right _ (List.mem_append_right _ (.tail _ (.tail _ (.tail _ (.tail _ (.head _))))))))) rfl)) ?_)))))
   refine bE hg4 rfl rfl (eF rfl rfl) (tv (bW hg4 rfl rfl) ?_)
   iterate 7 refine Tr.weak2 rfl ?_
   exact hK _ (dJ hg4)
  ·intro hg4 K hK
   refine aH hg4 rfl rfl rfl rfl (aH hg4 rfl rfl rfl rfl (aH hg4 rfl rfl rfl rfl (aH hg4 rfl rfl rfl rfl (aH hg4 rfl rfl rfl rfl (aH hg4 rfl rfl rfl rfl ?_)))))
   refine aH hg4 rfl rfl rfl rfl (tv (bV hg4 rfl rfl) ?_)
   iterate 7 refine Tr.weak2 rfl ?_
   exact hK _ (dK hg4)
  refine tv (aC rfl) ?_
  apply aZ 7 (s := 61) (d := 68) rfl
  ·intro hg5 K hK
   refine bE hg5 rfl rfl (aI eA rfl) (bE hg5 rfl rfl (aI cQ rfl) (bE hg5 rfl rfl (aG eJ rfl (aK (.tail _ (.tail _ (List.mem_append_right _ (List.mem_append_right _ (.tail _ (.tail _ (.tail _ (.tail _ (.head _))))))))) rfl)) (bE hg5 rfl rfl (aC rfl) ?_)))
   refine dB hg5 rfl rfl (aJ en_55 rfl rfl rfl rfl (lF (fun y => (vF y).kind == 2) en_54 (h.plan.items.sub (.cons _ (.cons _ (List.Sublist.trans (List.Sublist.trans (.cons _ (.cons _ (.cons _ (.cons _ (.cons _ (.refl _)))))) (List.sublist_append_right _ _)) (List.sublist_append_right _ _))))) (by
      intro y hy; obtain ⟨x, hx, rfl⟩ := List.mem_map.1 hy
      exact aK4 x)) ?_)
   refine bE hg5 rfl rfl (bF rfl) (tv (bW hg5 rfl rfl) ?_)
   iterate 6 refine Tr.weak2 rfl ?_
   exact hK _ (dJ hg5)
  ·intro hg5 K hK
   refine aH hg5 rfl rfl rfl rfl (aH hg5 rfl rfl rfl rfl (aH hg5 rfl rfl rfl rfl (aH hg5 rfl rfl rfl rfl (aH hg5 rfl rfl rfl rfl (aH hg5 rfl rfl rfl rfl ?_)))))
   refine tv (bV hg5 rfl rfl) ?_
   iterate 6 refine Tr.weak2 rfl ?_
   exact hK _ (dK hg5)
  refine aF (Tr.keep (env' := [(68, _)]) ⟨rfl, trivial⟩ (aB ?_))
  refine bD rfl (fun hb2 => ?_) (fun hb2 => ?_)
  ·have h2 : lH s = false := by rw [lH, ← aJ8, hb2]; rfl
   refine aE (aA (tv (aD rfl) (aF (Tr.keep (env' := [(2, _)]) ⟨rfl, trivial⟩ (aB ?_)))))
   refine aQ (aN (aW rfl rfl (fun w hw => ?_)))
   exact ⟨by rw [show fA s = false from by simp [fA, h2]]; rfl, Ok.sub hw (.cons _ (.cons _ (List.Sublist.trans (List.Sublist.trans (.cons _ (.cons _ (.cons _ (.cons _ (.cons _ (.refl _)))))) (List.sublist_append_right _ _)) (List.sublist_append_right _ _))))⟩
  ·have h2 : lH s = true := by rw [lH, ← aJ8, hb2]; rfl
   refine aO (aB (aE (aA (tv (aD rfl) (aF ?_)))))
   refine Tr.keep (env' := [(2, _)]) ⟨rfl, trivial⟩ (aB (aQ (aW rfl rfl (fun w hw => ?_))))
   exact ⟨by rw [show fA s = true from by simp [fA, hg, hf, h1, h2]]; rfl, Ok.sub hw (.cons _ (.cons _ (List.Sublist.trans (List.Sublist.trans (.cons _ (.cons _ (.cons _ (.cons _ (.cons _ (.refl _)))))) (List.sublist_append_right _ _)) (List.sublist_append_right _ _))))⟩
theorem kK {s : SetupV} {a : SetupAt} (h : s.In w0 M a) : ∀ w, Ok w0 M w → Calls Tryz.prog 15 #[.agg (s.cells a).toArray] w (fun e w' => e = .returned (.int .i64 (if fA s then 0 else 2)) ∧ Ok w0 M w') := by
 cases hg : s.g.ok
 ·exact aB9 h hg
 ·cases hf : fR s.cars s.places s.least s.srcs
  ·exact aC0 h hg hf
  ·exact aC1 h hg hf
end
end Go.Proofs.W
