/-
 What functions of the program that RallyChecks reaches do, one contract each, part 1.
-/
import Derived.Test.YtakiijkfjjmppaaGreatDoorKSlB
import Derived.Test.YtakiijkfjjmppaaGreatDoorProg
import Derived.Test.YtakiijkfjjmppaaGreatDoorKSlA
set_option linter.unusedVariables false
set_option linter.unusedSimpArgs false
set_option linter.unusedSectionVars false
set_option maxRecDepth 100000
set_option maxHeartbeats 1000000
namespace Go.Proofs.W
open Go Go.Sl Go.RowKit Go.Proofs
attribute [local irreducible] Go.Sl.Eff
theorem eY : bY Tryz.prog 100 = some (some 7) := by kernel_rfl
theorem qK : bY Tryz.prog 104 = some (some 4) := by kernel_rfl
theorem bH1 : bY Tryz.prog 156 = some (some 5) := by kernel_rfl
theorem ca_166 : bY Tryz.prog 166 = some (some 3) := by kernel_rfl
theorem bB : bY Tryz.prog 3 = some (none) := by kernel_rfl
theorem ca_82 : bY Tryz.prog 82 = some (some 2) := by kernel_rfl
theorem en_123 : aV Tryz.prog 123 := aL Tryz.func123 (by kernel_rfl) (by kernel_rfl)
theorem en_152 : aV Tryz.prog 152 := aL Tryz.func152 (by kernel_rfl) (by kernel_rfl)
theorem en_203 : aV Tryz.prog 203 := aL Tryz.func203 (by kernel_rfl) (by kernel_rfl)
theorem en_205 : aV Tryz.prog 205 := aL Tryz.func205 (by kernel_rfl) (by kernel_rfl)
theorem en_211 : aV Tryz.prog 211 := aL Tryz.func211 (by kernel_rfl) (by kernel_rfl)
theorem en_212 : aV Tryz.prog 212 := aL Tryz.func212 (by kernel_rfl) (by kernel_rfl)
theorem dP : (Tryz.prog.info? 100).map (·.size) = some 7 := by kernel_rfl
theorem eT : (Tryz.prog.info? 104).map (·.size) = some 4 := by kernel_rfl
theorem mS : (Tryz.prog.info? 156).map (·.size) = some 5 := by kernel_rfl
theorem tJ : (Tryz.prog.info? 166).map (·.size) = some 3 := by kernel_rfl
theorem eR : (Tryz.prog.info? 3).map (·.size) = some 1 := by kernel_rfl
theorem aM6 : (Tryz.prog.info? 82).map (·.size) = some 2 := by kernel_rfl
def eK (n lo hi : Int) : Bool := decide (lo ≤ n) && decide (n ≤ hi)
section
variable {w0 : World} {M : List Ent}
theorem cS (n lo hi : Int) : ∀ w, Ok w0 M w → Calls Tryz.prog 73 #[.int .i64 n, .int .i64 lo, .int .i64 hi] w (fun e w' => e = .returned (.bool (eK n lo hi)) ∧ Ok w0 M w') := by
 refine enter (vs := [_, _, _]) Tryz.func73 rfl Tryz.ntmps73 rfl (aE (aA (tv (aD rfl) (aF (Tr.keep (env' := [(0, _), (1, _), (2, _)]) ⟨rfl, rfl, rfl, trivial⟩ ?_)))))
 refine aB (aE (aA (tv (aC rfl) (tv (aC rfl) (tv (fI rfl rfl) ?_)))))
 refine tv (aC rfl) ?_
 apply bH 4 (s := 10) (d := 14) rfl
 ·intro hg1 K hK
  refine bE hg1 rfl rfl (aC rfl) (bE hg1 rfl rfl (aC rfl) (bE hg1 rfl rfl (iF rfl rfl) (tv (bV hg1 rfl rfl) ?_)))
  iterate 3 refine Tr.weak2 rfl ?_
  exact hK _ (dT hg1)
 ·intro hg1 K hK
  refine aH hg1 rfl rfl rfl rfl (aH hg1 rfl rfl rfl rfl (aH hg1 rfl rfl rfl rfl (tv (bW hg1 rfl rfl) ?_)))
  iterate 3 refine Tr.weak2 rfl ?_
  exact hK _ (dU hg1)
 refine tv (aD rfl) (aF (Tr.keep (env' := [(6, _)]) ⟨rfl, trivial⟩ (aB (aQ (aW rfl rfl (fun w hw => ?_))))))
 exact ⟨rfl, hw⟩
theorem wZ (n lo hi : Int) : ∀ w, Ok w0 M w → Calls Tryz.prog 81 #[.int .i64 n, .int .i64 lo, .int .i64 hi] w (fun e w' => e = .returned (.bool (eK n lo hi)) ∧ Ok w0 M w') := by
 refine enter (vs := [_, _, _]) Tryz.func81 rfl Tryz.ntmps81 rfl (aE (aA (tv (aD rfl) (aF (Tr.keep (env' := [(0, _), (1, _), (2, _)]) ⟨rfl, rfl, rfl, trivial⟩ ?_)))))
 refine aB (aE (aA (tv (aC rfl) (tv (aC rfl) (tv (fI rfl rfl) ?_)))))
 refine tv (aC rfl) ?_
 apply bH 4 (s := 10) (d := 14) rfl
 ·intro hg1 K hK
  refine bE hg1 rfl rfl (aC rfl) (bE hg1 rfl rfl (aC rfl) (bE hg1 rfl rfl (iF rfl rfl) (tv (bV hg1 rfl rfl) ?_)))
  iterate 3 refine Tr.weak2 rfl ?_
  exact hK _ (dT hg1)
 ·intro hg1 K hK
  refine aH hg1 rfl rfl rfl rfl (aH hg1 rfl rfl rfl rfl (aH hg1 rfl rfl rfl rfl (tv (bW hg1 rfl rfl) ?_)))
  iterate 3 refine Tr.weak2 rfl ?_
  exact hK _ (dU hg1)
 refine tv (aD rfl) (aF (Tr.keep (env' := [(6, _)]) ⟨rfl, trivial⟩ (aB (aQ (aW rfl rfl (fun w hw => ?_))))))
 exact ⟨rfl, hw⟩
theorem dH (n lo hi : Int) : ∀ w, Ok w0 M w → Calls Tryz.prog 147 #[.int .i64 n, .int .i64 lo, .int .i64 hi] w (fun e w' => e = .returned (.bool (eK n lo hi)) ∧ Ok w0 M w') := by
 refine enter (vs := [_, _, _]) Tryz.func147 rfl Tryz.ntmps147 rfl (aE (aA (tv (aD rfl) (aF (Tr.keep (env' := [(0, _), (1, _), (2, _)]) ⟨rfl, rfl, rfl, trivial⟩ ?_)))))
 refine aB (aE (aA (tv (aC rfl) (tv (aC rfl) (tv (fI rfl rfl) ?_)))))
 refine tv (aC rfl) ?_
 apply bH 4 (s := 10) (d := 14) rfl
 ·intro hg1 K hK
  refine bE hg1 rfl rfl (aC rfl) (bE hg1 rfl rfl (aC rfl) (bE hg1 rfl rfl (iF rfl rfl) (tv (bV hg1 rfl rfl) ?_)))
  iterate 3 refine Tr.weak2 rfl ?_
  exact hK _ (dT hg1)
 ·intro hg1 K hK
  refine aH hg1 rfl rfl rfl rfl (aH hg1 rfl rfl rfl rfl (aH hg1 rfl rfl rfl rfl (tv (bW hg1 rfl rfl) ?_)))
  iterate 3 refine Tr.weak2 rfl ?_
  exact hK _ (dU hg1)
 refine tv (aD rfl) (aF (Tr.keep (env' := [(6, _)]) ⟨rfl, trivial⟩ (aB (aQ (aW rfl rfl (fun w hw => ?_))))))
 exact ⟨rfl, hw⟩
theorem cO (n lo hi : Int) : ∀ w, Ok w0 M w → Calls Tryz.prog 118 #[.int .i64 n, .int .i64 lo, .int .i64 hi] w (fun e w' => e = .returned (.bool (eK n lo hi)) ∧ Ok w0 M w') := by
 refine enter (vs := [_, _, _]) Tryz.func118 rfl Tryz.ntmps118 rfl (aE (aA (tv (aD rfl) (aF (Tr.keep (env' := [(0, _), (1, _), (2, _)]) ⟨rfl, rfl, rfl, trivial⟩ ?_)))))
 refine aB (aE (aA (tv (aC rfl) (tv (aC rfl) (tv (fI rfl rfl) ?_)))))
 refine tv (aC rfl) ?_
 apply bH 4 (s := 10) (d := 14) rfl
 ·intro hg1 K hK
  refine bE hg1 rfl rfl (aC rfl) (bE hg1 rfl rfl (aC rfl) (bE hg1 rfl rfl (iF rfl rfl) (tv (bV hg1 rfl rfl) ?_)))
  iterate 3 refine Tr.weak2 rfl ?_
  exact hK _ (dT hg1)
 ·intro hg1 K hK
  refine aH hg1 rfl rfl rfl rfl (aH hg1 rfl rfl rfl rfl (aH hg1 rfl rfl rfl rfl (tv (bW hg1 rfl rfl) ?_)))
  iterate 3 refine Tr.weak2 rfl ?_
  exact hK _ (dU hg1)
 refine tv (aD rfl) (aF (Tr.keep (env' := [(6, _)]) ⟨rfl, trivial⟩ (aB (aQ (aW rfl rfl (fun w hw => ?_))))))
 exact ⟨rfl, hw⟩
theorem cN (n lo hi : Int) : ∀ w, Ok w0 M w → Calls Tryz.prog 120 #[.int .i64 n, .int .i64 lo, .int .i64 hi] w (fun e w' => e = .returned (.bool (eK n lo hi)) ∧ Ok w0 M w') := by
 refine enter (vs := [_, _, _]) Tryz.func120 rfl Tryz.ntmps120 rfl (aE (aA (tv (aD rfl) (aF (Tr.keep (env' := [(0, _), (1, _), (2, _)]) ⟨rfl, rfl, rfl, trivial⟩ ?_)))))
 refine aB (aE (aA (tv (aC rfl) (tv (aC rfl) (tv (fI rfl rfl) ?_)))))
 refine tv (aC rfl) ?_
 apply bH 4 (s := 10) (d := 14) rfl
 ·intro hg1 K hK
  refine bE hg1 rfl rfl (aC rfl) (bE hg1 rfl rfl (aC rfl) (bE hg1 rfl rfl (iF rfl rfl) (tv (bV hg1 rfl rfl) ?_)))
  iterate 3 refine Tr.weak2 rfl ?_
  exact hK _ (dT hg1)
 ·intro hg1 K hK
  refine aH hg1 rfl rfl rfl rfl (aH hg1 rfl rfl rfl rfl (aH hg1 rfl rfl rfl rfl (tv (bW hg1 rfl rfl) ?_)))
  iterate 3 refine Tr.weak2 rfl ?_
  exact hK _ (dU hg1)
 refine tv (aD rfl) (aF (Tr.keep (env' := [(6, _)]) ⟨rfl, trivial⟩ (aB (aQ (aW rfl rfl (fun w hw => ?_))))))
 exact ⟨rfl, hw⟩
theorem tK {A : Option Addr} {n c : Nat} {xs : List (List Value)} {F : FuncId} {fst cap : Array Value} (p : List Value → Bool) (he : aV Tryz.prog F) (hs : SlRd w0 M 4 A n xs)
  (hf : ∀ x ∈ xs, ∀ w, Ok w0 M w → Calls Tryz.prog F (fst ++ #[.agg x.toArray] ++ cap) w (fun e w' => e = .returned (.bool (p x)) ∧ Ok w0 M w')) :
  ∀ w, Ok w0 M w → Calls Tryz.prog 123 #[.slice A n c, .func (.func F) fst cap] w (fun e w' => e = .returned (.int .i64 (mO p xs)) ∧ Ok w0 M w') := by
 have hbig := hs.big
 refine enter (vs := [_, _]) Tryz.func123 rfl Tryz.ntmps123 rfl (aE (aA (tv (aD rfl) (aF (Tr.keep (env' := [(0, _), (1, _)]) ⟨rfl, rfl, trivial⟩ ?_)))))
 refine aB (aE (aE (aA (tv (aC rfl) (tv (aP Tryz.underlying28 rfl) ?_)))))
 refine tv (aC rfl) (aF (Tr.keep (env' := [(0, _), (1, _), (7, _), (8, _)]) ⟨rfl, rfl, rfl, rfl, trivial⟩ (aB (aX (dW (fun k : Nat => [(0, .slice A n c), (1, .func (.func F) fst cap), (7, .int .i64 (n : Int)), (8, .int .i64 (k : Int))]) (fun k : Nat => M) (fun k : Nat => k ≤ n ∧ (∀ j, j < k → ∀ y, xs[j]? = some y → p y = false)) (fun k : Nat => n - k) 0 ⟨by omega, by omega⟩ ⟨rfl, rfl, rfl, rfl, trivial⟩ (.refl _) ?_)))))
 intro K k ⟨hk, hp⟩ IH
 refine aE (aA (tv (dI rfl rfl) (aF (Tr.keep (env' := [(0, _), (1, _), (7, _), (8, _), (9, _)]) ⟨rfl, rfl, rfl, rfl, rfl, trivial⟩ (aB ?_)))))
 refine aE ?_
 refine bD rfl (fun hc1 => ?_) (fun hc1 => ?_)
 ·have hlt : k < n := by simpa using hc1
  obtain ⟨b, o, hA, hrd⟩ := hs.at' (by omega)
  obtain ⟨x, hx⟩ : ∃ x, xs[k]? = some x := ⟨_, List.getElem?_eq_getElem (by rw [hs.len]; omega)⟩
  refine aO (aB (aE (aX (aE (aA ?_)))))
  refine tv (aC rfl) (tv (aD rfl) (aF (Tr.keep (env' := [(0, _), (1, _), (5, _), (7, _), (8, _)]) ⟨rfl, rfl, rfl, rfl, rfl, trivial⟩ (aB (aE ?_)))))
  refine aA (tv (aC rfl) (tv (aC rfl) (tv (aC rfl) (tv (cL k Tryz.underlying28 eT hA rfl rfl rfl hlt) (tv (aY qK rfl (fun j v hv => hrd k x hx j v hv) (hs.wide x (List.mem_of_getElem? hx))) ?_)))))
  refine te (aJ he rfl rfl rfl rfl (hf x (List.mem_of_getElem? hx)) (aF (Tr.keep (env' := [(0, _), (1, _), (5, _), (7, _), (8, _), (16, _)]) ⟨rfl, rfl, rfl, rfl, rfl, rfl, trivial⟩ (aB ?_))))
  refine bD rfl (fun hc2 => ?_) (fun hc2 => ?_)
  ·skip
   refine aE (aA (tv (aC rfl) (tv (aD rfl) (aF (Tr.keep (env' := [(4, _)]) ⟨rfl, trivial⟩ ?_)))))
   refine aB (aQ (bM (aN (aN (bM ?_)))))
   refine aN (aW rfl rfl (fun w hw => (⟨?_, hw⟩)))
   rw [nE p xs k x hx hc2 hp]
  ·skip
   refine aO (cX (aB (aA (tv (cC rfl rfl (by omega)) (tv (aC rfl) ?_)))))
   refine aF (Tr.keep (env' := [(0, _), (1, _), (7, _), (8, _)]) ⟨rfl, rfl, rfl, rfl, trivial⟩ (aB (nD (IH (k + 1) ⟨by omega, fun j hj y hy => ?_⟩ (by omega)) ⟨rfl, rfl, rfl, rfl, trivial⟩ (.refl _))))
   rcases Nat.lt_or_ge j k with h | h
   ·exact hp j h y hy
   ·obtain rfl : j = k := by omega
    rw [hx] at hy; cases hy; exact hc2
 ·have hge : ¬ k < n := by simpa using hc1
  refine cY (aS (aS (bX (aB (aE ?_)))))
  refine aA (tv (aD rfl) (aF (Tr.keep (env' := [(4, _)]) ⟨rfl, trivial⟩ (aB (aQ ?_)))))
  refine aW rfl rfl (fun w hw => (⟨?_, hw⟩))
  rw [lQ p xs (fun y hy => ?_)]
  obtain ⟨j, hj, rfl⟩ := List.getElem_of_mem hy
  exact hp j (by have := hs.len; omega) _ (List.getElem?_eq_getElem hj)
theorem lF {A : Option Addr} {n c : Nat} {xs : List (List Value)} {F : FuncId} {fst cap : Array Value} (p : List Value → Bool) (he : aV Tryz.prog F) (hs : SlRd w0 M 4 A n xs)
  (hf : ∀ x ∈ xs, ∀ w, Ok w0 M w → Calls Tryz.prog F (fst ++ #[.agg x.toArray] ++ cap) w (fun e w' => e = .returned (.bool (p x)) ∧ Ok w0 M w')) :
  ∀ w, Ok w0 M w → Calls Tryz.prog 55 #[.slice A n c, .func (.func F) fst cap] w (fun e w' => e = .returned (.bool (xs.any p)) ∧ Ok w0 M w') := by
 refine enter (vs := [_, _]) Tryz.func55 rfl Tryz.ntmps55 rfl (aE (aA (tv (aD rfl) (aF (Tr.keep (env' := [(0, _), (1, _)]) ⟨rfl, rfl, trivial⟩ ?_)))))
 refine aB (aE (aA (tv (aC rfl) (tv (aC rfl) (te (aJ en_123 rfl rfl rfl rfl (tK p he hs hf) ?_))))))
 refine tv (fI rfl rfl) (tv (aD rfl) (aF (Tr.keep (env' := [(4, _)]) ⟨rfl, trivial⟩ (aB (aQ ?_)))))
 refine aW rfl rfl (fun w hw => (⟨?_, hw⟩))
 rw [lR]
theorem uT {A : Option Addr} {n c : Nat} {xs : List (List Value)} {F : FuncId} {fst cap : Array Value} (p : List Value → Bool) (he : aV Tryz.prog F) (hs : SlRd w0 M 1 A n xs)
  (hf : ∀ x ∈ xs, ∀ v, x = [v] → ∀ w, Ok w0 M w → Calls Tryz.prog F (fst ++ #[v] ++ cap) w (fun e w' => e = .returned (.bool (p x)) ∧ Ok w0 M w')) :
  ∀ w, Ok w0 M w → Calls Tryz.prog 211 #[.slice A n c, .func (.func F) fst cap] w (fun e w' => e = .returned (.int .i64 (mO p xs)) ∧ Ok w0 M w') := by
 have hbig := hs.big
 refine enter (vs := [_, _]) Tryz.func211 rfl Tryz.ntmps211 rfl (aE (aA (tv (aD rfl) (aF (Tr.keep (env' := [(0, _), (1, _)]) ⟨rfl, rfl, trivial⟩ ?_)))))
 refine aB (aE (aE (aA (tv (aC rfl) (tv (aP Tryz.underlying24 rfl) ?_)))))
 refine tv (aC rfl) (aF (Tr.keep (env' := [(0, _), (1, _), (7, _), (8, _)]) ⟨rfl, rfl, rfl, rfl, trivial⟩ (aB (aX (dW (fun k : Nat => [(0, .slice A n c), (1, .func (.func F) fst cap), (7, .int .i64 (n : Int)), (8, .int .i64 (k : Int))]) (fun k : Nat => M) (fun k : Nat => k ≤ n ∧ (∀ j, j < k → ∀ y, xs[j]? = some y → p y = false)) (fun k : Nat => n - k) 0 ⟨by omega, by omega⟩ ⟨rfl, rfl, rfl, rfl, trivial⟩ (.refl _) ?_)))))
 intro K k ⟨hk, hp⟩ IH
 refine aE (aA (tv (dI rfl rfl) (aF (Tr.keep (env' := [(0, _), (1, _), (7, _), (8, _), (9, _)]) ⟨rfl, rfl, rfl, rfl, rfl, trivial⟩ (aB ?_)))))
 refine aE ?_
 refine bD rfl (fun hc1 => ?_) (fun hc1 => ?_)
 ·have hlt : k < n := by simpa using hc1
  obtain ⟨b, o, hA, hrd⟩ := hs.at' (by omega)
  obtain ⟨x, hx⟩ : ∃ x, xs[k]? = some x := ⟨_, List.getElem?_eq_getElem (by rw [hs.len]; omega)⟩
  obtain ⟨v, hxv⟩ : ∃ v, x = [v] := List.length_eq_one_iff.1 (hs.wide x (List.mem_of_getElem? hx))
  refine aO (aB (aE (aX (aE (aA ?_)))))
  refine tv (aC rfl) (tv (aD rfl) (aF (Tr.keep (env' := [(0, _), (1, _), (5, _), (7, _), (8, _)]) ⟨rfl, rfl, rfl, rfl, rfl, trivial⟩ (aB (aE ?_)))))
  refine aA (tv (aC rfl) (tv (aC rfl) (tv (aC rfl) (tv (cL k Tryz.underlying24 eR hA rfl rfl rfl hlt) (tv (aG bB rfl (hrd k x hx 0 v (by rw [hxv]; rfl))) ?_)))))
  refine te (aJ he rfl rfl rfl rfl (hf x (List.mem_of_getElem? hx) _ hxv) (aF (Tr.keep (env' := [(0, _), (1, _), (5, _), (7, _), (8, _), (16, _)]) ⟨rfl, rfl, rfl, rfl, rfl, rfl, trivial⟩ (aB ?_))))
  refine bD rfl (fun hc2 => ?_) (fun hc2 => ?_)
  ·skip
   refine aE (aA (tv (aC rfl) (tv (aD rfl) (aF (Tr.keep (env' := [(4, _)]) ⟨rfl, trivial⟩ ?_)))))
   refine aB (aQ (bM (aN (aN (bM ?_)))))
   refine aN (aW rfl rfl (fun w hw => (⟨?_, hw⟩)))
   rw [nE p xs k x hx hc2 hp]
  ·skip
   refine aO (cX (aB (aA (tv (cC rfl rfl (by omega)) (tv (aC rfl) ?_)))))
   refine aF (Tr.keep (env' := [(0, _), (1, _), (7, _), (8, _)]) ⟨rfl, rfl, rfl, rfl, trivial⟩ (aB (nD (IH (k + 1) ⟨by omega, fun j hj y hy => ?_⟩ (by omega)) ⟨rfl, rfl, rfl, rfl, trivial⟩ (.refl _))))
   rcases Nat.lt_or_ge j k with h | h
   ·exact hp j h y hy
   ·obtain rfl : j = k := by omega
    rw [hx] at hy; cases hy; exact hc2
 ·have hge : ¬ k < n := by simpa using hc1
  refine cY (aS (aS (bX (aB (aE ?_)))))
  refine aA (tv (aD rfl) (aF (Tr.keep (env' := [(4, _)]) ⟨rfl, trivial⟩ (aB (aQ ?_)))))
  refine aW rfl rfl (fun w hw => (⟨?_, hw⟩))
  rw [lQ p xs (fun y hy => ?_)]
  obtain ⟨j, hj, rfl⟩ := List.getElem_of_mem hy
  exact hp j (by have := hs.len; omega) _ (List.getElem?_eq_getElem hj)
theorem mD {A : Option Addr} {n c : Nat} {xs : List (List Value)} {F : FuncId} {fst cap : Array Value} (p : List Value → Bool) (he : aV Tryz.prog F) (hs : SlRd w0 M 1 A n xs)
  (hf : ∀ x ∈ xs, ∀ v, x = [v] → ∀ w, Ok w0 M w → Calls Tryz.prog F (fst ++ #[v] ++ cap) w (fun e w' => e = .returned (.bool (p x)) ∧ Ok w0 M w')) :
  ∀ w, Ok w0 M w → Calls Tryz.prog 148 #[.slice A n c, .func (.func F) fst cap] w (fun e w' => e = .returned (.bool (xs.any p)) ∧ Ok w0 M w') := by
 refine enter (vs := [_, _]) Tryz.func148 rfl Tryz.ntmps148 rfl (aE (aA (tv (aD rfl) (aF (Tr.keep (env' := [(0, _), (1, _)]) ⟨rfl, rfl, trivial⟩ ?_)))))
 refine aB (aE (aA (tv (aC rfl) (tv (aC rfl) (te (aJ en_211 rfl rfl rfl rfl (uT p he hs hf) ?_))))))
 refine tv (fI rfl rfl) (tv (aD rfl) (aF (Tr.keep (env' := [(4, _)]) ⟨rfl, trivial⟩ (aB (aQ ?_)))))
 refine aW rfl rfl (fun w hw => (⟨?_, hw⟩))
 rw [lR]
theorem qM {A : Option Addr} {n c : Nat} {xs : List (List Value)} {F : FuncId} {fst cap : Array Value} (p : List Value → Bool) (he : aV Tryz.prog F) (hs : SlRd w0 M 7 A n xs)
  (hf : ∀ x ∈ xs, ∀ w, Ok w0 M w → Calls Tryz.prog F (fst ++ #[.agg x.toArray] ++ cap) w (fun e w' => e = .returned (.bool (p x)) ∧ Ok w0 M w')) :
  ∀ w, Ok w0 M w → Calls Tryz.prog 152 #[.slice A n c, .func (.func F) fst cap] w (fun e w' => e = .returned (.int .i64 (mO p xs)) ∧ Ok w0 M w') := by
 have hbig := hs.big
 refine enter (vs := [_, _]) Tryz.func152 rfl Tryz.ntmps152 rfl (aE (aA (tv (aD rfl) (aF (Tr.keep (env' := [(0, _), (1, _)]) ⟨rfl, rfl, trivial⟩ ?_)))))
 refine aB (aE (aE (aA (tv (aC rfl) (tv (aP Tryz.underlying56 rfl) ?_)))))
 refine tv (aC rfl) (aF (Tr.keep (env' := [(0, _), (1, _), (7, _), (8, _)]) ⟨rfl, rfl, rfl, rfl, trivial⟩ (aB (aX (dW (fun k : Nat => [(0, .slice A n c), (1, .func (.func F) fst cap), (7, .int .i64 (n : Int)), (8, .int .i64 (k : Int))]) (fun k : Nat => M) (fun k : Nat => k ≤ n ∧ (∀ j, j < k → ∀ y, xs[j]? = some y → p y = false)) (fun k : Nat => n - k) 0 ⟨by omega, by omega⟩ ⟨rfl, rfl, rfl, rfl, trivial⟩ (.refl _) ?_)))))
 intro K k ⟨hk, hp⟩ IH
 refine aE (aA (tv (dI rfl rfl) (aF (Tr.keep (env' := [(0, _), (1, _), (7, _), (8, _), (9, _)]) ⟨rfl, rfl, rfl, rfl, rfl, trivial⟩ (aB ?_)))))
 refine aE ?_
 refine bD rfl (fun hc1 => ?_) (fun hc1 => ?_)
 ·have hlt : k < n := by simpa using hc1
  obtain ⟨b, o, hA, hrd⟩ := hs.at' (by omega)
  obtain ⟨x, hx⟩ : ∃ x, xs[k]? = some x := ⟨_, List.getElem?_eq_getElem (by rw [hs.len]; omega)⟩
  refine aO (aB (aE (aX (aE (aA ?_)))))
  refine tv (aC rfl) (tv (aD rfl) (aF (Tr.keep (env' := [(0, _), (1, _), (5, _), (7, _), (8, _)]) ⟨rfl, rfl, rfl, rfl, rfl, trivial⟩ (aB (aE ?_)))))
  refine aA (tv (aC rfl) (tv (aC rfl) (tv (aC rfl) (tv (cL k Tryz.underlying56 dP hA rfl rfl rfl hlt) (tv (aY eY rfl (fun j v hv => hrd k x hx j v hv) (hs.wide x (List.mem_of_getElem? hx))) ?_)))))
  refine te (aJ he rfl rfl rfl rfl (hf x (List.mem_of_getElem? hx)) (aF (Tr.keep (env' := [(0, _), (1, _), (5, _), (7, _), (8, _), (16, _)]) ⟨rfl, rfl, rfl, rfl, rfl, rfl, trivial⟩ (aB ?_))))
  refine bD rfl (fun hc2 => ?_) (fun hc2 => ?_)
  ·skip
   refine aE (aA (tv (aC rfl) (tv (aD rfl) (aF (Tr.keep (env' := [(4, _)]) ⟨rfl, trivial⟩ ?_)))))
   refine aB (aQ (bM (aN (aN (bM ?_)))))
   refine aN (aW rfl rfl (fun w hw => (⟨?_, hw⟩)))
   rw [nE p xs k x hx hc2 hp]
  ·skip
   refine aO (cX (aB (aA (tv (cC rfl rfl (by omega)) (tv (aC rfl) ?_)))))
   refine aF (Tr.keep (env' := [(0, _), (1, _), (7, _), (8, _)]) ⟨rfl, rfl, rfl, rfl, trivial⟩ (aB (nD (IH (k + 1) ⟨by omega, fun j hj y hy => ?_⟩ (by omega)) ⟨rfl, rfl, rfl, rfl, trivial⟩ (.refl _))))
   rcases Nat.lt_or_ge j k with h | h
   ·exact hp j h y hy
   ·obtain rfl : j = k := by omega
    rw [hx] at hy; cases hy; exact hc2
 ·have hge : ¬ k < n := by simpa using hc1
  refine cY (aS (aS (bX (aB (aE ?_)))))
  refine aA (tv (aD rfl) (aF (Tr.keep (env' := [(4, _)]) ⟨rfl, trivial⟩ (aB (aQ ?_)))))
  refine aW rfl rfl (fun w hw => (⟨?_, hw⟩))
  rw [lQ p xs (fun y hy => ?_)]
  obtain ⟨j, hj, rfl⟩ := List.getElem_of_mem hy
  exact hp j (by have := hs.len; omega) _ (List.getElem?_eq_getElem hj)
theorem oG {A : Option Addr} {n c : Nat} {xs : List (List Value)} {F : FuncId} {fst cap : Array Value} (p : List Value → Bool) (he : aV Tryz.prog F) (hs : SlRd w0 M 7 A n xs)
  (hf : ∀ x ∈ xs, ∀ w, Ok w0 M w → Calls Tryz.prog F (fst ++ #[.agg x.toArray] ++ cap) w (fun e w' => e = .returned (.bool (p x)) ∧ Ok w0 M w')) :
  ∀ w, Ok w0 M w → Calls Tryz.prog 96 #[.slice A n c, .func (.func F) fst cap] w (fun e w' => e = .returned (.bool (xs.any p)) ∧ Ok w0 M w') := by
 refine enter (vs := [_, _]) Tryz.func96 rfl Tryz.ntmps96 rfl (aE (aA (tv (aD rfl) (aF (Tr.keep (env' := [(0, _), (1, _)]) ⟨rfl, rfl, trivial⟩ ?_)))))
 refine aB (aE (aA (tv (aC rfl) (tv (aC rfl) (te (aJ en_152 rfl rfl rfl rfl (qM p he hs hf) ?_))))))
 refine tv (fI rfl rfl) (tv (aD rfl) (aF (Tr.keep (env' := [(4, _)]) ⟨rfl, trivial⟩ (aB (aQ ?_)))))
 refine aW rfl rfl (fun w hw => (⟨?_, hw⟩))
 rw [lR]
theorem qN {A : Option Addr} {n c : Nat} {xs : List (List Value)} {F : FuncId} {fst cap : Array Value} (p : List Value → Bool) (he : aV Tryz.prog F) (hs : SlRd w0 M 2 A n xs)
  (hf : ∀ x ∈ xs, ∀ w, Ok w0 M w → Calls Tryz.prog F (fst ++ #[.agg x.toArray] ++ cap) w (fun e w' => e = .returned (.bool (p x)) ∧ Ok w0 M w')) :
  ∀ w, Ok w0 M w → Calls Tryz.prog 212 #[.slice A n c, .func (.func F) fst cap] w (fun e w' => e = .returned (.int .i64 (mO p xs)) ∧ Ok w0 M w') := by
 have hbig := hs.big
 refine enter (vs := [_, _]) Tryz.func212 rfl Tryz.ntmps212 rfl (aE (aA (tv (aD rfl) (aF (Tr.keep (env' := [(0, _), (1, _)]) ⟨rfl, rfl, trivial⟩ ?_)))))
 refine aB (aE (aE (aA (tv (aC rfl) (tv (aP Tryz.underlying27 rfl) ?_)))))
 refine tv (aC rfl) (aF (Tr.keep (env' := [(0, _), (1, _), (7, _), (8, _)]) ⟨rfl, rfl, rfl, rfl, trivial⟩ (aB (aX (dW (fun k : Nat => [(0, .slice A n c), (1, .func (.func F) fst cap), (7, .int .i64 (n : Int)), (8, .int .i64 (k : Int))]) (fun k : Nat => M) (fun k : Nat => k ≤ n ∧ (∀ j, j < k → ∀ y, xs[j]? = some y → p y = false)) (fun k : Nat => n - k) 0 ⟨by omega, by omega⟩ ⟨rfl, rfl, rfl, rfl, trivial⟩ (.refl _) ?_)))))
 intro K k ⟨hk, hp⟩ IH
 refine aE (aA (tv (dI rfl rfl) (aF (Tr.keep (env' := [(0, _), (1, _), (7, _), (8, _), (9, _)]) ⟨rfl, rfl, rfl, rfl, rfl, trivial⟩ (aB ?_)))))
 refine aE ?_
 refine bD rfl (fun hc1 => ?_) (fun hc1 => ?_)
 ·have hlt : k < n := by simpa using hc1
  obtain ⟨b, o, hA, hrd⟩ := hs.at' (by omega)
  obtain ⟨x, hx⟩ : ∃ x, xs[k]? = some x := ⟨_, List.getElem?_eq_getElem (by rw [hs.len]; omega)⟩
  refine aO (aB (aE (aX (aE (aA ?_)))))
  refine tv (aC rfl) (tv (aD rfl) (aF (Tr.keep (env' := [(0, _), (1, _), (5, _), (7, _), (8, _)]) ⟨rfl, rfl, rfl, rfl, rfl, trivial⟩ (aB (aE ?_)))))
  refine aA (tv (aC rfl) (tv (aC rfl) (tv (aC rfl) (tv (cL k Tryz.underlying27 aM6 hA rfl rfl rfl hlt) (tv (aY ca_82 rfl (fun j v hv => hrd k x hx j v hv) (hs.wide x (List.mem_of_getElem? hx))) ?_)))))
  refine te (aJ he rfl rfl rfl rfl (hf x (List.mem_of_getElem? hx)) (aF (Tr.keep (env' := [(0, _), (1, _), (5, _), (7, _), (8, _), (16, _)]) ⟨rfl, rfl, rfl, rfl, rfl, rfl, trivial⟩ (aB ?_))))
  refine bD rfl (fun hc2 => ?_) (fun hc2 => ?_)
  ·skip
   refine aE (aA (tv (aC rfl) (tv (aD rfl) (aF (Tr.keep (env' := [(4, _)]) ⟨rfl, trivial⟩ ?_)))))
   refine aB (aQ (bM (aN (aN (bM ?_)))))
   refine aN (aW rfl rfl (fun w hw => (⟨?_, hw⟩)))
   rw [nE p xs k x hx hc2 hp]
  ·skip
   refine aO (cX (aB (aA (tv (cC rfl rfl (by omega)) (tv (aC rfl) ?_)))))
   refine aF (Tr.keep (env' := [(0, _), (1, _), (7, _), (8, _)]) ⟨rfl, rfl, rfl, rfl, trivial⟩ (aB (nD (IH (k + 1) ⟨by omega, fun j hj y hy => ?_⟩ (by omega)) ⟨rfl, rfl, rfl, rfl, trivial⟩ (.refl _))))
   rcases Nat.lt_or_ge j k with h | h
   ·exact hp j h y hy
   ·obtain rfl : j = k := by omega
    rw [hx] at hy; cases hy; exact hc2
 ·have hge : ¬ k < n := by simpa using hc1
  refine cY (aS (aS (bX (aB (aE ?_)))))
  refine aA (tv (aD rfl) (aF (Tr.keep (env' := [(4, _)]) ⟨rfl, trivial⟩ (aB (aQ ?_)))))
  refine aW rfl rfl (fun w hw => (⟨?_, hw⟩))
  rw [lQ p xs (fun y hy => ?_)]
  obtain ⟨j, hj, rfl⟩ := List.getElem_of_mem hy
  exact hp j (by have := hs.len; omega) _ (List.getElem?_eq_getElem hj)
theorem oH {A : Option Addr} {n c : Nat} {xs : List (List Value)} {F : FuncId} {fst cap : Array Value} (p : List Value → Bool) (he : aV Tryz.prog F) (hs : SlRd w0 M 2 A n xs)
  (hf : ∀ x ∈ xs, ∀ w, Ok w0 M w → Calls Tryz.prog F (fst ++ #[.agg x.toArray] ++ cap) w (fun e w' => e = .returned (.bool (p x)) ∧ Ok w0 M w')) :
  ∀ w, Ok w0 M w → Calls Tryz.prog 150 #[.slice A n c, .func (.func F) fst cap] w (fun e w' => e = .returned (.bool (xs.any p)) ∧ Ok w0 M w') := by
 refine enter (vs := [_, _]) Tryz.func150 rfl Tryz.ntmps150 rfl (aE (aA (tv (aD rfl) (aF (Tr.keep (env' := [(0, _), (1, _)]) ⟨rfl, rfl, trivial⟩ ?_)))))
 refine aB (aE (aA (tv (aC rfl) (tv (aC rfl) (te (aJ en_212 rfl rfl rfl rfl (qN p he hs hf) ?_))))))
 refine tv (fI rfl rfl) (tv (aD rfl) (aF (Tr.keep (env' := [(4, _)]) ⟨rfl, trivial⟩ (aB (aQ ?_)))))
 refine aW rfl rfl (fun w hw => (⟨?_, hw⟩))
 rw [lR]
theorem qO {A : Option Addr} {n c : Nat} {xs : List (List Value)} {F : FuncId} {fst cap : Array Value} (p : List Value → Bool) (he : aV Tryz.prog F) (hs : SlRd w0 M 3 A n xs)
  (hf : ∀ x ∈ xs, ∀ w, Ok w0 M w → Calls Tryz.prog F (fst ++ #[.agg x.toArray] ++ cap) w (fun e w' => e = .returned (.bool (p x)) ∧ Ok w0 M w')) :
  ∀ w, Ok w0 M w → Calls Tryz.prog 203 #[.slice A n c, .func (.func F) fst cap] w (fun e w' => e = .returned (.int .i64 (mO p xs)) ∧ Ok w0 M w') := by
 have hbig := hs.big
 refine enter (vs := [_, _]) Tryz.func203 rfl Tryz.ntmps203 rfl (aE (aA (tv (aD rfl) (aF (Tr.keep (env' := [(0, _), (1, _)]) ⟨rfl, rfl, trivial⟩ ?_)))))
 refine aB (aE (aE (aA (tv (aC rfl) (tv (aP Tryz.underlying164 rfl) ?_)))))
 refine tv (aC rfl) (aF (Tr.keep (env' := [(0, _), (1, _), (7, _), (8, _)]) ⟨rfl, rfl, rfl, rfl, trivial⟩ (aB (aX (dW (fun k : Nat => [(0, .slice A n c), (1, .func (.func F) fst cap), (7, .int .i64 (n : Int)), (8, .int .i64 (k : Int))]) (fun k : Nat => M) (fun k : Nat => k ≤ n ∧ (∀ j, j < k → ∀ y, xs[j]? = some y → p y = false)) (fun k : Nat => n - k) 0 ⟨by omega, by omega⟩ ⟨rfl, rfl, rfl, rfl, trivial⟩ (.refl _) ?_)))))
 intro K k ⟨hk, hp⟩ IH
 refine aE (aA (tv (dI rfl rfl) (aF (Tr.keep (env' := [(0, _), (1, _), (7, _), (8, _), (9, _)]) ⟨rfl, rfl, rfl, rfl, rfl, trivial⟩ (aB ?_)))))
 refine aE ?_
 refine bD rfl (fun hc1 => ?_) (fun hc1 => ?_)
 ·have hlt : k < n := by simpa using hc1
  obtain ⟨b, o, hA, hrd⟩ := hs.at' (by omega)
  obtain ⟨x, hx⟩ : ∃ x, xs[k]? = some x := ⟨_, List.getElem?_eq_getElem (by rw [hs.len]; omega)⟩
  refine aO (aB (aE (aX (aE (aA ?_)))))
  refine tv (aC rfl) (tv (aD rfl) (aF (Tr.keep (env' := [(0, _), (1, _), (5, _), (7, _), (8, _)]) ⟨rfl, rfl, rfl, rfl, rfl, trivial⟩ (aB (aE ?_)))))
  refine aA (tv (aC rfl) (tv (aC rfl) (tv (aC rfl) (tv (cL k Tryz.underlying164 tJ hA rfl rfl rfl hlt) (tv (aY ca_166 rfl (fun j v hv => hrd k x hx j v hv) (hs.wide x (List.mem_of_getElem? hx))) ?_)))))
  refine te (aJ he rfl rfl rfl rfl (hf x (List.mem_of_getElem? hx)) (aF (Tr.keep (env' := [(0, _), (1, _), (5, _), (7, _), (8, _), (16, _)]) ⟨rfl, rfl, rfl, rfl, rfl, rfl, trivial⟩ (aB ?_))))
  refine bD rfl (fun hc2 => ?_) (fun hc2 => ?_)
  ·skip
   refine aE (aA (tv (aC rfl) (tv (aD rfl) (aF (Tr.keep (env' := [(4, _)]) ⟨rfl, trivial⟩ ?_)))))
   refine aB (aQ (bM (aN (aN (bM ?_)))))
   refine aN (aW rfl rfl (fun w hw => (⟨?_, hw⟩)))
   rw [nE p xs k x hx hc2 hp]
  ·skip
   refine aO (cX (aB (aA (tv (cC rfl rfl (by omega)) (tv (aC rfl) ?_)))))
   refine aF (Tr.keep (env' := [(0, _), (1, _), (7, _), (8, _)]) ⟨rfl, rfl, rfl, rfl, trivial⟩ (aB (nD (IH (k + 1) ⟨by omega, fun j hj y hy => ?_⟩ (by omega)) ⟨rfl, rfl, rfl, rfl, trivial⟩ (.refl _))))
   rcases Nat.lt_or_ge j k with h | h
   ·exact hp j h y hy
   ·obtain rfl : j = k := by omega
    rw [hx] at hy; cases hy; exact hc2
 ·have hge : ¬ k < n := by simpa using hc1
  refine cY (aS (aS (bX (aB (aE ?_)))))
  refine aA (tv (aD rfl) (aF (Tr.keep (env' := [(4, _)]) ⟨rfl, trivial⟩ (aB (aQ ?_)))))
  refine aW rfl rfl (fun w hw => (⟨?_, hw⟩))
  rw [lQ p xs (fun y hy => ?_)]
  obtain ⟨j, hj, rfl⟩ := List.getElem_of_mem hy
  exact hp j (by have := hs.len; omega) _ (List.getElem?_eq_getElem hj)
theorem jY {A : Option Addr} {n c : Nat} {xs : List (List Value)} {F : FuncId} {fst cap : Array Value} (p : List Value → Bool) (he : aV Tryz.prog F) (hs : SlRd w0 M 3 A n xs)
  (hf : ∀ x ∈ xs, ∀ w, Ok w0 M w → Calls Tryz.prog F (fst ++ #[.agg x.toArray] ++ cap) w (fun e w' => e = .returned (.bool (p x)) ∧ Ok w0 M w')) :
  ∀ w, Ok w0 M w → Calls Tryz.prog 136 #[.slice A n c, .func (.func F) fst cap] w (fun e w' => e = .returned (.bool (xs.any p)) ∧ Ok w0 M w') := by
 refine enter (vs := [_, _]) Tryz.func136 rfl Tryz.ntmps136 rfl (aE (aA (tv (aD rfl) (aF (Tr.keep (env' := [(0, _), (1, _)]) ⟨rfl, rfl, trivial⟩ ?_)))))
 refine aB (aE (aA (tv (aC rfl) (tv (aC rfl) (te (aJ en_203 rfl rfl rfl rfl (qO p he hs hf) ?_))))))
 refine tv (fI rfl rfl) (tv (aD rfl) (aF (Tr.keep (env' := [(4, _)]) ⟨rfl, trivial⟩ (aB (aQ ?_)))))
 refine aW rfl rfl (fun w hw => (⟨?_, hw⟩))
 rw [lR]
theorem qP {A : Option Addr} {n c : Nat} {xs : List (List Value)} {F : FuncId} {fst cap : Array Value} (p : List Value → Bool) (he : aV Tryz.prog F) (hs : SlRd w0 M 5 A n xs)
  (hf : ∀ x ∈ xs, ∀ w, Ok w0 M w → Calls Tryz.prog F (fst ++ #[.agg x.toArray] ++ cap) w (fun e w' => e = .returned (.bool (p x)) ∧ Ok w0 M w')) :
  ∀ w, Ok w0 M w → Calls Tryz.prog 205 #[.slice A n c, .func (.func F) fst cap] w (fun e w' => e = .returned (.int .i64 (mO p xs)) ∧ Ok w0 M w') := by
 have hbig := hs.big
 refine enter (vs := [_, _]) Tryz.func205 rfl Tryz.ntmps205 rfl (aE (aA (tv (aD rfl) (aF (Tr.keep (env' := [(0, _), (1, _)]) ⟨rfl, rfl, trivial⟩ ?_)))))
 refine aB (aE (aE (aA (tv (aC rfl) (tv (aP Tryz.underlying158 rfl) ?_)))))
 refine tv (aC rfl) (aF (Tr.keep (env' := [(0, _), (1, _), (7, _), (8, _)]) ⟨rfl, rfl, rfl, rfl, trivial⟩ (aB (aX (dW (fun k : Nat => [(0, .slice A n c), (1, .func (.func F) fst cap), (7, .int .i64 (n : Int)), (8, .int .i64 (k : Int))]) (fun k : Nat => M) (fun k : Nat => k ≤ n ∧ (∀ j, j < k → ∀ y, xs[j]? = some y → p y = false)) (fun k : Nat => n - k) 0 ⟨by omega, by omega⟩ ⟨rfl, rfl, rfl, rfl, trivial⟩ (.refl _) ?_)))))
 intro K k ⟨hk, hp⟩ IH
 refine aE (aA (tv (dI rfl rfl) (aF (Tr.keep (env' := [(0, _), (1, _), (7, _), (8, _), (9, _)]) ⟨rfl, rfl, rfl, rfl, rfl, trivial⟩ (aB ?_)))))
 refine aE ?_
 refine bD rfl (fun hc1 => ?_) (fun hc1 => ?_)
 ·have hlt : k < n := by simpa using hc1
  obtain ⟨b, o, hA, hrd⟩ := hs.at' (by omega)
  obtain ⟨x, hx⟩ : ∃ x, xs[k]? = some x := ⟨_, List.getElem?_eq_getElem (by rw [hs.len]; omega)⟩
  refine aO (aB (aE (aX (aE (aA ?_)))))
  refine tv (aC rfl) (tv (aD rfl) (aF (Tr.keep (env' := [(0, _), (1, _), (5, _), (7, _), (8, _)]) ⟨rfl, rfl, rfl, rfl, rfl, trivial⟩ (aB (aE ?_)))))
  refine aA (tv (aC rfl) (tv (aC rfl) (tv (aC rfl) (tv (cL k Tryz.underlying158 mS hA rfl rfl rfl hlt) (tv (aY bH1 rfl (fun j v hv => hrd k x hx j v hv) (hs.wide x (List.mem_of_getElem? hx))) ?_)))))
  refine te (aJ he rfl rfl rfl rfl (hf x (List.mem_of_getElem? hx)) (aF (Tr.keep (env' := [(0, _), (1, _), (5, _), (7, _), (8, _), (16, _)]) ⟨rfl, rfl, rfl, rfl, rfl, rfl, trivial⟩ (aB ?_))))
  refine bD rfl (fun hc2 => ?_) (fun hc2 => ?_)
  ·skip
   refine aE (aA (tv (aC rfl) (tv (aD rfl) (aF (Tr.keep (env' := [(4, _)]) ⟨rfl, trivial⟩ ?_)))))
   refine aB (aQ (bM (aN (aN (bM ?_)))))
   refine aN (aW rfl rfl (fun w hw => (⟨?_, hw⟩)))
   rw [nE p xs k x hx hc2 hp]
  ·skip
   refine aO (cX (aB (aA (tv (cC rfl rfl (by omega)) (tv (aC rfl) ?_)))))
   refine aF (Tr.keep (env' := [(0, _), (1, _), (7, _), (8, _)]) ⟨rfl, rfl, rfl, rfl, trivial⟩ (aB (nD (IH (k + 1) ⟨by omega, fun j hj y hy => ?_⟩ (by omega)) ⟨rfl, rfl, rfl, rfl, trivial⟩ (.refl _))))
   rcases Nat.lt_or_ge j k with h | h
   ·exact hp j h y hy
   ·obtain rfl : j = k := by omega
    rw [hx] at hy; cases hy; exact hc2
 ·have hge : ¬ k < n := by simpa using hc1
  refine cY (aS (aS (bX (aB (aE ?_)))))
  refine aA (tv (aD rfl) (aF (Tr.keep (env' := [(4, _)]) ⟨rfl, trivial⟩ (aB (aQ ?_)))))
  refine aW rfl rfl (fun w hw => (⟨?_, hw⟩))
  rw [lQ p xs (fun y hy => ?_)]
  obtain ⟨j, hj, rfl⟩ := List.getElem_of_mem hy
  exact hp j (by have := hs.len; omega) _ (List.getElem?_eq_getElem hj)
theorem jZ {A : Option Addr} {n c : Nat} {xs : List (List Value)} {F : FuncId} {fst cap : Array Value} (p : List Value → Bool) (he : aV Tryz.prog F) (hs : SlRd w0 M 5 A n xs)
  (hf : ∀ x ∈ xs, ∀ w, Ok w0 M w → Calls Tryz.prog F (fst ++ #[.agg x.toArray] ++ cap) w (fun e w' => e = .returned (.bool (p x)) ∧ Ok w0 M w')) :
  ∀ w, Ok w0 M w → Calls Tryz.prog 143 #[.slice A n c, .func (.func F) fst cap] w (fun e w' => e = .returned (.bool (xs.any p)) ∧ Ok w0 M w') := by
 refine enter (vs := [_, _]) Tryz.func143 rfl Tryz.ntmps143 rfl (aE (aA (tv (aD rfl) (aF (Tr.keep (env' := [(0, _), (1, _)]) ⟨rfl, rfl, trivial⟩ ?_)))))
 refine aB (aE (aA (tv (aC rfl) (tv (aC rfl) (te (aJ en_205 rfl rfl rfl rfl (qP p he hs hf) ?_))))))
 refine tv (fI rfl rfl) (tv (aD rfl) (aF (Tr.keep (env' := [(4, _)]) ⟨rfl, trivial⟩ (aB (aQ ?_)))))
 refine aW rfl rfl (fun w hw => (⟨?_, hw⟩))
 rw [lR]
end
end Go.Proofs.W
set_option linter.unusedVariables false
set_option linter.unusedSimpArgs false
set_option linter.unusedSectionVars false
set_option maxRecDepth 100000
namespace Go.Proofs.W
open Go Go.Sl Go.RowKit Go.Proofs
attribute [local irreducible] Go.Sl.Eff
theorem pK : bY Tryz.prog 4 = some (none) := by kernel_rfl
theorem rZ : bC Tryz.prog 166 0 = some 0 := by kernel_rfl
theorem mE : bC Tryz.prog 166 1 = some 1 := by kernel_rfl
theorem sB : bC Tryz.prog 166 2 = some 2 := by kernel_rfl
theorem iz_4 : (Tryz.prog.info? 4).map (·.size) = some 1 := by kernel_rfl
structure Latest where
 value : Bool
 second : Int
 heard : Bool
def Latest.cells (l : Latest) : List Value := [.bool l.value, .int .i64 l.second, .bool l.heard]
def Latest.hear (l : Latest) (v : Bool) (s : Int) (bad : Bool) : Latest :=
 ⟨bif (!l.heard || decide (l.second < s)) || ((s == l.second) && (v == bad)) then v else l.value, max l.second s, true⟩
section
variable {w0 : World} {M : List Ent}
theorem mT (b : Nat) (T : TypeId) (A B : List Ent) (pre post : List Value) (x : Latest) (v bad : Bool) (s : Int) : ∀ w, Ok w0 (A ++ cel b T (pre ++ (x.cells ++ post)) :: B) w →
  Calls Tryz.prog 80 #[.pointer (some ⟨b, pre.length, none⟩), .bool v, .int .i64 s, .bool bad] w (fun e w' => e = .returned (.tuple #[]) ∧ Ok w0 (A ++ cel b T (pre ++ ((x.hear v s bad).cells ++ post)) :: B) w') := by
 refine enter (vs := [_, _, _, _]) Tryz.func80 rfl Tryz.ntmps80 rfl (aE (aE (aA (tv (aC rfl) (tv (aM rfl) ?_)))))
 refine tv (aI sB rfl) (tv (aG pK rfl (aK (List.mem_append_right _ (.head _)) (nP rfl))) (tv (bF rfl) (tv (aC rfl) ?_)))
 apply aZ 7 (s := 13) (d := 20) rfl
 ·intro hg1 K hK
  refine bE hg1 rfl rfl (aC rfl) (bE hg1 rfl rfl (aC rfl) (bE hg1 rfl rfl (aM rfl) (bE hg1 rfl rfl (aI mE rfl) (bE hg1 rfl rfl (aG bB rfl (aK (List.mem_append_right _ (.head _)) (nP rfl))) (bE hg1 rfl rfl (fC rfl rfl) ?_)))))
  refine tv (bW hg1 rfl rfl) ?_
  iterate 6 refine Tr.weak2 rfl ?_
  exact hK _ (dJ hg1)
 ·intro hg1 K hK
  refine aH hg1 rfl rfl rfl rfl (aH hg1 rfl rfl rfl rfl (aH hg1 rfl rfl rfl rfl (aH hg1 rfl rfl rfl rfl (aH hg1 rfl rfl rfl rfl (aH hg1 rfl rfl rfl rfl ?_)))))
  refine tv (bV hg1 rfl rfl) ?_
  iterate 6 refine Tr.weak2 rfl ?_
  exact hK _ (dK hg1)
 refine tv (aC rfl) ?_
 apply aZ 12 (s := 21) (d := 33) rfl
 ·intro hg2 K hK
  refine bE hg2 rfl rfl (aC rfl) (bE hg2 rfl rfl (aC rfl) (bE hg2 rfl rfl (aM rfl) (bE hg2 rfl rfl (aI mE rfl) (bE hg2 rfl rfl (aG bB rfl (aK (List.mem_append_right _ (.head _)) (nP rfl))) (bE hg2 rfl rfl (cW rfl rfl) ?_)))))
  refine bE hg2 rfl rfl (aC rfl) ?_
  apply bH 4 (s := 28) (d := 32) rfl
  ·intro hg3 K hK
   refine bE hg3 rfl rfl (aC rfl) (bE hg3 rfl rfl (aC rfl) (bE hg3 rfl rfl (r_eqb Tryz.underlying4 rfl rfl) (bE hg2 rfl rfl (bV hg3 rfl rfl) ?_)))
   iterate 3 refine Tr.weak2 rfl ?_
   exact hK _ (dT hg3)
  ·intro hg3 K hK
   refine aH hg3 rfl rfl rfl rfl (aH hg3 rfl rfl rfl rfl (aH hg3 rfl rfl rfl rfl (bE hg2 rfl rfl (bW hg3 rfl rfl) ?_)))
   iterate 3 refine Tr.weak2 rfl ?_
   exact hK _ (dU hg3)
  refine tv (bW hg2 rfl rfl) ?_
  iterate 8 refine Tr.weak2 rfl ?_
  exact hK _ (dJ hg2)
 ·intro hg2 K hK
  refine aH hg2 rfl rfl rfl rfl (aH hg2 rfl rfl rfl rfl (aH hg2 rfl rfl rfl rfl (aH hg2 rfl rfl rfl rfl (aH hg2 rfl rfl rfl rfl (aH hg2 rfl rfl rfl rfl ?_)))))
  refine aH hg2 rfl rfl rfl rfl (bZ rfl rfl rfl (bZ rfl rfl rfl (bZ rfl rfl rfl (aH hg2 rfl rfl rfl rfl (tv (bV hg2 rfl rfl) ?_)))))
  iterate 11 refine Tr.weak2 rfl ?_
  exact hK _ (dK hg2)
 refine aF (Tr.keep (env' := [(0, _), (1, _), (2, _), (33, _)]) ⟨rfl, rfl, rfl, rfl, trivial⟩ (aB ?_))
 refine bD rfl (fun hc => ?_) (fun hc => ?_)
 ·skip
  refine aA (tv (aC rfl) (tv (aC rfl) (tv (aM rfl) (tv (aI rZ rfl) (te (bR iz_4 rfl rfl rfl (.app .zero) (.right .here) ?_))))))
  refine aF (Tr.keep (env' := [(0, _), (2, _)]) ⟨rfl, rfl, trivial⟩ (aB (aE (aA (tv (aC rfl) ?_)))))
  refine tv (aC rfl) (tv (aM rfl) (tv (aI mE rfl) (tv (aG bB rfl (aK (List.mem_append_right _ (.head _)) (nP rfl))) (tv (aC rfl) (tv (bI3 rfl rfl) ?_)))))
  refine tv (aM rfl) (tv (aI mE rfl) (te (bR eR rfl rfl rfl (.app (.succ .zero)) (.right .here) (aF (Tr.keep (env' := [(0, _)]) ⟨rfl, trivial⟩ (aB ?_))))))
  refine aA (tv (aC rfl) (tv (aM rfl) (tv (aI sB rfl) (te (bR iz_4 rfl rfl rfl (.app (.succ (.succ .zero))) (.right .here) (aF ?_))))))
  refine Tr.keep (env' := []) trivial (eV rfl (fun w hw => (⟨rfl, ?_⟩)))
  simpa [Latest.hear, Latest.cells, hc] using hw
 ·skip
  refine aO (aB (aE (aA (tv (aC rfl) (tv (aC rfl) ?_)))))
  refine tv (aM rfl) (tv (aI mE rfl) (tv (aG bB rfl (aK (List.mem_append_right _ (.head _)) (nP rfl))) (tv (aC rfl) (tv (bI3 rfl rfl) (tv (aM rfl) ?_)))))
  refine tv (aI mE rfl) (te (bR eR rfl rfl rfl (.app (.succ .zero)) (.right .here) (aF (Tr.keep (env' := [(0, _)]) ⟨rfl, trivial⟩ (aB (aA ?_))))))
  refine tv (aC rfl) (tv (aM rfl) (tv (aI sB rfl) (te (bR iz_4 rfl rfl rfl (.app (.succ (.succ .zero))) (.right .here) (aF (Tr.keep (env' := []) trivial ?_))))))
  refine eV rfl (fun w hw => (⟨rfl, ?_⟩))
  simpa [Latest.hear, Latest.cells, hc] using hw
end
end Go.Proofs.W
