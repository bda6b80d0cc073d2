/-
 What functions of the program that RallyChecks reaches do, one contract each, part 12.
-/
import Derived.Test.YtakiijkfjjmppaaGreatDoorKWK
import Derived.Test.YtakiijkfjjmppaaGreatDoorKSlB
set_option linter.unusedVariables false
set_option linter.unusedSimpArgs false
set_option linter.unusedSectionVars false
set_option maxRecDepth 100000
set_option maxHeartbeats 1000000
namespace Go.Proofs.W
open Go Go.Sl Go.RowKit Go.Proofs
attribute [local irreducible] Go.Sl.Eff
theorem aR6 : aV Tryz.prog 114 := aL Tryz.func114 (by kernel_rfl) (by kernel_rfl)
theorem zZ {l : List SItem} {k : Nat} {c : Bool} (h : ((decide (0 < (k : Int)) && !eK (IntKind.i64.wrap ((cF l k).leg - (cF l (k - 1)).leg)) 0 1) || decide (6 ≤ (cF l k).leg)) = false)
  (h2 : (((((cF l k).kind != 1) && ((cF l k).kind != 2)) || (((cF l k).kind == 1) && !eK (cF l k).target 0 1440)) || (((cF l k).kind == 2) && (((cF l k).target != 0) || (cF l k).free))) = c) : lB l k = !c := by
 unfold lB
 rw [h, ← h2]
 by_cases h1 : (cF l k).kind = 1
 ·have e : ((cF l k).kind == 1) = true := by simp [h1]
  have e2 : ((cF l k).kind == 2) = false := by simp [h1]
  have e3 : ((cF l k).kind != 1) = false := by simp [h1]
  rw [e, e2, e3]; simp
 ·by_cases h3 : (cF l k).kind = 2
  ·have e : ((cF l k).kind == 1) = false := by simp [h3]
   have e2 : ((cF l k).kind == 2) = true := by simp [h3]
   have e3 : ((cF l k).kind != 2) = false := by simp [h3]
   rw [e, e2, e3]; simp
  ·have e : ((cF l k).kind == 1) = false := by simp [h1]
   have e2 : ((cF l k).kind == 2) = false := by simp [h3]
   have e3 : ((cF l k).kind != 1) = true := by simp [h1]
   have e4 : ((cF l k).kind != 2) = true := by simp [h3]
   rw [e, e2, e3, e4]; simp
theorem aW5 (a b c : Int) : eX [a, b, c] 3 3 36000000 = (eK a 0 36000000 && eK b 0 36000000 && eK c 0 36000000) := by
 simp [eX, eK, Bool.and_assoc]
theorem aW6 (a b : Int) : eX [a, b] 2 2 1440 = (eK a 0 1440 && eK b 0 1440) := by
 simp [eX, eK, Bool.and_assoc]
section
variable {w0 : World} {M : List Ent}
theorem aZ4 {p : PlanV} {a : PlanAt} (h : p.In w0 M a) : ∀ w, Ok w0 M w → Calls Tryz.prog 47 #[.agg (p.cells a).toArray] w (fun e w' => e = .returned (.bool (eW p)) ∧ Ok w0 M w') := by
 have hbI := h.items.big
 obtain ⟨bi, oi, hA, hri⟩ : ∃ b o, (0 < p.items.length → a.I = some ⟨b, o, none⟩) ∧ ∀ j x, (p.items.map SItem.cells)[j]? = some x → ∀ k v, x[k]? = some v → Rd w0 M ⟨b, o + j * 4 + k, none⟩ v := by
  rcases Nat.eq_zero_or_pos p.items.length with h0 | h0
  ·exact ⟨0, 0, fun h1 => by omega, fun j x hx => by rw [List.eq_nil_of_length_eq_zero h0] at hx; simp at hx⟩
  ·obtain ⟨b, o, h1, h2⟩ := h.items.at' h0
   exact ⟨b, o, fun _ => h1, h2⟩
 refine enter (vs := [_]) Tryz.func47 rfl Tryz.ntmps47 rfl (aE (aA (te (cH rfl rfl fun b1 => (tv (aD rfl) (aF ?_))))))
 refine Tr.keep (env' := [(1, _)]) ⟨rfl, trivial⟩ (aB (aE (aA (tv (aI mK rfl) (tv (aY bD9 rfl (bL (n := 12) (vs := [_, _, _, _, _, _, _, _, _, _, _, _]) (.head _) rfl) rfl) ?_)))))
 refine te (bO aP3 (l := [.int .i64 0, .int .i64 0, .int .i64 0, .int .i64 0, .slice none 0 0, .bool false, .int .i64 0, .int .i64 0, .int .i64 0, .int .i64 0, .slice none 0 0, .slice none 0 0]) rfl rfl fun b3 => (te (bJ bE0 rfl rfl (vs := [_, _, _, _, _, _, _, _, _, _, _, _]) rfl rfl (by simp [Value.oneCell']) (.cons .zero (.cons (.succ .zero) (.cons (.succ (.succ .zero)) (.cons (.succ (.succ (.succ .zero))) (.cons (.succ (.succ (.succ (.succ .zero)))) (.cons (.succ (.succ (.succ (.succ (.succ .zero))))) (.cons (.succ (.succ (.succ (.succ (.succ (.succ .zero)))))) (.cons (.succ (.succ (.succ (.succ (.succ (.succ (.succ .zero))))))) (.cons (.succ (.succ (.succ (.succ (.succ (.succ (.succ (.succ .zero)))))))) (.cons (.succ (.succ (.succ (.succ (.succ (.succ (.succ (.succ (.succ .zero))))))))) (.cons (.succ (.succ (.succ (.succ (.succ (.succ (.succ (.succ (.succ (.succ .zero)))))))))) (.cons (.succ (.succ (.succ (.succ (.succ (.succ (.succ (.succ (.succ (.succ (.succ .zero))))))))))) .nil)))))))))))) .here (aF (Tr.keep (env' := [(1, _), (3, _)]) ⟨rfl, rfl, trivial⟩ (aB (aE ?_)))))))
 refine aE (aA (tv (aI cQ rfl) (tv (aG eJ rfl (aK (.tail _ (.head _)) rfl)) (tv (aP Tryz.underlying28 rfl) (te (aJ kG rfl rfl rfl rfl (fB _ _ _) ?_))))))
 refine tv (bF rfl) (tv (aC rfl) ?_)
 apply aZ 5 (s := 13) (d := 18) rfl
 ·intro hg1 K hK
  refine bE hg1 rfl rfl (aI vK rfl) (bE hg1 rfl rfl (aG bB rfl (aK (.tail _ (.head _)) rfl)) (dB hg1 rfl rfl (aJ kG rfl rfl rfl rfl (fB _ _ _) (bE hg1 rfl rfl (bF rfl) (tv (bW hg1 rfl rfl) ?_)))))
  iterate 4 refine Tr.weak2 rfl ?_
  exact hK _ (dJ hg1)
 ·intro hg1 K hK
  refine aH hg1 rfl rfl rfl rfl (aH hg1 rfl rfl rfl rfl (aH hg1 rfl rfl rfl rfl (aH hg1 rfl rfl rfl rfl (tv (bV hg1 rfl rfl) ?_))))
  iterate 4 refine Tr.weak2 rfl ?_
  exact hK _ (dK hg1)
 refine tv (aC rfl) ?_
 apply aZ 7 (s := 19) (d := 26) rfl
 ·intro hg2 K hK
  refine bE hg2 rfl rfl (aI cQ rfl) (bE hg2 rfl rfl (aG eJ rfl (aK (.tail _ (.head _)) rfl)) (bE hg2 rfl rfl (cL (0) Tryz.underlying28 eT (hA (pA hg2)) rfl rfl rfl (pA hg2)) (bE hg2 rfl rfl (aI eC rfl) ?_)))
  refine bE hg2 rfl rfl (aG bB rfl (Rd.sub (hri (0) (cF p.items (0)).cells (by rw [List.getElem?_map, itemA_at (pA hg2)]; rfl) 1 _ rfl) (.cons _ (.cons _ (.refl _))))) ?_
  refine bE hg2 rfl rfl (eF rfl rfl) (tv (bW hg2 rfl rfl) ?_)
  iterate 6 refine Tr.weak2 rfl ?_
  exact hK _ (dJ hg2)
 ·intro hg2 K hK
  refine aH hg2 rfl rfl rfl rfl (aH hg2 rfl rfl rfl rfl (aH hg2 rfl rfl rfl rfl (aH hg2 rfl rfl rfl rfl (aH hg2 rfl rfl rfl rfl (aH hg2 rfl rfl rfl rfl ?_)))))
  refine tv (bV hg2 rfl rfl) ?_
  iterate 6 refine Tr.weak2 rfl ?_
  exact hK _ (dK hg2)
 refine aF (Tr.keep (env' := [(1, _), (3, _), (26, _)]) ⟨rfl, rfl, rfl, trivial⟩ (aB ?_))
 refine bD rfl (fun hb1 => ?_) (fun hb1 => ?_)
 ·have hP1 : lV p = false := by rw [lV, hb1]; rfl
  refine aE (aA (tv (aD rfl) (aF (Tr.keep (env' := [(2, _)]) ⟨rfl, trivial⟩ (aB ?_)))))
  refine aQ (aN (aW rfl rfl (fun w hw => ?_)))
  exact ⟨by rw [show eW p = false from by simp [eW, hP1]], Ok.sub hw (.cons _ (.cons _ (.refl _)))⟩
 ·have hP1 : lV p = true := by rw [lV, hb1]; rfl
  refine aO (aB (aE (aE (aA (tv (aD rfl) ?_)))))
  refine aF (Tr.keep (env' := [(1, _), (3, _), (4, _)]) ⟨rfl, rfl, rfl, trivial⟩ (aB (aX (dW (fun k : Nat => [(1, .pointer (some ⟨b1, 0, none⟩)), (3, .pointer (some ⟨b3, 0, none⟩)), (4, .int .i64 (k : Int))]) (fun k : Nat => cel b3 31 (p.rules a) :: cel b1 33 (p.cells a) :: M) (fun k : Nat => k ≤ p.items.length ∧ ∀ j, j < k → lB p.items j = true) (fun k : Nat => p.items.length - k) 0 ⟨by omega, by omega⟩ ⟨rfl, rfl, rfl, trivial⟩ (.refl _) ?_))))
  intro K k ⟨hk, hp⟩ IH
  refine aE (aE (aA (tv (aC rfl) (tv (aI cQ rfl) (tv (aG eJ rfl (aK (.tail _ (.head _)) rfl)) ?_)))))
  refine tv (aP Tryz.underlying28 rfl) (tv (dI rfl rfl) (aF (Tr.keep (env' := [(1, _), (3, _), (4, _), (31, _)]) ⟨rfl, rfl, rfl, rfl, trivial⟩ (aB ?_))))
  refine bD rfl (fun hc1 => ?_) (fun hc1 => ?_)
  ·have hlt : k < p.items.length := by have := of_decide_eq_true hc1; omega
   have hA := hA (by omega)
   refine aO (aB (aE (aX (aE (aA ?_)))))
   refine tv (aI cQ rfl) (tv (aG eJ rfl (aK (.tail _ (.head _)) rfl)) (tv (aC rfl) (tv (cL (k) Tryz.underlying28 eT hA rfl rfl rfl hlt) ?_)))
   refine tv (cM (v2 := .agg #[.int .i64 (cF p.items (k)).kind, .int .i64 (cF p.items (k)).leg, .int .i64 (cF p.items (k)).target, .bool (cF p.items (k)).free]) (aY qK rfl (fun j v hv => Rd.sub (hri (k) (cF p.items (k)).cells (by rw [List.getElem?_map, itemA_at (hlt)]; rfl) j v hv) (.cons _ (.cons _ (.refl _)))) rfl) rfl) ?_
   refine te (bO pH (l := [.int .i64 0, .int .i64 0, .int .i64 0, .bool false]) rfl rfl fun b5 => (te (bJ eT rfl rfl (vs := [_, _, _, _]) rfl rfl (by simp [Value.oneCell']) (.cons .zero (.cons (.succ .zero) (.cons (.succ (.succ .zero)) (.cons (.succ (.succ (.succ .zero))) .nil)))) .here (aF (Tr.keep (env' := [(1, _), (3, _), (4, _), (5, _)]) ⟨rfl, rfl, rfl, rfl, trivial⟩ (aB (aE ?_)))))))
   refine aE (Tr.keep (env' := [(1, _), (3, _), (4, _), (5, _)]) ⟨rfl, rfl, rfl, rfl, trivial⟩ ?_)
   refine mG [(59, .bool ((decide (0 < (k : Int)) && !eK (IntKind.i64.wrap ((cF p.items k).leg - (cF p.items (k - 1)).leg)) 0 1) || decide (6 ≤ (cF p.items k).leg)))] (fun K hK => ?_) ?_
   ·skip
    refine cI cK rfl (dv 0 rfl (.refl _) (aC rfl) (dv 1 rfl (.refl _) (fC rfl rfl) (dv 2 rfl (.refl _) (aC rfl) ?_)))
    refine dN (s := 41) rfl (fun hd5 => ?_) (fun hd5 => ?_)
    ·skip
     refine dS 3 hd5 rfl (.refl _) rfl rfl (aI eC rfl) (dS 4 hd5 rfl (.refl _) rfl rfl (aG bB rfl (aK (.head _) rfl)) (dS 5 hd5 rfl (.refl _) rfl rfl (aI cQ rfl) (dS 6 hd5 rfl (.refl _) rfl rfl (aG eJ rfl (aK (.tail _ (.tail _ (.head _))) rfl)) (dS 7 hd5 rfl (.refl _) rfl rfl (aC rfl) (dS 8 hd5 rfl (.refl _) rfl rfl (cP rfl rfl (by omega)) ?_)))))
     refine dS 9 hd5 rfl (.refl _) rfl rfl (cL (k - 1) Tryz.underlying28 eT hA rfl rfl (by have := of_decide_eq_true ‹decide (0 < (k : Int)) = true›; omega) (by omega)) (dS 10 hd5 rfl (.refl _) rfl rfl (aI eC rfl) ?_)
     refine dS 11 hd5 rfl (.refl _) rfl rfl (aG bB rfl (Rd.sub (hri (k - 1) (cF p.items (k - 1)).cells (by rw [List.getElem?_map, itemA_at (by omega)]; rfl) 1 _ rfl) (.cons _ (.cons _ (.cons _ (.refl _)))))) ?_
     refine dS 12 hd5 rfl (.refl _) rfl rfl (xN rfl rfl) (tR 13 hd5 rfl (by kernel_rfl) rfl rfl (aJ kG rfl rfl rfl rfl (fB _ _ _) (aU (.refl _) (dS 14 hd5 rfl (.refl _) rfl rfl (bF rfl) (dv 15 rfl (.refl _) (bV hd5 rfl rfl) (dv 16 rfl (.refl _) (aC rfl) ?_))))))
     refine dN (s := 55) rfl (fun hd6 => ?_) (fun hd6 => ?_)
     ·skip
      refine dR 17 hd6 rfl (.refl _) rfl rfl (dR 18 hd6 rfl (.refl _) rfl rfl (dR 19 hd6 rfl (.refl _) rfl rfl (dv 20 rfl (.refl _) (bV hd6 rfl rfl) (bQ (by kernel_rfl) ?_))))
      exact dF hK ⟨(by first | (simp [dM.get, hd5, hd6]; done) | exact absurd hd5 (by decide) | exact absurd hd6 (by decide) | (simp_all [dM.get]; done)), rfl, rfl, rfl, rfl, trivial⟩ (.refl _)
     ·skip
      refine dS 17 hd6 rfl (.refl _) rfl rfl (aI eC rfl) (dS 18 hd6 rfl (.refl _) rfl rfl (aG bB rfl (aK (.head _) rfl)) (dS 19 hd6 rfl (.refl _) rfl rfl (fI rfl rfl) (dv 20 rfl (.refl _) (bW hd6 rfl rfl) (bQ (by kernel_rfl) ?_))))
      exact dF hK ⟨(by first | (simp [dM.get, hd5, hd6]; done) | exact absurd hd5 (by decide) | exact absurd hd6 (by decide) | (simp_all [dM.get]; done)), rfl, rfl, rfl, rfl, trivial⟩ (.refl _)
    ·skip
     refine dR 3 hd5 rfl (.refl _) rfl rfl (dR 4 hd5 rfl (.refl _) rfl rfl (dR 5 hd5 rfl (.refl _) rfl rfl (dR 6 hd5 rfl (.refl _) rfl rfl (dR 7 hd5 rfl (.refl _) rfl rfl (dR 8 hd5 rfl (.refl _) rfl rfl ?_)))))
     refine dR 9 hd5 rfl (.refl _) rfl rfl (dR 10 hd5 rfl (.refl _) rfl rfl (dR 11 hd5 rfl (.refl _) rfl rfl (dR 12 hd5 rfl (.refl _) rfl rfl (dR 13 hd5 rfl (.refl _) rfl rfl (dR 14 hd5 rfl (.refl _) rfl rfl ?_)))))
     refine dv 15 rfl (.refl _) (bW hd5 rfl rfl) (dv 16 rfl (.refl _) (aC rfl) (eI 17 rfl (.refl _) rfl rfl (aI eC rfl) (eI 18 rfl (.refl _) rfl rfl (aG bB rfl (aK (.head _) rfl)) (eI 19 rfl (.refl _) rfl rfl (fI rfl rfl) (dv 20 rfl (.refl _) (bS rfl rfl) ?_)))))
     refine bQ (by kernel_rfl) ?_
     exact dF hK ⟨(by first | (simp [dM.get, hd5]; done) | exact absurd hd5 (by decide) | (simp_all [dM.get]; done)), rfl, rfl, rfl, rfl, trivial⟩ (.refl _)
   refine Tr.keep (env' := [(1, _), (3, _), (4, _), (5, _), (59, _)]) ⟨rfl, rfl, rfl, rfl, rfl, trivial⟩ (aB ?_)
   refine bD rfl (fun hb2 => ?_) (fun hb2 => ?_)
   ·skip
    refine aE (aA (tv (aD rfl) (aF (Tr.keep (env' := [(2, _)]) ⟨rfl, trivial⟩ (aB ?_)))))
    refine aQ (aN (bM (aN (aN (bM ?_)))))
    refine aN (aW rfl rfl (fun w hw => ?_))
    exact ⟨by rw [show eW p = false from lP hlt (aU8 hb2)], Ok.sub hw (.cons _ (.cons _ (.cons _ (.refl _))))⟩
   ·skip
    refine aO (aB (aE (aA (tv (aI gC rfl) (tv (aG jR rfl (aK (.head _) rfl)) ?_)))))
    refine tv (eF rfl rfl) (tv (aC rfl) ?_)
    apply bH 4 (s := 63) (d := 67) rfl
    ·intro hg8 K hK
     refine bE hg8 rfl rfl (aI gC rfl) (bE hg8 rfl rfl (aG jR rfl (aK (.head _) rfl)) (bE hg8 rfl rfl (eF rfl rfl) (tv (bV hg8 rfl rfl) ?_)))
     iterate 3 refine Tr.weak2 rfl ?_
     exact hK _ (dT hg8)
    ·intro hg8 K hK
     refine aH hg8 rfl rfl rfl rfl (aH hg8 rfl rfl rfl rfl (aH hg8 rfl rfl rfl rfl (tv (bW hg8 rfl rfl) ?_)))
     iterate 3 refine Tr.weak2 rfl ?_
     exact hK _ (dU hg8)
    refine tv (aC rfl) ?_
    apply aZ 10 (s := 68) (d := 78) rfl
    ·intro hg9 K hK
     refine bE hg9 rfl rfl (aI gC rfl) (bE hg9 rfl rfl (aG jR rfl (aK (.head _) rfl)) (bE hg9 rfl rfl (cW rfl rfl) (bE hg9 rfl rfl (aC rfl) ?_)))
     apply bH 5 (s := 72) (d := 77) rfl
     ·intro hg10 K hK
      refine bE hg10 rfl rfl (aI lX rfl) (bE hg10 rfl rfl (aG bB rfl (aK (.head _) rfl)) (dB hg10 rfl rfl (aJ kG rfl rfl rfl rfl (fB _ _ _) (bE hg10 rfl rfl (bF rfl) (bE hg9 rfl rfl (bV hg10 rfl rfl) ?_)))))
      iterate 4 refine Tr.weak2 rfl ?_
      exact hK _ (dT hg10)
     ·intro hg10 K hK
      refine aH hg10 rfl rfl rfl rfl (aH hg10 rfl rfl rfl rfl (aH hg10 rfl rfl rfl rfl (aH hg10 rfl rfl rfl rfl (bE hg9 rfl rfl (bW hg10 rfl rfl) ?_))))
      iterate 4 refine Tr.weak2 rfl ?_
      exact hK _ (dU hg10)
     refine tv (bW hg9 rfl rfl) ?_
     iterate 5 refine Tr.weak2 rfl ?_
     exact hK _ (dJ hg9)
    ·intro hg9 K hK
     refine aH hg9 rfl rfl rfl rfl (aH hg9 rfl rfl rfl rfl (aH hg9 rfl rfl rfl rfl (aH hg9 rfl rfl rfl rfl (bZ rfl rfl rfl (bZ rfl rfl rfl ?_)))))
     refine bZ rfl rfl rfl (bZ rfl rfl rfl (aH hg9 rfl rfl rfl rfl (tv (bV hg9 rfl rfl) ?_)))
     iterate 9 refine Tr.weak2 rfl ?_
     exact hK _ (dK hg9)
    refine tv (aC rfl) ?_
    apply aZ 13 (s := 79) (d := 92) rfl
    ·intro hg11 K hK
     refine bE hg11 rfl rfl (aI gC rfl) (bE hg11 rfl rfl (aG jR rfl (aK (.head _) rfl)) (bE hg11 rfl rfl (cW rfl rfl) (bE hg11 rfl rfl (aC rfl) ?_)))
     apply bH 8 (s := 83) (d := 91) rfl
     ·intro hg12 K hK
      refine bE hg12 rfl rfl (aI lX rfl) (bE hg12 rfl rfl (aG bB rfl (aK (.head _) rfl)) (bE hg12 rfl rfl (eF rfl rfl) (bE hg12 rfl rfl (aC rfl) ?_)))
      apply aZ 3 (s := 87) (d := 90) rfl
      ·intro hg13 K hK
       refine bE hg13 rfl rfl (aI wE rfl) (bE hg13 rfl rfl (aG pK rfl (aK (.head _) rfl)) (bE hg12 rfl rfl (bW hg13 rfl rfl) ?_))
       iterate 2 refine Tr.weak2 rfl ?_
       exact hK _ (dJ hg13)
      ·intro hg13 K hK
       refine aH hg13 rfl rfl rfl rfl (aH hg13 rfl rfl rfl rfl (bE hg12 rfl rfl (bV hg13 rfl rfl) ?_))
       iterate 2 refine Tr.weak2 rfl ?_
       exact hK _ (dK hg13)
      refine bE hg11 rfl rfl (bV hg12 rfl rfl) ?_
      iterate 5 refine Tr.weak2 rfl ?_
      exact hK _ (dT hg12)
     ·intro hg12 K hK
      refine aH hg12 rfl rfl rfl rfl (aH hg12 rfl rfl rfl rfl (aH hg12 rfl rfl rfl rfl (aH hg12 rfl rfl rfl rfl (bZ rfl rfl rfl (bZ rfl rfl rfl ?_)))))
      refine aH hg12 rfl rfl rfl rfl (bE hg11 rfl rfl (bW hg12 rfl rfl) ?_)
      iterate 7 refine Tr.weak2 rfl ?_
      exact hK _ (dU hg12)
     refine tv (bW hg11 rfl rfl) ?_
     iterate 5 refine Tr.weak2 rfl ?_
     exact hK _ (dJ hg11)
    ·intro hg11 K hK
     refine aH hg11 rfl rfl rfl rfl (aH hg11 rfl rfl rfl rfl (aH hg11 rfl rfl rfl rfl (aH hg11 rfl rfl rfl rfl (bZ rfl rfl rfl (bZ rfl rfl rfl ?_)))))
     refine bZ rfl rfl rfl (bZ rfl rfl rfl (bZ rfl rfl rfl (bZ rfl rfl rfl (bZ rfl rfl rfl (aH hg11 rfl rfl rfl rfl ?_)))))
     refine tv (bV hg11 rfl rfl) ?_
     iterate 12 refine Tr.weak2 rfl ?_
     exact hK _ (dK hg11)
    refine aF (Tr.keep (env' := [(1, _), (3, _), (4, _), (92, _)]) ⟨rfl, rfl, rfl, rfl, trivial⟩ (aB ?_))
    refine bD rfl (fun hb3 => ?_) (fun hb3 => ?_)
    ·skip
     refine aE (aA (tv (aD rfl) (aF (Tr.keep (env' := [(2, _)]) ⟨rfl, trivial⟩ (aB ?_)))))
     refine aQ (bM (aN (aN (bM (aN ?_)))))
     refine aW rfl rfl (fun w hw => ?_)
     exact ⟨by rw [show eW p = false from lP hlt (zZ hb2 hb3)], Ok.sub hw (.cons _ (.cons _ (.cons _ (.refl _))))⟩
    ·skip
     refine aO (cX (aB (aA (tv (aC rfl) (tv (cC rfl rfl (by omega)) ?_)))))
     refine tv (aD rfl) (aF (Tr.keep (env' := [(1, _), (3, _), (4, _)]) ⟨rfl, rfl, rfl, trivial⟩ (aB (nD (IH (k + 1) ⟨by omega, fun j hj => ?_⟩ (by omega)) ⟨rfl, rfl, rfl, trivial⟩ (.cons _ (.refl _))))))
     rcases Nat.lt_or_ge j k with h8 | h8
     ·exact hp j h8
     ·obtain rfl : j = k := by omega
      exact zZ hb2 hb3
  ·have h9 : ¬ k < p.items.length := by have := of_decide_eq_false hc1; omega
   refine cY (aS (aS (bX (aB (aE ?_)))))
   refine aE (aA (tv (aI aC8 rfl) (tv (aG bB rfl (aK (.head _) rfl)) (te (aJ kG rfl rfl rfl rfl (fB _ _ _) (tv (bF rfl) ?_))))))
   refine tv (aC rfl) ?_
   apply aZ 5 (s := 97) (d := 102) rfl
   ·intro hg15 K hK
    refine bE hg15 rfl rfl (aI aC9 rfl) (bE hg15 rfl rfl (aG bB rfl (aK (.head _) rfl)) (dB hg15 rfl rfl (aJ kG rfl rfl rfl rfl (fB _ _ _) (bE hg15 rfl rfl (bF rfl) (tv (bW hg15 rfl rfl) ?_)))))
    iterate 4 refine Tr.weak2 rfl ?_
    exact hK _ (dJ hg15)
   ·intro hg15 K hK
    refine aH hg15 rfl rfl rfl rfl (aH hg15 rfl rfl rfl rfl (aH hg15 rfl rfl rfl rfl (aH hg15 rfl rfl rfl rfl (tv (bV hg15 rfl rfl) ?_))))
    iterate 4 refine Tr.weak2 rfl ?_
    exact hK _ (dK hg15)
   refine tv (aC rfl) ?_
   apply aZ 5 (s := 103) (d := 108) rfl
   ·intro hg16 K hK
    refine bE hg16 rfl rfl (aI aD2 rfl) (bE hg16 rfl rfl (aG bB rfl (aK (.head _) rfl)) (dB hg16 rfl rfl (aJ kG rfl rfl rfl rfl (fB _ _ _) (bE hg16 rfl rfl (bF rfl) (tv (bW hg16 rfl rfl) ?_)))))
    iterate 4 refine Tr.weak2 rfl ?_
    exact hK _ (dJ hg16)
   ·intro hg16 K hK
    refine aH hg16 rfl rfl rfl rfl (aH hg16 rfl rfl rfl rfl (aH hg16 rfl rfl rfl rfl (aH hg16 rfl rfl rfl rfl (tv (bV hg16 rfl rfl) ?_))))
    iterate 4 refine Tr.weak2 rfl ?_
    exact hK _ (dK hg16)
   refine tv (aC rfl) ?_
   apply aZ 5 (s := 109) (d := 114) rfl
   ·intro hg17 K hK
    refine bE hg17 rfl rfl (aI aD0 rfl) (bE hg17 rfl rfl (aG bB rfl (aK (.head _) rfl)) (dB hg17 rfl rfl (aJ kG rfl rfl rfl rfl (fB _ _ _) (bE hg17 rfl rfl (bF rfl) (tv (bW hg17 rfl rfl) ?_)))))
    iterate 4 refine Tr.weak2 rfl ?_
    exact hK _ (dJ hg17)
   ·intro hg17 K hK
    refine aH hg17 rfl rfl rfl rfl (aH hg17 rfl rfl rfl rfl (aH hg17 rfl rfl rfl rfl (aH hg17 rfl rfl rfl rfl (tv (bV hg17 rfl rfl) ?_))))
    iterate 4 refine Tr.weak2 rfl ?_
    exact hK _ (dK hg17)
   refine tv (aC rfl) ?_
   apply aZ 5 (s := 115) (d := 120) rfl
   ·intro hg18 K hK
    refine bE hg18 rfl rfl (aI aD1 rfl) (bE hg18 rfl rfl (aG bB rfl (aK (.head _) rfl)) (dB hg18 rfl rfl (aJ kG rfl rfl rfl rfl (fB _ _ _) (bE hg18 rfl rfl (bF rfl) (tv (bW hg18 rfl rfl) ?_)))))
    iterate 4 refine Tr.weak2 rfl ?_
    exact hK _ (dJ hg18)
   ·intro hg18 K hK
    refine aH hg18 rfl rfl rfl rfl (aH hg18 rfl rfl rfl rfl (aH hg18 rfl rfl rfl rfl (aH hg18 rfl rfl rfl rfl (tv (bV hg18 rfl rfl) ?_))))
    iterate 4 refine Tr.weak2 rfl ?_
    exact hK _ (dK hg18)
   refine tv (aC rfl) ?_
   apply aZ 5 (s := 121) (d := 126) rfl
   ·intro hg19 K hK
    refine bE hg19 rfl rfl (aI mJ rfl) (bE hg19 rfl rfl (aG dQ rfl (aK (.head _) rfl)) (dB hg19 rfl rfl (aJ aR6 rfl rfl rfl rfl (yP (h.jumps.sub (.cons _ (.cons _ (.refl _)))) _ _ _) (bE hg19 rfl rfl (bF rfl) (tv (bW hg19 rfl rfl) ?_)))))
    iterate 4 refine Tr.weak2 rfl ?_
    exact hK _ (dJ hg19)
   ·intro hg19 K hK
    refine aH hg19 rfl rfl rfl rfl (aH hg19 rfl rfl rfl rfl (aH hg19 rfl rfl rfl rfl (aH hg19 rfl rfl rfl rfl (tv (bV hg19 rfl rfl) ?_))))
    iterate 4 refine Tr.weak2 rfl ?_
    exact hK _ (dK hg19)
   refine aF (Tr.keep (env' := [(1, _), (3, _), (126, _)]) ⟨rfl, rfl, rfl, trivial⟩ (aB ?_))
   refine bD rfl (fun hb5 => ?_) (fun hb5 => ?_)
   ·skip
    refine aE (aA (tv (aD rfl) (aF (Tr.keep (env' := [(2, _)]) ⟨rfl, trivial⟩ (aB ?_)))))
    refine aQ (aN (aW rfl rfl (fun w hw => ?_)))
    exact ⟨by rw [show eW p = false from by
     have h9 : oK p = false := by
      rw [oK, aW5, aW6]; revert hb5; generalize eK p.late 0 36000000 = x1; generalize eK p.early 0 36000000 = x2; generalize eK p.missed 0 36000000 = x3; generalize eK p.maxLate 0 1440 = x4; generalize eK p.legLate 0 1440 = x5; generalize eX p.jumps 1 10 36000000 = x6; revert x1 x2 x3 x4 x5 x6; decide
     simp [eW, h9]], Ok.sub hw (.cons _ (.cons _ (.refl _)))⟩
   ·skip
    refine aO (aB (aE (aE (aA (tv (aI pC rfl) ?_)))))
    refine tv (aG zT rfl (aK (.head _) rfl)) (tv (dI rfl rfl) (tv (aC rfl) ?_))
    apply aZ 4 (s := 130) (d := 134) rfl
    ·intro hg21 K hK
     refine bE hg21 rfl rfl (aI pC rfl) (bE hg21 rfl rfl (aG zT rfl (aK (.head _) rfl)) (bE hg21 rfl rfl (fC rfl rfl) (tv (bW hg21 rfl rfl) ?_)))
     iterate 3 refine Tr.weak2 rfl ?_
     exact hK _ (dJ hg21)
    ·intro hg21 K hK
     refine aH hg21 rfl rfl rfl rfl (aH hg21 rfl rfl rfl rfl (aH hg21 rfl rfl rfl rfl (tv (bV hg21 rfl rfl) ?_)))
     iterate 3 refine Tr.weak2 rfl ?_
     exact hK _ (dK hg21)
    refine tv (aC rfl) ?_
    apply aZ 5 (s := 135) (d := 140) rfl
    ·intro hg22 K hK
     refine bE hg22 rfl rfl (aI aD3 rfl) (bE hg22 rfl rfl (aG bB rfl (aK (.head _) rfl)) (dB hg22 rfl rfl (aJ kG rfl rfl rfl rfl (fB _ _ _) (bE hg22 rfl rfl (bF rfl) (tv (bW hg22 rfl rfl) ?_)))))
     iterate 4 refine Tr.weak2 rfl ?_
     exact hK _ (dJ hg22)
    ·intro hg22 K hK
     refine aH hg22 rfl rfl rfl rfl (aH hg22 rfl rfl rfl rfl (aH hg22 rfl rfl rfl rfl (aH hg22 rfl rfl rfl rfl (tv (bV hg22 rfl rfl) ?_))))
     iterate 4 refine Tr.weak2 rfl ?_
     exact hK _ (dK hg22)
    refine tv (aC rfl) ?_
    apply aZ 9 (s := 141) (d := 150) rfl
    ·intro hg23 K hK
     refine bE hg23 rfl rfl (aI lI rfl) (bE hg23 rfl rfl (aG bB rfl (aK (.head _) rfl)) (bE hg23 rfl rfl (aI cQ rfl) (bE hg23 rfl rfl (aG eJ rfl (aK (.tail _ (.head _)) rfl)) (bE hg23 rfl rfl (aP Tryz.underlying28 rfl) (bE hg23 rfl rfl (cP rfl rfl (by omega)) ?_)))))
     refine dB hg23 rfl rfl (aJ kG rfl rfl rfl rfl (fB _ _ _) (bE hg23 rfl rfl (bF rfl) (tv (bW hg23 rfl rfl) ?_)))
     iterate 8 refine Tr.weak2 rfl ?_
     exact hK _ (dJ hg23)
    ·intro hg23 K hK
     refine aH hg23 rfl rfl rfl rfl (aH hg23 rfl rfl rfl rfl (aH hg23 rfl rfl rfl rfl (aH hg23 rfl rfl rfl rfl (aH hg23 rfl rfl rfl rfl (aH hg23 rfl rfl rfl rfl ?_)))))
     refine aH hg23 rfl rfl rfl rfl (aH hg23 rfl rfl rfl rfl (tv (bV hg23 rfl rfl) ?_))
     iterate 8 refine Tr.weak2 rfl ?_
     exact hK _ (dK hg23)
    refine tv (aC rfl) ?_
    apply aZ 14 (s := 151) (d := 165) rfl
    ·intro hg24 K hK
     refine bE hg24 rfl rfl (aI lI rfl) (bE hg24 rfl rfl (aG bB rfl (aK (.head _) rfl)) (bE hg24 rfl rfl (fI rfl rfl) (bE hg24 rfl rfl (aC rfl) ?_)))
     apply bH 9 (s := 155) (d := 164) rfl
     ·intro hg25 K hK
      refine bE hg25 rfl rfl (aI cQ rfl) (bE hg25 rfl rfl (aG eJ rfl (aK (.tail _ (.head _)) rfl)) (bE hg25 rfl rfl (aI lI rfl) (bE hg25 rfl rfl (aG bB rfl (aK (.head _) rfl)) (bE hg25 rfl rfl (cL (p.power.toNat) Tryz.underlying28 eT (hA (oJ (Bool.or_eq_false_iff.1 ‹((((decide (p.notional < 1) || decide (4 < p.notional)) || !eK p.percent 100 1000) || !eK p.power (-1) ((p.items.length : Int) - 1))) = false›).2 ‹decide (0 ≤ p.power) = true›).2.2) rfl rfl (oJ (Bool.or_eq_false_iff.1 ‹((((decide (p.notional < 1) || decide (4 < p.notional)) || !eK p.percent 100 1000) || !eK p.power (-1) ((p.items.length : Int) - 1))) = false›).2 ‹decide (0 ≤ p.power) = true›).2.1 (oJ (Bool.or_eq_false_iff.1 ‹((((decide (p.notional < 1) || decide (4 < p.notional)) || !eK p.percent 100 1000) || !eK p.power (-1) ((p.items.length : Int) - 1))) = false›).2 ‹decide (0 ≤ p.power) = true›).1) (bE hg25 rfl rfl (aI gC rfl) ?_)))))
      refine bE hg25 rfl rfl (aG jR rfl (Rd.sub (hri (p.power.toNat) (cF p.items (p.power.toNat)).cells (by rw [List.getElem?_map, itemA_at ((oJ (Bool.or_eq_false_iff.1 ‹((((decide (p.notional < 1) || decide (4 < p.notional)) || !eK p.percent 100 1000) || !eK p.power (-1) ((p.items.length : Int) - 1))) = false›).2 ‹decide (0 ≤ p.power) = true›).1)]; rfl) 0 _ rfl) (.cons _ (.cons _ (.refl _))))) ?_
      refine bE hg25 rfl rfl (eF rfl rfl) (bE hg24 rfl rfl (bV hg25 rfl rfl) ?_)
      iterate 8 refine Tr.weak2 rfl ?_
      exact hK _ (dT hg25)
     ·intro hg25 K hK
      refine aH hg25 rfl rfl rfl rfl (aH hg25 rfl rfl rfl rfl (aH hg25 rfl rfl rfl rfl (aH hg25 rfl rfl rfl rfl (aH hg25 rfl rfl rfl rfl (aH hg25 rfl rfl rfl rfl ?_)))))
      refine aH hg25 rfl rfl rfl rfl (aH hg25 rfl rfl rfl rfl (bE hg24 rfl rfl (bW hg25 rfl rfl) ?_))
      iterate 8 refine Tr.weak2 rfl ?_
      exact hK _ (dU hg25)
     refine tv (bW hg24 rfl rfl) ?_
     iterate 5 refine Tr.weak2 rfl ?_
     exact hK _ (dJ hg24)
    ·intro hg24 K hK
     refine aH hg24 rfl rfl rfl rfl (aH hg24 rfl rfl rfl rfl (aH hg24 rfl rfl rfl rfl (aH hg24 rfl rfl rfl rfl (bZ rfl rfl rfl (bZ rfl rfl rfl ?_)))))
     refine bZ rfl rfl rfl (bZ rfl rfl rfl (bZ rfl rfl rfl (bZ rfl rfl rfl (bZ rfl rfl rfl (bZ rfl rfl rfl ?_)))))
     refine aH hg24 rfl rfl rfl rfl (tv (bV hg24 rfl rfl) ?_)
     iterate 13 refine Tr.weak2 rfl ?_
     exact hK _ (dK hg24)
    refine aF (Tr.keep (env' := [(3, _), (165, _)]) ⟨rfl, rfl, trivial⟩ (aB ?_))
    refine bD rfl (fun hb6 => ?_) (fun hb6 => ?_)
    ·skip
     refine aE (aA (tv (aD rfl) (aF (Tr.keep (env' := [(2, _)]) ⟨rfl, trivial⟩ (aB ?_)))))
     refine aQ (aN (aW rfl rfl (fun w hw => ?_)))
     exact ⟨by rw [show eW p = false from by
      have h9 : (oL p && qC p) = false := by
       unfold oL qC; revert hb6; generalize decide (p.notional < 1) = x1; generalize decide (4 < p.notional) = x2; generalize eK p.percent 100 1000 = x3; generalize eX p.points 0 60 1000 = x4; generalize eX p.extra 0 60 1000 = x5; generalize eK p.power (-1) ((p.items.length : Int) - 1) = x6; generalize (decide (0 ≤ p.power) && ((cF p.items p.power.toNat).kind != 2)) = x7; revert x1 x2 x3 x4 x5 x6 x7; decide
      rw [eW, Bool.and_assoc, h9, Bool.and_false]], Ok.sub hw (.cons _ (.cons _ (.refl _)))⟩
    ·skip
     refine aO (aB (aE (aA (tv (aI kQ rfl) (tv (aG dQ rfl (aK (.head _) rfl)) ?_)))))
     refine te (aJ aR6 rfl rfl rfl rfl (yP (h.points.sub (.cons _ (.cons _ (.refl _)))) _ _ _) (tv (aC rfl) ?_))
     apply bH 4 (s := 169) (d := 173) rfl
     ·intro hg27 K hK
      refine bE hg27 rfl rfl (aI kR rfl) (bE hg27 rfl rfl (aG dQ rfl (aK (.head _) rfl)) (dB hg27 rfl rfl (aJ aR6 rfl rfl rfl rfl (yP (h.extra.sub (.cons _ (.cons _ (.refl _)))) _ _ _) (tv (bV hg27 rfl rfl) ?_))))
      iterate 3 refine Tr.weak2 rfl ?_
      exact hK _ (dT hg27)
     ·intro hg27 K hK
      refine aH hg27 rfl rfl rfl rfl (aH hg27 rfl rfl rfl rfl (aH hg27 rfl rfl rfl rfl (tv (bW hg27 rfl rfl) ?_)))
      iterate 3 refine Tr.weak2 rfl ?_
      exact hK _ (dU hg27)
     refine tv (aD rfl) (aF (Tr.keep (env' := [(2, _)]) ⟨rfl, trivial⟩ (aB (aQ (aW rfl rfl (fun w hw => ?_))))))
     have hP2 : qB p = true := wB (fun j hj => hp j (by omega))
     have hP3 : oK p = true := by
      rw [oK, aW5, aW6]; revert hb5; generalize eK p.late 0 36000000 = x1; generalize eK p.early 0 36000000 = x2; generalize eK p.missed 0 36000000 = x3; generalize eK p.maxLate 0 1440 = x4; generalize eK p.legLate 0 1440 = x5; generalize eX p.jumps 1 10 36000000 = x6; revert x1 x2 x3 x4 x5 x6; decide
     have hP45 : (oL p && qC p) = (eX p.points 0 60 1000 && eX p.extra 0 60 1000) := by
      unfold oL qC; revert hb6; generalize decide (p.notional < 1) = x1; generalize decide (4 < p.notional) = x2; generalize eK p.percent 100 1000 = x3; generalize eX p.points 0 60 1000 = x4; generalize eX p.extra 0 60 1000 = x5; generalize eK p.power (-1) ((p.items.length : Int) - 1) = x6; generalize (decide (0 ≤ p.power) && ((cF p.items p.power.toNat).kind != 2)) = x7; revert x1 x2 x3 x4 x5 x6 x7; decide
     exact ⟨by rw [show eW p = (eX p.points 0 60 1000 && eX p.extra 0 60 1000) from by rw [← hP45, eW, hP1, hP2, hP3]; rfl], Ok.sub hw (.cons _ (.cons _ (.refl _)))⟩
theorem nC {p : PlanV} {a : PlanAt} {nl : Nat} (h : p.In w0 M a) (hpos : 0 < p.items.length) (hnl : (cF p.items (p.items.length - 1)).leg + 1 = (nl : Int)) (h6 : nl ≤ 1000) : ∀ w, Ok w0 M w → Calls Tryz.prog 61 #[.agg (p.cells a).toArray] w (fun e w' => e = .returned (.int .i64 (nl : Int)) ∧ Ok w0 M w') := by
 have hbI := h.items.big
 obtain ⟨bi, oi, hA, hri⟩ : ∃ b o, (0 < p.items.length → a.I = some ⟨b, o, none⟩) ∧ ∀ j x, (p.items.map SItem.cells)[j]? = some x → ∀ k v, x[k]? = some v → Rd w0 M ⟨b, o + j * 4 + k, none⟩ v := by
  rcases Nat.eq_zero_or_pos p.items.length with h0 | h0
  ·exact ⟨0, 0, fun h1 => by omega, fun j x hx => by rw [List.eq_nil_of_length_eq_zero h0] at hx; simp at hx⟩
  ·obtain ⟨b, o, h1, h2⟩ := h.items.at' h0
   exact ⟨b, o, fun _ => h1, h2⟩
 refine enter (vs := [_]) Tryz.func61 rfl Tryz.ntmps61 rfl (aE (aA (te (cH rfl rfl fun b1 => (tv (aD rfl) (aF ?_))))))
 refine Tr.keep (env' := [(1, _)]) ⟨rfl, trivial⟩ (aB (aE (aA (tv (aI cQ rfl) (tv (aG eJ rfl (aK (.head _) rfl)) ?_)))))
 refine tv (aI cQ rfl) (tv (aG eJ rfl (aK (.head _) rfl)) (tv (aP Tryz.underlying28 rfl) (tv (cP rfl rfl (by omega)) (tv (cL (p.items.length - 1) Tryz.underlying28 eT (hA hpos) rfl rfl (by omega) (by omega)) (tv (aI eC rfl) ?_)))))
 refine tv (aG bB rfl (Rd.sub (hri (p.items.length - 1) (cF p.items (p.items.length - 1)).cells (by rw [List.getElem?_map, itemA_at (by omega)]; rfl) 1 _ rfl) (.cons _ (.refl _)))) ?_
 refine tv (cC rfl rfl (by omega)) (tv (aD rfl) (aF (Tr.keep (env' := [(2, _)]) ⟨rfl, trivial⟩ (aB (aQ ?_)))))
 refine aW rfl rfl (fun w hw => ?_)
 exact ⟨by rw [hnl], Ok.sub hw (.cons _ (.refl _))⟩
end
end Go.Proofs.W
set_option linter.unusedVariables false
set_option linter.unusedSimpArgs false
set_option linter.unusedSectionVars false
set_option maxRecDepth 100000
namespace Go.Proofs.W
open Go Go.Sl Go.RowKit Go.Proofs
attribute [local irreducible] Go.Sl.Eff
theorem nO : aV Tryz.prog 115 := aL Tryz.func115 (by kernel_rfl) (by kernel_rfl)
theorem en_45 : aV Tryz.prog 45 := aL Tryz.func45 (by kernel_rfl) (by kernel_rfl)
theorem en_46 : aV Tryz.prog 46 := aL Tryz.func46 (by kernel_rfl) (by kernel_rfl)
theorem en_47 : aV Tryz.prog 47 := aL Tryz.func47 (by kernel_rfl) (by kernel_rfl)
theorem en_48 : aV Tryz.prog 48 := aL Tryz.func48 (by kernel_rfl) (by kernel_rfl)
theorem xJ (l : List ArtV) (k : Nat) : sZ l k = (decide ((dZ l k).number < (dZ l (k - 1)).number) || (((dZ l k).number == (dZ l (k - 1)).number) && decide ((dZ l k).frm ≤ (dZ l (k - 1)).frm))) := by
 unfold sZ
 simp only [orI, iO]
 by_cases h1 : (dZ l k).number < (dZ l (k - 1)).number
 ·have e1 : ¬ (dZ l (k - 1)).number < (dZ l k).number := by omega
  simp [h1, e1]
 ·by_cases h2 : (dZ l (k - 1)).number < (dZ l k).number
  ·have e1 : ¬ (dZ l k).number = (dZ l (k - 1)).number := by omega
   simp [h1, h2, e1]
  ·have e1 : (dZ l k).number = (dZ l (k - 1)).number := by omega
   by_cases h3 : (dZ l k).frm < (dZ l (k - 1)).frm
   ·have e2 : ¬ (dZ l (k - 1)).frm < (dZ l k).frm := by omega
    have e3 : (dZ l k).frm ≤ (dZ l (k - 1)).frm := by omega
    simp [e1, h3, e2, e3]
   ·by_cases h4 : (dZ l (k - 1)).frm < (dZ l k).frm
    ·have e3 : ¬ (dZ l k).frm ≤ (dZ l (k - 1)).frm := by omega
     simp [e1, h4, e3]
    ·have e3 : (dZ l k).frm = (dZ l (k - 1)).frm := by omega
     simp [e1, e3]
section
variable {w0 : World} {M : List Ent}
theorem aZ5 {p : CodeV} {A : Option Addr} {c : Nat} (h : SlRd w0 M 4 A p.arts.length (p.arts.map ArtV.cells)) : ∀ w, Ok w0 M w → Calls Tryz.prog 48 #[.agg (p.cells A c).toArray] w (fun e w' => e = .returned (.bool (eP p)) ∧ Ok w0 M w') := by
 have hbI := h.big
 obtain ⟨bi, oi, hA, hri⟩ : ∃ b o, (0 < p.arts.length → A = some ⟨b, o, none⟩) ∧ ∀ j x, (p.arts.map ArtV.cells)[j]? = some x → ∀ k v, x[k]? = some v → Rd w0 M ⟨b, o + j * 4 + k, none⟩ v := by
  rcases Nat.eq_zero_or_pos p.arts.length with h0 | h0
  ·exact ⟨0, 0, fun h1 => by omega, fun j x hx => by rw [List.eq_nil_of_length_eq_zero h0] at hx; simp at hx⟩
  ·obtain ⟨b, o, h1, h2⟩ := h.at' h0
   exact ⟨b, o, fun _ => h1, h2⟩
 refine enter (vs := [_]) Tryz.func48 rfl Tryz.ntmps48 rfl (aE (aA (te (cH rfl rfl fun b1 => (tv (aD rfl) (aF ?_))))))
 refine Tr.keep (env' := [(1, _)]) ⟨rfl, trivial⟩ (aB (aE (aE (aA (tv (aI pD rfl) ?_)))))
 refine tv (aG bB rfl (aK (.head _) rfl)) (te (aJ nO rfl rfl rfl rfl (hH _ _ _) (tv (bF rfl) (tv (aC rfl) ?_))))
 apply aZ 6 (s := 9) (d := 15) rfl
 ·intro hg1 K hK
  refine bE hg1 rfl rfl (aI fJ rfl) (bE hg1 rfl rfl (aG lC rfl (aK (.head _) rfl)) (bE hg1 rfl rfl (aP Tryz.underlying34 rfl) (dB hg1 rfl rfl (aJ nO rfl rfl rfl rfl (hH _ _ _) (bE hg1 rfl rfl (bF rfl) (tv (bW hg1 rfl rfl) ?_))))))
  iterate 5 refine Tr.weak2 rfl ?_
  exact hK _ (dJ hg1)
 ·intro hg1 K hK
  refine aH hg1 rfl rfl rfl rfl (aH hg1 rfl rfl rfl rfl (aH hg1 rfl rfl rfl rfl (aH hg1 rfl rfl rfl rfl (aH hg1 rfl rfl rfl rfl (tv (bV hg1 rfl rfl) ?_)))))
  iterate 5 refine Tr.weak2 rfl ?_
  exact hK _ (dK hg1)
 refine tv (aC rfl) ?_
 apply aZ 5 (s := 16) (d := 21) rfl
 ·intro hg2 K hK
  refine bE hg2 rfl rfl (aI aD5 rfl) (bE hg2 rfl rfl (aG bB rfl (aK (.head _) rfl)) (dB hg2 rfl rfl (aJ nO rfl rfl rfl rfl (hH _ _ _) (bE hg2 rfl rfl (bF rfl) (tv (bW hg2 rfl rfl) ?_)))))
  iterate 4 refine Tr.weak2 rfl ?_
  exact hK _ (dJ hg2)
 ·intro hg2 K hK
  refine aH hg2 rfl rfl rfl rfl (aH hg2 rfl rfl rfl rfl (aH hg2 rfl rfl rfl rfl (aH hg2 rfl rfl rfl rfl (tv (bV hg2 rfl rfl) ?_))))
  iterate 4 refine Tr.weak2 rfl ?_
  exact hK _ (dK hg2)
 refine tv (aC rfl) ?_
 apply aZ 5 (s := 22) (d := 27) rfl
 ·intro hg3 K hK
  refine bE hg3 rfl rfl (aI aD6 rfl) (bE hg3 rfl rfl (aG bB rfl (aK (.head _) rfl)) (dB hg3 rfl rfl (aJ nO rfl rfl rfl rfl (hH _ _ _) (bE hg3 rfl rfl (bF rfl) (tv (bW hg3 rfl rfl) ?_)))))
  iterate 4 refine Tr.weak2 rfl ?_
  exact hK _ (dJ hg3)
 ·intro hg3 K hK
  refine aH hg3 rfl rfl rfl rfl (aH hg3 rfl rfl rfl rfl (aH hg3 rfl rfl rfl rfl (aH hg3 rfl rfl rfl rfl (tv (bV hg3 rfl rfl) ?_))))
  iterate 4 refine Tr.weak2 rfl ?_
  exact hK _ (dK hg3)
 refine tv (aC rfl) ?_
 apply aZ 5 (s := 28) (d := 33) rfl
 ·intro hg4 K hK
  refine bE hg4 rfl rfl (aI aD7 rfl) (bE hg4 rfl rfl (aG bB rfl (aK (.head _) rfl)) (dB hg4 rfl rfl (aJ nO rfl rfl rfl rfl (hH _ _ _) (bE hg4 rfl rfl (bF rfl) (tv (bW hg4 rfl rfl) ?_)))))
  iterate 4 refine Tr.weak2 rfl ?_
  exact hK _ (dJ hg4)
 ·intro hg4 K hK
  refine aH hg4 rfl rfl rfl rfl (aH hg4 rfl rfl rfl rfl (aH hg4 rfl rfl rfl rfl (aH hg4 rfl rfl rfl rfl (tv (bV hg4 rfl rfl) ?_))))
  iterate 4 refine Tr.weak2 rfl ?_
  exact hK _ (dK hg4)
 refine tv (aC rfl) ?_
 apply aZ 5 (s := 34) (d := 39) rfl
 ·intro hg5 K hK
  refine bE hg5 rfl rfl (aI aD8 rfl) (bE hg5 rfl rfl (aG bB rfl (aK (.head _) rfl)) (dB hg5 rfl rfl (aJ nO rfl rfl rfl rfl (hH _ _ _) (bE hg5 rfl rfl (bF rfl) (tv (bW hg5 rfl rfl) ?_)))))
  iterate 4 refine Tr.weak2 rfl ?_
  exact hK _ (dJ hg5)
 ·intro hg5 K hK
  refine aH hg5 rfl rfl rfl rfl (aH hg5 rfl rfl rfl rfl (aH hg5 rfl rfl rfl rfl (aH hg5 rfl rfl rfl rfl (tv (bV hg5 rfl rfl) ?_))))
  iterate 4 refine Tr.weak2 rfl ?_
  exact hK _ (dK hg5)
 refine aF (Tr.keep (env' := [(1, _), (39, _)]) ⟨rfl, rfl, trivial⟩ (aB ?_))
 refine bD rfl (fun hb1 => ?_) (fun hb1 => ?_)
 ·have hP1 : kJ p = false := by rw [kJ, hb1]; rfl
  refine aE (aA (tv (aD rfl) (aF (Tr.keep (env' := [(2, _)]) ⟨rfl, trivial⟩ (aB ?_)))))
  refine aQ (aN (aW rfl rfl (fun w hw => ?_)))
  exact ⟨by rw [show eP p = false from by simp [eP, hP1]], Ok.sub hw (.cons _ (.refl _))⟩
 ·have hP1 : kJ p = true := by rw [kJ, hb1]; rfl
  refine aO (aB (aE (aE (aA (tv (aD rfl) ?_)))))
  refine aF (Tr.keep (env' := [(1, _), (3, _)]) ⟨rfl, rfl, trivial⟩ (aB (aX (dW (fun k : Nat => [(1, .pointer (some ⟨b1, 0, none⟩)), (3, .int .i64 (k : Int))]) (fun k : Nat => cel b1 36 (p.cells A c) :: M) (fun k : Nat => k ≤ p.arts.length ∧ ∀ j, j < k → rH p.arts j = true) (fun k : Nat => p.arts.length - k) 0 ⟨by omega, by omega⟩ ⟨rfl, rfl, trivial⟩ (.refl _) ?_))))
  intro K k ⟨hk, hp⟩ IH
  refine aE (aE (aA (tv (aC rfl) (tv (aI fJ rfl) (tv (aG lC rfl (aK (.head _) rfl)) ?_)))))
  refine tv (aP Tryz.underlying34 rfl) (tv (dI rfl rfl) (aF (Tr.keep (env' := [(1, _), (3, _), (44, _)]) ⟨rfl, rfl, rfl, trivial⟩ (aB ?_))))
  refine bD rfl (fun hc1 => ?_) (fun hc1 => ?_)
  ·have hlt : k < p.arts.length := by have := of_decide_eq_true hc1; omega
   have hA := hA (by omega)
   refine aO (aB (aE (aX (aE (aA ?_)))))
   refine tv (aI fJ rfl) (tv (aG lC rfl (aK (.head _) rfl)) (tv (aC rfl) (tv (cL (k) Tryz.underlying34 lZ hA rfl rfl rfl hlt) ?_)))
   refine tv (cM (v2 := .agg #[.int .i64 (dZ p.arts (k)).number, .int .i64 (dZ p.arts (k)).frm, .int .i64 (dZ p.arts (k)).least, .int .i64 (dZ p.arts (k)).most]) (aY aD4 rfl (fun j v hv => Rd.sub (hri (k) (dZ p.arts (k)).cells (by rw [List.getElem?_map, pB (hlt)]; rfl) j v hv) (.cons _ (.refl _))) rfl) rfl) ?_
   refine te (bO sJ (l := [.int .i64 0, .int .i64 0, .int .i64 0, .int .i64 0]) rfl rfl fun b4 => (te (bJ lZ rfl rfl (vs := [_, _, _, _]) rfl rfl (by simp [Value.oneCell']) (.cons .zero (.cons (.succ .zero) (.cons (.succ (.succ .zero)) (.cons (.succ (.succ (.succ .zero))) .nil)))) .here (aF (Tr.keep (env' := [(1, _), (3, _), (4, _)]) ⟨rfl, rfl, rfl, trivial⟩ (aB (aE ?_)))))))
   refine aE (aA (tv (aI jO rfl) (tv (aG bB rfl (aK (.head _) rfl)) (te (aJ nO rfl rfl rfl rfl (hH _ _ _) (tv (bF rfl) ?_))))))
   refine tv (aC rfl) ?_
   apply aZ 5 (s := 56) (d := 61) rfl
   ·intro hg8 K hK
    refine bE hg8 rfl rfl (aI lY rfl) (bE hg8 rfl rfl (aG bB rfl (aK (.head _) rfl)) (dB hg8 rfl rfl (aJ nO rfl rfl rfl rfl (hH _ _ _) (bE hg8 rfl rfl (bF rfl) (tv (bW hg8 rfl rfl) ?_)))))
    iterate 4 refine Tr.weak2 rfl ?_
    exact hK _ (dJ hg8)
   ·intro hg8 K hK
    refine aH hg8 rfl rfl rfl rfl (aH hg8 rfl rfl rfl rfl (aH hg8 rfl rfl rfl rfl (aH hg8 rfl rfl rfl rfl (tv (bV hg8 rfl rfl) ?_))))
    iterate 4 refine Tr.weak2 rfl ?_
    exact hK _ (dK hg8)
   refine tv (aC rfl) ?_
   apply aZ 7 (s := 62) (d := 69) rfl
   ·intro hg9 K hK
    refine bE hg9 rfl rfl (aI wF rfl) (bE hg9 rfl rfl (aG bB rfl (aK (.head _) rfl)) (bE hg9 rfl rfl (aI mX rfl) (bE hg9 rfl rfl (aG bB rfl (aK (.head _) rfl)) (dB hg9 rfl rfl (aJ nO rfl rfl rfl rfl (hH _ _ _) (bE hg9 rfl rfl (bF rfl) ?_))))))
    refine tv (bW hg9 rfl rfl) ?_
    iterate 6 refine Tr.weak2 rfl ?_
    exact hK _ (dJ hg9)
   ·intro hg9 K hK
    refine aH hg9 rfl rfl rfl rfl (aH hg9 rfl rfl rfl rfl (aH hg9 rfl rfl rfl rfl (aH hg9 rfl rfl rfl rfl (aH hg9 rfl rfl rfl rfl (aH hg9 rfl rfl rfl rfl ?_)))))
    refine tv (bV hg9 rfl rfl) ?_
    iterate 6 refine Tr.weak2 rfl ?_
    exact hK _ (dK hg9)
   refine tv (aC rfl) ?_
   apply aZ 4 (s := 70) (d := 74) rfl
   ·intro hg10 K hK
    refine bE hg10 rfl rfl (aI mX rfl) (bE hg10 rfl rfl (aG bB rfl (aK (.head _) rfl)) (bE hg10 rfl rfl (fC rfl rfl) (tv (bW hg10 rfl rfl) ?_)))
    iterate 3 refine Tr.weak2 rfl ?_
    exact hK _ (dJ hg10)
   ·intro hg10 K hK
    refine aH hg10 rfl rfl rfl rfl (aH hg10 rfl rfl rfl rfl (aH hg10 rfl rfl rfl rfl (tv (bV hg10 rfl rfl) ?_)))
    iterate 3 refine Tr.weak2 rfl ?_
    exact hK _ (dK hg10)
   refine aF (Tr.keep (env' := [(1, _), (3, _), (4, _), (74, _)]) ⟨rfl, rfl, rfl, rfl, trivial⟩ (aB ?_))
   refine bD rfl (fun hb2 => ?_) (fun hb2 => ?_)
   ·skip
    refine aE (aA (tv (aD rfl) (aF (Tr.keep (env' := [(2, _)]) ⟨rfl, trivial⟩ (aB ?_)))))
    refine aQ (aN (bM (aN (aN (bM ?_)))))
    refine aN (aW rfl rfl (fun w hw => ?_))
    exact ⟨by rw [show eP p = false from nH hlt (by rw [rH, show oM (dZ p.arts k) = true from hb2]; rfl)], Ok.sub hw (.cons _ (.cons _ (.refl _)))⟩
   ·skip
    refine aO (aB (aE (Tr.keep (env' := [(1, _), (3, _), (4, _)]) ⟨rfl, rfl, rfl, trivial⟩ ?_)))
    refine mG [(112, .bool (decide (0 < (k : Int)) && (decide ((dZ p.arts k).number < (dZ p.arts (k - 1)).number) || (((dZ p.arts k).number == (dZ p.arts (k - 1)).number) && decide ((dZ p.arts k).frm ≤ (dZ p.arts (k - 1)).frm)))))] (fun K hK => ?_) ?_
    ·skip
     refine cI cK rfl (dv 0 rfl (.refl _) (aC rfl) (dv 1 rfl (.refl _) (fC rfl rfl) (dv 2 rfl (.refl _) (aC rfl) ?_)))
     refine dN (s := 77) rfl (fun hd12 => ?_) (fun hd12 => ?_)
     ·skip
      refine dS 3 hd12 rfl (.refl _) rfl rfl (aI jO rfl) (dS 4 hd12 rfl (.refl _) rfl rfl (aG bB rfl (aK (.head _) rfl)) (dS 5 hd12 rfl (.refl _) rfl rfl (aI fJ rfl) (dS 6 hd12 rfl (.refl _) rfl rfl (aG lC rfl (aK (.tail _ (.head _)) rfl)) (dS 7 hd12 rfl (.refl _) rfl rfl (aC rfl) (dS 8 hd12 rfl (.refl _) rfl rfl (cP rfl rfl (by omega)) ?_)))))
      refine dS 9 hd12 rfl (.refl _) rfl rfl (cL (k - 1) Tryz.underlying34 lZ hA rfl rfl (by have := of_decide_eq_true ‹decide (0 < (k : Int)) = true›; omega) (by omega)) (dS 10 hd12 rfl (.refl _) rfl rfl (aI jO rfl) ?_)
      refine dS 11 hd12 rfl (.refl _) rfl rfl (aG bB rfl (Rd.sub (hri (k - 1) (dZ p.arts (k - 1)).cells (by rw [List.getElem?_map, pB (by omega)]; rfl) 0 _ rfl) (.cons _ (.cons _ (.refl _))))) ?_
      refine dS 12 hd12 rfl (.refl _) rfl rfl (dI rfl rfl) (dS 13 hd12 rfl (.refl _) rfl rfl (aC rfl) ?_)
      refine dN (s := 88) rfl (fun hd13 => ?_) (fun hd13 => ?_)
      ·skip
       refine dR 14 hd13 rfl (.refl _) rfl rfl (dR 15 hd13 rfl (.refl _) rfl rfl (dR 16 hd13 rfl (.refl _) rfl rfl (dR 17 hd13 rfl (.refl _) rfl rfl (dR 18 hd13 rfl (.refl _) rfl rfl (dR 19 hd13 rfl (.refl _) rfl rfl ?_)))))
       refine dR 20 hd13 rfl (.refl _) rfl rfl (dR 21 hd13 rfl (.refl _) rfl rfl (dR 22 hd13 rfl (.refl _) rfl rfl (dR 23 hd13 rfl (.refl _) rfl rfl (dR 24 hd13 rfl (.refl _) rfl rfl (oS 25 rfl (.refl _) rfl rfl ?_)))))
       refine oS 26 rfl (.refl _) rfl rfl (oS 27 rfl (.refl _) rfl rfl (oS 28 rfl (.refl _) rfl rfl (oS 29 rfl (.refl _) rfl rfl (oS 30 rfl (.refl _) rfl rfl (oS 31 rfl (.refl _) rfl rfl ?_)))))
       refine oS 32 rfl (.refl _) rfl rfl (oS 33 rfl (.refl _) rfl rfl (oS 34 rfl (.refl _) rfl rfl (dR 35 hd13 rfl (.refl _) rfl rfl (dS 36 hd12 rfl (.refl _) rfl rfl (bV hd13 rfl rfl) (dv 37 rfl (.refl _) (bV hd12 rfl rfl) ?_)))))
       refine bQ (by kernel_rfl) ?_
       exact dF hK ⟨(by first | (simp [dM.get, hd12, hd13]; done) | exact absurd hd12 (by decide) | exact absurd hd13 (by decide) | (simp_all [dM.get]; done)), rfl, rfl, rfl, trivial⟩ (.refl _)
      ·skip
       refine dS 14 hd13 rfl (.refl _) rfl rfl (aI jO rfl) (dS 15 hd13 rfl (.refl _) rfl rfl (aG bB rfl (aK (.head _) rfl)) (dS 16 hd13 rfl (.refl _) rfl rfl (aI fJ rfl) (dS 17 hd13 rfl (.refl _) rfl rfl (aG lC rfl (aK (.tail _ (.head _)) rfl)) (dS 18 hd13 rfl (.refl _) rfl rfl (aC rfl) (dS 19 hd13 rfl (.refl _) rfl rfl (cP rfl rfl (by omega)) ?_)))))
       refine dS 20 hd13 rfl (.refl _) rfl rfl (cL (k - 1) Tryz.underlying34 lZ hA rfl rfl (by have := of_decide_eq_true ‹decide (0 < (k : Int)) = true›; omega) (by omega)) (dS 21 hd13 rfl (.refl _) rfl rfl (aI jO rfl) ?_)
       refine dS 22 hd13 rfl (.refl _) rfl rfl (aG bB rfl (Rd.sub (hri (k - 1) (dZ p.arts (k - 1)).cells (by rw [List.getElem?_map, pB (by omega)]; rfl) 0 _ rfl) (.cons _ (.cons _ (.refl _))))) ?_
       refine dS 23 hd13 rfl (.refl _) rfl rfl (cW rfl rfl) (dS 24 hd13 rfl (.refl _) rfl rfl (aC rfl) ?_)
       refine dN (s := 99) rfl (fun hd14 => ?_) (fun hd14 => ?_)
       ·skip
        refine dS 25 hd14 rfl (.refl _) rfl rfl (aI lY rfl) (dS 26 hd14 rfl (.refl _) rfl rfl (aG bB rfl (aK (.head _) rfl)) (dS 27 hd14 rfl (.refl _) rfl rfl (aI fJ rfl) (dS 28 hd14 rfl (.refl _) rfl rfl (aG lC rfl (aK (.tail _ (.head _)) rfl)) (dS 29 hd14 rfl (.refl _) rfl rfl (aC rfl) (dS 30 hd14 rfl (.refl _) rfl rfl (cP rfl rfl (by omega)) ?_)))))
        refine dS 31 hd14 rfl (.refl _) rfl rfl (cL (k - 1) Tryz.underlying34 lZ hA rfl rfl (by have := of_decide_eq_true ‹decide (0 < (k : Int)) = true›; omega) (by omega)) (dS 32 hd14 rfl (.refl _) rfl rfl (aI lY rfl) ?_)
        refine dS 33 hd14 rfl (.refl _) rfl rfl (aG bB rfl (Rd.sub (hri (k - 1) (dZ p.arts (k - 1)).cells (by rw [List.getElem?_map, pB (by omega)]; rfl) 1 _ rfl) (.cons _ (.cons _ (.refl _))))) ?_
        refine dS 34 hd14 rfl (.refl _) rfl rfl (iF rfl rfl) (dS 35 hd13 rfl (.refl _) rfl rfl (bV hd14 rfl rfl) (dS 36 hd12 rfl (.refl _) rfl rfl (bW hd13 rfl rfl) (dv 37 rfl (.refl _) (bV hd12 rfl rfl) (bQ (by kernel_rfl) ?_))))
        exact dF hK ⟨(by first | (simp [dM.get, hd12, hd13, hd14]; done) | exact absurd hd12 (by decide) | exact absurd hd13 (by decide) | exact absurd hd14 (by decide) | (simp_all [dM.get]; done)), rfl, rfl, rfl, trivial⟩ (.refl _)
       ·skip
        refine dR 25 hd14 rfl (.refl _) rfl rfl (dR 26 hd14 rfl (.refl _) rfl rfl (dR 27 hd14 rfl (.refl _) rfl rfl (dR 28 hd14 rfl (.refl _) rfl rfl (dR 29 hd14 rfl (.refl _) rfl rfl (dR 30 hd14 rfl (.refl _) rfl rfl ?_)))))
        refine dR 31 hd14 rfl (.refl _) rfl rfl (dR 32 hd14 rfl (.refl _) rfl rfl (dR 33 hd14 rfl (.refl _) rfl rfl (dR 34 hd14 rfl (.refl _) rfl rfl (dS 35 hd13 rfl (.refl _) rfl rfl (bW hd14 rfl rfl) (dS 36 hd12 rfl (.refl _) rfl rfl (bW hd13 rfl rfl) ?_)))))
        refine dv 37 rfl (.refl _) (bV hd12 rfl rfl) (bQ (by kernel_rfl) ?_)
        exact dF hK ⟨(by first | (simp [dM.get, hd12, hd13, hd14]; done) | exact absurd hd12 (by decide) | exact absurd hd13 (by decide) | exact absurd hd14 (by decide) | (simp_all [dM.get]; done)), rfl, rfl, rfl, trivial⟩ (.refl _)
     ·skip
      refine dR 3 hd12 rfl (.refl _) rfl rfl (dR 4 hd12 rfl (.refl _) rfl rfl (dR 5 hd12 rfl (.refl _) rfl rfl (dR 6 hd12 rfl (.refl _) rfl rfl (dR 7 hd12 rfl (.refl _) rfl rfl (dR 8 hd12 rfl (.refl _) rfl rfl ?_)))))
      refine dR 9 hd12 rfl (.refl _) rfl rfl (dR 10 hd12 rfl (.refl _) rfl rfl (dR 11 hd12 rfl (.refl _) rfl rfl (dR 12 hd12 rfl (.refl _) rfl rfl (dR 13 hd12 rfl (.refl _) rfl rfl (oS 14 rfl (.refl _) rfl rfl ?_)))))
      refine oS 15 rfl (.refl _) rfl rfl (oS 16 rfl (.refl _) rfl rfl (oS 17 rfl (.refl _) rfl rfl (oS 18 rfl (.refl _) rfl rfl (oS 19 rfl (.refl _) rfl rfl (oS 20 rfl (.refl _) rfl rfl ?_)))))
      refine oS 21 rfl (.refl _) rfl rfl (oS 22 rfl (.refl _) rfl rfl (oS 23 rfl (.refl _) rfl rfl (oS 24 rfl (.refl _) rfl rfl (oS 25 rfl (.refl _) rfl rfl (oS 26 rfl (.refl _) rfl rfl ?_)))))
      refine oS 27 rfl (.refl _) rfl rfl (oS 28 rfl (.refl _) rfl rfl (oS 29 rfl (.refl _) rfl rfl (oS 30 rfl (.refl _) rfl rfl (oS 31 rfl (.refl _) rfl rfl (oS 32 rfl (.refl _) rfl rfl ?_)))))
      refine oS 33 rfl (.refl _) rfl rfl (oS 34 rfl (.refl _) rfl rfl (oS 35 rfl (.refl _) rfl rfl (dR 36 hd12 rfl (.refl _) rfl rfl (dv 37 rfl (.refl _) (bW hd12 rfl rfl) (bQ (by kernel_rfl) ?_)))))
      exact dF hK ⟨(by first | (simp [dM.get, hd12]; done) | exact absurd hd12 (by decide) | (simp_all [dM.get]; done)), rfl, rfl, rfl, trivial⟩ (.refl _)
    refine Tr.keep (env' := [(1, _), (3, _), (112, _)]) ⟨rfl, rfl, rfl, trivial⟩ (aB ?_)
    refine bD rfl (fun hb4 => ?_) (fun hb4 => ?_)
    ·rw [← xJ] at hb4
     refine aE (aA (tv (aD rfl) (aF (Tr.keep (env' := [(2, _)]) ⟨rfl, trivial⟩ (aB ?_)))))
     refine aQ (bM (aN (aN (bM (aN ?_)))))
     refine aW rfl rfl (fun w hw => ?_)
     exact ⟨by rw [show eP p = false from nH hlt (by rw [rH, hb4]; simp)], Ok.sub hw (.cons _ (.cons _ (.refl _)))⟩
    ·rw [← xJ] at hb4
     refine aO (cX (aB (aA (tv (aC rfl) (tv (cC rfl rfl (by omega)) ?_)))))
     refine tv (aD rfl) (aF (Tr.keep (env' := [(1, _), (3, _)]) ⟨rfl, rfl, trivial⟩ (aB (nD (IH (k + 1) ⟨by omega, fun j hj => ?_⟩ (by omega)) ⟨rfl, rfl, trivial⟩ (.cons _ (.refl _))))))
     rcases Nat.lt_or_ge j k with h8 | h8
     ·exact hp j h8
     ·obtain rfl : j = k := by omega
      rw [rH, show oM (dZ p.arts j) = false from hb2, hb4]; rfl
  ·have h9 : ¬ k < p.arts.length := by have := of_decide_eq_false hc1; omega
   refine cY (aS (aS (bX (aB (aE ?_)))))
   refine aA (tv (aD rfl) (aF (Tr.keep (env' := [(2, _)]) ⟨rfl, trivial⟩ (aB (aQ ?_)))))
   refine aW rfl rfl (fun w hw => ?_)
   exact ⟨by rw [show eP p = true from by simp [eP, hP1, uC (fun j hj => hp j (by omega))]], Ok.sub hw (.cons _ (.refl _))⟩
theorem bH9 (l : List SItem) (k : Nat) (h : k < l.length) : ((l.take (k + 1)).any fun x => x.kind == 2) = (((l.take k).any fun x => x.kind == 2) || ((cF l k).kind == 2)) := by
 rw [List.take_add_one, itemA_at h]; simp
theorem xK {s : SetupV} {a : SetupAt} (h : s.In w0 M a) : ∀ w, Ok w0 M w → Calls Tryz.prog 12 #[.agg (s.cells a).toArray] w (fun e w' => e = .returned (.bool (fA s)) ∧ Ok w0 M w') := by
 have hbI := h.plan.items.big
 obtain ⟨bi, oi, hA, hri⟩ : ∃ b o, (0 < s.plan.items.length → a.p.I = some ⟨b, o, none⟩) ∧ ∀ j x, (s.plan.items.map SItem.cells)[j]? = some x → ∀ k v, x[k]? = some v → Rd w0 M ⟨b, o + j * 4 + k, none⟩ v := by
  rcases Nat.eq_zero_or_pos s.plan.items.length with h0 | h0
  ·exact ⟨0, 0, fun h1 => by omega, fun j x hx => by rw [List.eq_nil_of_length_eq_zero h0] at hx; simp at hx⟩
  ·obtain ⟨b, o, h1, h2⟩ := h.plan.items.at' h0
   exact ⟨b, o, fun _ => h1, h2⟩
 refine enter (vs := [_]) Tryz.func12 rfl Tryz.ntmps12 rfl (aE (aA (te (cH rfl rfl fun b1 => (tv (aD rfl) (aF ?_))))))
 refine Tr.keep (env' := [(1, _)]) ⟨rfl, trivial⟩ (aB (aE (aE (aA (tv (aI iD rfl) ?_)))))
 refine tv (aY pQ rfl (bL (n := 6) (vs := [_, _, _, _, _, _]) (.head _) rfl) rfl) (te (aJ en_45 rfl rfl rfl rfl (aU6 s.g) (tv (bF rfl) (tv (aC rfl) ?_))))
 apply aZ 7 (s := 9) (d := 16) rfl
 ·intro hg1 K hK
  refine bE hg1 rfl rfl (aI eG rfl) (bE hg1 rfl rfl (aY sG rfl (bL (n := 3) (vs := [_, _, _]) (.head _) rfl) rfl) (bE hg1 rfl rfl (aI iZ rfl) (bE hg1 rfl rfl (aG oO rfl (aK (.head _) rfl)) (dB hg1 rfl rfl (aJ en_46 rfl rfl rfl rfl (aU7 (h.least.sub (.cons _ (.refl _))) (h.srcs.sub (.cons _ (.refl _)))) (bE hg1 rfl rfl (bF rfl) ?_))))))
  refine tv (bW hg1 rfl rfl) ?_
  iterate 6 refine Tr.weak2 rfl ?_
  exact hK _ (dJ hg1)
 ·intro hg1 K hK
  refine aH hg1 rfl rfl rfl rfl (aH hg1 rfl rfl rfl rfl (aH hg1 rfl rfl rfl rfl (aH hg1 rfl rfl rfl rfl (aH hg1 rfl rfl rfl rfl (aH hg1 rfl rfl rfl rfl ?_)))))
  refine tv (bV hg1 rfl rfl) ?_
  iterate 6 refine Tr.weak2 rfl ?_
  exact hK _ (dK hg1)
 refine tv (aC rfl) ?_
 apply aZ 5 (s := 17) (d := 22) rfl
 ·intro hg2 K hK
  refine bE hg2 rfl rfl (aI eA rfl) (bE hg2 rfl rfl (aY uL rfl (bL (n := 14) (vs := [_, _, _, _, _, _, _, _, _, _, _, _, _, _]) (.head _) rfl) rfl) (dB hg2 rfl rfl (aJ en_47 rfl rfl rfl rfl (aZ4 (p := s.plan) (h.plan.sub (.cons _ (.refl _)))) (bE hg2 rfl rfl (bF rfl) (tv (bW hg2 rfl rfl) ?_)))))
  iterate 4 refine Tr.weak2 rfl ?_
  exact hK _ (dJ hg2)
 ·intro hg2 K hK
  refine aH hg2 rfl rfl rfl rfl (aH hg2 rfl rfl rfl rfl (aH hg2 rfl rfl rfl rfl (aH hg2 rfl rfl rfl rfl (tv (bV hg2 rfl rfl) ?_))))
  iterate 4 refine Tr.weak2 rfl ?_
  exact hK _ (dK hg2)
 refine tv (aC rfl) ?_
 apply aZ 5 (s := 23) (d := 28) rfl
 ·intro hg3 K hK
  refine bE hg3 rfl rfl (aI iM rfl) (bE hg3 rfl rfl (aY rQ rfl (bL (n := 6) (vs := [_, _, _, _, _, _]) (.head _) rfl) rfl) (dB hg3 rfl rfl (aJ en_48 rfl rfl rfl rfl (aZ5 (p := s.code) (h.arts.sub (.cons _ (.refl _)))) (bE hg3 rfl rfl (bF rfl) (tv (bW hg3 rfl rfl) ?_)))))
  iterate 4 refine Tr.weak2 rfl ?_
  exact hK _ (dJ hg3)
 ·intro hg3 K hK
  refine aH hg3 rfl rfl rfl rfl (aH hg3 rfl rfl rfl rfl (aH hg3 rfl rfl rfl rfl (aH hg3 rfl rfl rfl rfl (tv (bV hg3 rfl rfl) ?_))))
  iterate 4 refine Tr.weak2 rfl ?_
  exact hK _ (dK hg3)
 refine aF (Tr.keep (env' := [(1, _), (28, _)]) ⟨rfl, rfl, trivial⟩ (aB ?_))
 refine bD rfl (fun hb1 => ?_) (fun hb1 => ?_)
 ·skip
  refine aE (aA (tv (aD rfl) (aF (Tr.keep (env' := [(2, _)]) ⟨rfl, trivial⟩ (aB ?_)))))
  refine aQ (aN (aW rfl rfl (fun w hw => ?_)))
  exact ⟨by
   have h9 : fA s = false := by
    unfold fA mI; revert hb1
    generalize s.g.ok = x1; generalize fR s.cars s.places s.least s.srcs = x2; generalize eW s.plan = x3; generalize eP s.code = x4; generalize lH s = x5; revert x1 x2 x3 x4 x5; decide
   rw [h9], Ok.sub hw (.cons _ (.refl _))⟩
 ·skip
  refine aO (aB (aE (aA (tv (aD rfl) (aF ?_)))))
  refine Tr.keep (env' := [(1, _), (3, _)]) ⟨rfl, rfl, trivial⟩ (aB (aE (aE (aA (tv (aD rfl) ?_)))))
  refine aF (Tr.keep (env' := [(1, _), (3, _), (4, _)]) ⟨rfl, rfl, rfl, trivial⟩ (aB (aX (dW (fun z : Nat × Bool => [(1, .pointer (some ⟨b1, 0, none⟩)), (3, .bool z.2), (4, .int .i64 (z.1 : Int))]) (fun z : Nat × Bool => cel b1 38 (s.cells a) :: M) (fun z : Nat × Bool => z.1 ≤ s.plan.items.length ∧ z.2 = ((s.plan.items.take z.1).any fun x => x.kind == 2)) (fun z : Nat × Bool => s.plan.items.length - z.1) (0, false) ⟨Nat.zero_le _, rfl⟩ ⟨rfl, rfl, rfl, trivial⟩ (.refl _) ?_))))
  intro K ⟨k, q⟩ ⟨hk, hq⟩ IH
  dsimp only at hk hq IH ⊢
  refine aE (aE (aA (tv (aC rfl) (tv (aI eA rfl) (tv (aI cQ rfl) ?_)))))
  refine tv (aG eJ rfl (aK (.head _) rfl)) (tv (aP Tryz.underlying28 rfl) (tv (dI rfl rfl) (aF (Tr.keep (env' := [(1, _), (3, _), (4, _), (34, _)]) ⟨rfl, rfl, rfl, rfl, trivial⟩ (aB ?_)))))
  refine bD rfl (fun hc1 => ?_) (fun hc1 => ?_)
  ·have hlt : k < s.plan.items.length := by have := of_decide_eq_true hc1; omega
   have hA := hA (by omega)
   refine aO (aB (aE (aX (aA (tv (aC rfl) ?_)))))
   refine tv (aC rfl) ?_
   apply aZ 9 (s := 38) (d := 47) rfl
   ·intro hg6 K hK
    refine bE hg6 rfl rfl (aI eA rfl) (bE hg6 rfl rfl (aI cQ rfl) (bE hg6 rfl rfl (aG eJ rfl (aK (.head _) rfl)) (bE hg6 rfl rfl (aC rfl) (bE hg6 rfl rfl (cL k Tryz.underlying28 eT hA rfl rfl rfl hlt) (bE hg6 rfl rfl (aI gC rfl) ?_)))))
    refine bE hg6 rfl rfl (aG jR rfl (Rd.sub (hri k (cF s.plan.items k).cells (by rw [List.getElem?_map, itemA_at hlt]; rfl) 0 _ rfl) (.cons _ (.refl _)))) ?_
    refine bE hg6 rfl rfl (cW rfl rfl) (tv (bW hg6 rfl rfl) ?_)
    iterate 8 refine Tr.weak2 rfl ?_
    exact hK _ (dJ hg6)
   ·intro hg6 K hK
    refine aH hg6 rfl rfl rfl rfl (aH hg6 rfl rfl rfl rfl (aH hg6 rfl rfl rfl rfl (aH hg6 rfl rfl rfl rfl (aH hg6 rfl rfl rfl rfl (aH hg6 rfl rfl rfl rfl ?_)))))
    refine aH hg6 rfl rfl rfl rfl (aH hg6 rfl rfl rfl rfl (tv (bV hg6 rfl rfl) ?_))
    iterate 8 refine Tr.weak2 rfl ?_
    exact hK _ (dK hg6)
   refine tv (aD rfl) (aF (Tr.keep (env' := [(1, _), (3, _), (4, _)]) ⟨rfl, rfl, rfl, trivial⟩ (cX (aB (aA ?_)))))
   refine tv (aC rfl) (tv (cC rfl rfl (by omega)) (tv (aD rfl) (aF (Tr.keep (env' := [(1, _), (3, _), (4, _)]) ⟨rfl, rfl, rfl, trivial⟩ (aB ?_)))))
   refine nD (IH (k + 1, (q || ((cF s.plan.items k).kind == 2))) ⟨by show k + 1 ≤ _; omega, by rw [bH9 _ _ hlt, ← hq]⟩ (by show s.plan.items.length - (k + 1) < s.plan.items.length - k; omega)) ⟨rfl, rfl, rfl, trivial⟩ (.refl _)
  ·have h9 : ¬ k < s.plan.items.length := by have := of_decide_eq_false hc1; omega
   obtain rfl : k = s.plan.items.length := by omega
   refine cY (aS (aS (bX (aB (aE ?_)))))
   refine aA (tv (aC rfl) (tv (aC rfl) ?_))
   apply bH 8 (s := 49) (d := 57) rfl
   ·intro hg7 K hK
    refine bE hg7 rfl rfl (aI iD rfl) (bE hg7 rfl rfl (aI jK rfl) (bE hg7 rfl rfl (aG bB rfl (aK (.head _) rfl)) (bE hg7 rfl rfl (aI eG rfl) (bE hg7 rfl rfl (aI gM rfl) (bE hg7 rfl rfl (aG bB rfl (aK (.head _) rfl)) ?_)))))
    refine bE hg7 rfl rfl (cW rfl rfl) (tv (bV hg7 rfl rfl) ?_)
    iterate 7 refine Tr.weak2 rfl ?_
    exact hK _ (dT hg7)
   ·intro hg7 K hK
    refine aH hg7 rfl rfl rfl rfl (aH hg7 rfl rfl rfl rfl (aH hg7 rfl rfl rfl rfl (aH hg7 rfl rfl rfl rfl (aH hg7 rfl rfl rfl rfl (aH hg7 rfl rfl rfl rfl ?_)))))
    refine aH hg7 rfl rfl rfl rfl (tv (bW hg7 rfl rfl) ?_)
    iterate 7 refine Tr.weak2 rfl ?_
    exact hK _ (dU hg7)
   refine tv (aC rfl) ?_
   apply bH 8 (s := 58) (d := 66) rfl
   ·intro hg8 K hK
    refine bE hg8 rfl rfl (aI iM rfl) (bE hg8 rfl rfl (aI pD rfl) (bE hg8 rfl rfl (aG bB rfl (aK (.head _) rfl)) (bE hg8 rfl rfl (aI eG rfl) (bE hg8 rfl rfl (aI gM rfl) (bE hg8 rfl rfl (aG bB rfl (aK (.head _) rfl)) ?_)))))
    refine bE hg8 rfl rfl (cW rfl rfl) (tv (bV hg8 rfl rfl) ?_)
    iterate 7 refine Tr.weak2 rfl ?_
    exact hK _ (dT hg8)
   ·intro hg8 K hK
    refine aH hg8 rfl rfl rfl rfl (aH hg8 rfl rfl rfl rfl (aH hg8 rfl rfl rfl rfl (aH hg8 rfl rfl rfl rfl (aH hg8 rfl rfl rfl rfl (aH hg8 rfl rfl rfl rfl ?_)))))
    refine aH hg8 rfl rfl rfl rfl (tv (bW hg8 rfl rfl) ?_)
    iterate 7 refine Tr.weak2 rfl ?_
    exact hK _ (dU hg8)
   refine tv (aC rfl) ?_
   apply bH 8 (s := 67) (d := 75) rfl
   ·intro hg9 K hK
    refine bE hg9 rfl rfl (aI iD rfl) (bE hg9 rfl rfl (aI iL rfl) (bE hg9 rfl rfl (aG bB rfl (aK (.head _) rfl)) (bE hg9 rfl rfl (aI eG rfl) (bE hg9 rfl rfl (aI kM rfl) (bE hg9 rfl rfl (aG bB rfl (aK (.head _) rfl)) ?_)))))
    refine bE hg9 rfl rfl (cW rfl rfl) (tv (bV hg9 rfl rfl) ?_)
    iterate 7 refine Tr.weak2 rfl ?_
    exact hK _ (dT hg9)
   ·intro hg9 K hK
    refine aH hg9 rfl rfl rfl rfl (aH hg9 rfl rfl rfl rfl (aH hg9 rfl rfl rfl rfl (aH hg9 rfl rfl rfl rfl (aH hg9 rfl rfl rfl rfl (aH hg9 rfl rfl rfl rfl ?_)))))
    refine aH hg9 rfl rfl rfl rfl (tv (bW hg9 rfl rfl) ?_)
    iterate 7 refine Tr.weak2 rfl ?_
    exact hK _ (dU hg9)
   refine tv (aD rfl) (aF (Tr.keep (env' := [(2, _)]) ⟨rfl, trivial⟩ (aB (aQ (aW rfl rfl (fun w hw => ?_))))))
   exact ⟨by
    have h9 : fA s = lH s := by
     unfold fA mI; revert hb1
     generalize s.g.ok = x1; generalize fR s.cars s.places s.least s.srcs = x2; generalize eW s.plan = x3; generalize eP s.code = x4; generalize lH s = x5; revert x1 x2 x3 x4 x5; decide
    rw [List.take_of_length_le (Nat.le_refl _)] at hq
    subst hq
    rw [h9, lH]
    have q1 : (s.g.cars != s.cars) = !(s.g.cars == s.cars) := rfl
    have q2 : (s.code.cars != s.cars) = !(s.code.cars == s.cars) := rfl
    have q3 : (s.g.posts != s.places) = !(s.g.posts == s.places) := rfl
    rw [q1, q2, q3]
    congr 2
    generalize (s.g.cars == s.cars) = x1; generalize (s.code.cars == s.cars) = x2; generalize (s.g.posts == s.places) = x3; generalize (s.plan.items.any fun x => x.kind == 2) = x4
    revert x1 x2 x3 x4; decide, Ok.sub hw (.cons _ (.refl _))⟩
end
end Go.Proofs.W
set_option linter.unusedVariables false
set_option linter.unusedSimpArgs false
set_option linter.unusedSectionVars false
set_option maxRecDepth 100000
namespace Go.Proofs.W
open Go Go.Sl Go.RowKit Go.Proofs
attribute [local irreducible] Go.Sl.Eff
theorem en_58 : aV Tryz.prog 58 := aL Tryz.func58 (by kernel_rfl) (by kernel_rfl)
theorem bI0 (x y : CLine) : eqL x.cells y.cells = true ↔ x = y := by
 obtain ⟨a, b, c, d⟩ := x
 obtain ⟨a', b', c', d'⟩ := y
 simp [CLine.cells, eqL, eqC]
def xL (s : SetupV) : Bool := (((((((decide ((s.plan.items.length : Int) ≤ 10) && decide ((s.plan.jumps.length : Int) ≤ 20)) && decide ((s.plan.points.length : Int) ≤ 80)) && decide ((s.plan.extra.length : Int) ≤ 80)) && decide ((s.least.length : Int) ≤ 40)) && decide ((s.srcs.length : Int) ≤ 60)) && decide ((s.code.arts.length : Int) ≤ 20)) && (decide (s.cars ≤ 6) || decide (200 < s.cars)))
theorem aZ6 (x y : CLine) : FlatT Tryz.prog 114 [{ name := "Minute", type := 3, offset := 0, embedded := false, tag := "", pkgPath := "", byteOffset := 0 }, { name := "Time", type := 3, offset := 1, embedded := false, tag := "", pkgPath := "", byteOffset := 8 }, { name := "Jump", type := 4, offset := 2, embedded := false, tag := "", pkgPath := "", byteOffset := 16 }, { name := "Mark", type := 112, offset := 3, embedded := false, tag := "", pkgPath := "", byteOffset := 24 }] (x.cells) (y.cells) :=
 ⟨by kernel_rfl, by kernel_rfl, by kernel_rfl, by kernel_rfl, fun j f h => match j, h with
  | 0, h => by cases h; exact ⟨by decide, rfl, _, _, rfl, rfl, ⟨rfl, Tryz.underlying3⟩⟩
  | 1, h => by cases h; exact ⟨by decide, rfl, _, _, rfl, rfl, ⟨rfl, Tryz.underlying3⟩⟩
  | 2, h => by cases h; exact ⟨by decide, rfl, _, _, rfl, rfl, Tryz.underlying4⟩
  | 3, h => by cases h; exact ⟨by decide, rfl, _, _, rfl, rfl, ⟨rfl, Tryz.underlying112⟩⟩
  | j + 4, h => by simp at h, rfl, rfl⟩
section
variable {w0 : World} {M : List Ent}
theorem tQ (s : SetupV) (a : SetupAt) : ∀ w, Ok w0 M w → Calls Tryz.prog 9 #[.agg (s.cells a).toArray] w (fun e w' => e = .returned (.bool (xL s)) ∧ Ok w0 M w') := by
 refine enter (vs := [_]) Tryz.func9 rfl Tryz.ntmps9 rfl (aE (aA (te (cH rfl rfl fun b1 => (tv (aD rfl) (aF ?_))))))
 refine Tr.keep (env' := [(1, _)]) ⟨rfl, trivial⟩ (aB (aE (aA (tv (aI eA rfl) (tv (aI cQ rfl) ?_)))))
 refine tv (aG eJ rfl (aK (.head _) rfl)) (tv (aP Tryz.underlying28 rfl) (tv (iF rfl rfl) (tv (aC rfl) ?_)))
 apply bH 7 (s := 8) (d := 15) rfl
 ·intro hg1 K hK
  refine bE hg1 rfl rfl (aI eA rfl) (bE hg1 rfl rfl (aI mK rfl) (bE hg1 rfl rfl (aI mJ rfl) (bE hg1 rfl rfl (aG dQ rfl (aK (.head _) rfl)) (bE hg1 rfl rfl (aP Tryz.underlying24 rfl) (bE hg1 rfl rfl (iF rfl rfl) ?_)))))
  refine tv (bV hg1 rfl rfl) ?_
  iterate 6 refine Tr.weak2 rfl ?_
  exact hK _ (dT hg1)
 ·intro hg1 K hK
  refine aH hg1 rfl rfl rfl rfl (aH hg1 rfl rfl rfl rfl (aH hg1 rfl rfl rfl rfl (aH hg1 rfl rfl rfl rfl (aH hg1 rfl rfl rfl rfl (aH hg1 rfl rfl rfl rfl ?_)))))
  refine tv (bW hg1 rfl rfl) ?_
  iterate 6 refine Tr.weak2 rfl ?_
  exact hK _ (dU hg1)
 refine tv (aC rfl) ?_
 apply bH 7 (s := 16) (d := 23) rfl
 ·intro hg2 K hK
  refine bE hg2 rfl rfl (aI eA rfl) (bE hg2 rfl rfl (aI mK rfl) (bE hg2 rfl rfl (aI kQ rfl) (bE hg2 rfl rfl (aG dQ rfl (aK (.head _) rfl)) (bE hg2 rfl rfl (aP Tryz.underlying24 rfl) (bE hg2 rfl rfl (iF rfl rfl) ?_)))))
  refine tv (bV hg2 rfl rfl) ?_
  iterate 6 refine Tr.weak2 rfl ?_
  exact hK _ (dT hg2)
 ·intro hg2 K hK
  refine aH hg2 rfl rfl rfl rfl (aH hg2 rfl rfl rfl rfl (aH hg2 rfl rfl rfl rfl (aH hg2 rfl rfl rfl rfl (aH hg2 rfl rfl rfl rfl (aH hg2 rfl rfl rfl rfl ?_)))))
  refine tv (bW hg2 rfl rfl) ?_
  iterate 6 refine Tr.weak2 rfl ?_
  exact hK _ (dU hg2)
 refine tv (aC rfl) ?_
 apply bH 7 (s := 24) (d := 31) rfl
 ·intro hg3 K hK
  refine bE hg3 rfl rfl (aI eA rfl) (bE hg3 rfl rfl (aI mK rfl) (bE hg3 rfl rfl (aI kR rfl) (bE hg3 rfl rfl (aG dQ rfl (aK (.head _) rfl)) (bE hg3 rfl rfl (aP Tryz.underlying24 rfl) (bE hg3 rfl rfl (iF rfl rfl) ?_)))))
  refine tv (bV hg3 rfl rfl) ?_
  iterate 6 refine Tr.weak2 rfl ?_
  exact hK _ (dT hg3)
 ·intro hg3 K hK
  refine aH hg3 rfl rfl rfl rfl (aH hg3 rfl rfl rfl rfl (aH hg3 rfl rfl rfl rfl (aH hg3 rfl rfl rfl rfl (aH hg3 rfl rfl rfl rfl (aH hg3 rfl rfl rfl rfl ?_)))))
  refine tv (bW hg3 rfl rfl) ?_
  iterate 6 refine Tr.weak2 rfl ?_
  exact hK _ (dU hg3)
 refine tv (aC rfl) ?_
 apply bH 6 (s := 32) (d := 38) rfl
 ·intro hg4 K hK
  refine bE hg4 rfl rfl (aI eG rfl) (bE hg4 rfl rfl (aI jB rfl) (bE hg4 rfl rfl (aG dQ rfl (aK (.head _) rfl)) (bE hg4 rfl rfl (aP Tryz.underlying24 rfl) (bE hg4 rfl rfl (iF rfl rfl) (tv (bV hg4 rfl rfl) ?_)))))
  iterate 5 refine Tr.weak2 rfl ?_
  exact hK _ (dT hg4)
 ·intro hg4 K hK
  refine aH hg4 rfl rfl rfl rfl (aH hg4 rfl rfl rfl rfl (aH hg4 rfl rfl rfl rfl (aH hg4 rfl rfl rfl rfl (aH hg4 rfl rfl rfl rfl (tv (bW hg4 rfl rfl) ?_)))))
  iterate 5 refine Tr.weak2 rfl ?_
  exact hK _ (dU hg4)
 refine tv (aC rfl) ?_
 apply bH 5 (s := 39) (d := 44) rfl
 ·intro hg5 K hK
  refine bE hg5 rfl rfl (aI iZ rfl) (bE hg5 rfl rfl (aG oO rfl (aK (.head _) rfl)) (bE hg5 rfl rfl (aP Tryz.underlying27 rfl) (bE hg5 rfl rfl (iF rfl rfl) (tv (bV hg5 rfl rfl) ?_))))
  iterate 4 refine Tr.weak2 rfl ?_
  exact hK _ (dT hg5)
 ·intro hg5 K hK
  refine aH hg5 rfl rfl rfl rfl (aH hg5 rfl rfl rfl rfl (aH hg5 rfl rfl rfl rfl (aH hg5 rfl rfl rfl rfl (tv (bW hg5 rfl rfl) ?_))))
  iterate 4 refine Tr.weak2 rfl ?_
  exact hK _ (dU hg5)
 refine tv (aC rfl) ?_
 apply bH 6 (s := 45) (d := 51) rfl
 ·intro hg6 K hK
  refine bE hg6 rfl rfl (aI iM rfl) (bE hg6 rfl rfl (aI fJ rfl) (bE hg6 rfl rfl (aG lC rfl (aK (.head _) rfl)) (bE hg6 rfl rfl (aP Tryz.underlying34 rfl) (bE hg6 rfl rfl (iF rfl rfl) (tv (bV hg6 rfl rfl) ?_)))))
  iterate 5 refine Tr.weak2 rfl ?_
  exact hK _ (dT hg6)
 ·intro hg6 K hK
  refine aH hg6 rfl rfl rfl rfl (aH hg6 rfl rfl rfl rfl (aH hg6 rfl rfl rfl rfl (aH hg6 rfl rfl rfl rfl (aH hg6 rfl rfl rfl rfl (tv (bW hg6 rfl rfl) ?_)))))
  iterate 5 refine Tr.weak2 rfl ?_
  exact hK _ (dU hg6)
 refine tv (aC rfl) ?_
 apply bH 11 (s := 52) (d := 63) rfl
 ·intro hg7 K hK
  refine bE hg7 rfl rfl (aI eG rfl) (bE hg7 rfl rfl (aI gM rfl) (bE hg7 rfl rfl (aG bB rfl (aK (.head _) rfl)) (bE hg7 rfl rfl (iF rfl rfl) (bE hg7 rfl rfl (aC rfl) ?_))))
  apply aZ 5 (s := 57) (d := 62) rfl
  ·intro hg8 K hK
   refine bE hg8 rfl rfl (aI eG rfl) (bE hg8 rfl rfl (aI gM rfl) (bE hg8 rfl rfl (aG bB rfl (aK (.head _) rfl)) (bE hg8 rfl rfl (fC rfl rfl) (bE hg7 rfl rfl (bW hg8 rfl rfl) ?_))))
   iterate 4 refine Tr.weak2 rfl ?_
   exact hK _ (dJ hg8)
  ·intro hg8 K hK
   refine aH hg8 rfl rfl rfl rfl (aH hg8 rfl rfl rfl rfl (aH hg8 rfl rfl rfl rfl (aH hg8 rfl rfl rfl rfl (bE hg7 rfl rfl (bV hg8 rfl rfl) ?_))))
   iterate 4 refine Tr.weak2 rfl ?_
   exact hK _ (dK hg8)
  refine tv (bV hg7 rfl rfl) ?_
  iterate 6 refine Tr.weak2 rfl ?_
  exact hK _ (dT hg7)
 ·intro hg7 K hK
  refine aH hg7 rfl rfl rfl rfl (aH hg7 rfl rfl rfl rfl (aH hg7 rfl rfl rfl rfl (aH hg7 rfl rfl rfl rfl (aH hg7 rfl rfl rfl rfl (bZ rfl rfl rfl ?_)))))
  refine bZ rfl rfl rfl (bZ rfl rfl rfl (bZ rfl rfl rfl (aH hg7 rfl rfl rfl rfl (tv (bW hg7 rfl rfl) ?_))))
  iterate 10 refine Tr.weak2 rfl ?_
  exact hK _ (dU hg7)
 refine tv (aD rfl) (aF (Tr.keep (env' := [(2, _)]) ⟨rfl, trivial⟩ (aB (aQ (aW rfl rfl (fun w hw => ?_))))))
 exact ⟨rfl, Ok.sub hw (.cons _ (.refl _))⟩
theorem aZ7 {A B : Option Addr} {n c d : Nat} {xs : List Int} (hs : SlRd w0 M 1 A n (xs.map encI)) (hs2 : SlRd w0 M 1 B n (xs.map encI)) : ∀ w, Ok w0 M w → Calls Tryz.prog 58 #[.slice A n c, .slice B n d] w (fun e w' => e = .returned (.bool true) ∧ Ok w0 M w') := by
 have hbig := hs.big
 have hlen : xs.length = n := by have := hs.len; simpa using this
 refine enter (vs := [_, _]) Tryz.func58 rfl Tryz.ntmps58 rfl (aE (aA (tv (aD rfl) (aF (Tr.keep (env' := [(0, _), (1, _)]) ⟨rfl, rfl, trivial⟩ ?_)))))
 refine aB (aE (aE (aA (tv (aC rfl) (tv (aP Tryz.underlying24 rfl) ?_)))))
 refine tv (aC rfl) (tv (aP Tryz.underlying24 rfl) (tv (eF rfl rfl) (aF (Tr.keep (env' := [(0, _), (1, _), (10, _)]) ⟨rfl, rfl, rfl, trivial⟩ (aB ?_)))))
 refine aR (mY (by simp)) (aO (aB (aE (aE (aA ?_)))))
 refine tv (aD rfl) (aF (Tr.keep (env' := [(0, _), (1, _), (5, _)]) ⟨rfl, rfl, rfl, trivial⟩ (aB (aX (dW (fun k : Nat => [(0, .slice A n c), (1, .slice B n d), (5, .int .i64 (k : Int))]) (fun k : Nat => M) (fun k : Nat => k ≤ n) (fun k : Nat => n - k) 0 (Nat.zero_le _) ⟨rfl, rfl, rfl, trivial⟩ (.refl _) ?_)))))
 intro K k hk IH
 refine aE (aE (aA (tv (aC rfl) (tv (aC rfl) (tv (aP Tryz.underlying24 rfl) ?_)))))
 refine tv (dI rfl rfl) (aF (Tr.keep (env' := [(0, _), (1, _), (5, _), (14, _)]) ⟨rfl, rfl, rfl, rfl, trivial⟩ (aB ?_)))
 refine bD rfl (fun hc1 => ?_) (fun hc1 => ?_)
 ·have hlt : k < n := by have := of_decide_eq_true hc1; omega
  obtain ⟨b, o, hA', hrd⟩ := hs.at' (by omega)
  obtain ⟨b2, o2, hB', hrd2⟩ := hs2.at' (by omega)
  obtain ⟨x, hx⟩ : ∃ x, xs[k]? = some x := ⟨_, List.getElem?_eq_getElem (by omega)⟩
  refine aO (aB (aE (aX (aE (cI cK rfl ?_)))))
  refine dv 0 rfl (.refl _) (aC rfl) (dv 1 rfl (.refl _) (aC rfl) (dv 2 rfl (.refl _) (cL k Tryz.underlying24 eR hA' rfl rfl rfl hlt) ?_))
  refine dv 3 rfl (.refl _) (aG bB rfl (hrd k (encI x) (by rw [List.getElem?_map, hx]; rfl) 0 _ rfl)) ?_
  refine dv 4 rfl (.refl _) (aC rfl) (dv 5 rfl (.refl _) (aC rfl) (dv 6 rfl (.refl _) (cL k Tryz.underlying24 eR hB' rfl rfl rfl hlt) ?_))
  refine dv 7 rfl (.refl _) (aG bB rfl (hrd2 k (encI x) (by rw [List.getElem?_map, hx]; rfl) 0 _ rfl)) ?_
  refine dv 8 rfl (.refl _) (cM (v2 := .bool false) (eF rfl rfl) (congrArg Value.bool (by simp))) (bQ (by kernel_rfl) (Tr.keep (env' := [(0, _), (1, _), (5, _), (25, _)]) ⟨rfl, rfl, rfl, rfl, trivial⟩ (aB (aR rfl (aO ?_)))))
  refine cX (aB (aA (tv (aC rfl) (tv (cC rfl rfl (by omega)) (tv (aD rfl) ?_)))))
  refine aF (Tr.keep (env' := [(0, _), (1, _), (5, _)]) ⟨rfl, rfl, rfl, trivial⟩ (aB ?_))
  refine nD (IH (k + 1) (by omega) (by omega)) ⟨rfl, rfl, rfl, trivial⟩ (.refl _)
 ·skip
  refine cY (aS (aS (bX (aB (aE ?_)))))
  refine aA (tv (aD rfl) (aF (Tr.keep (env' := [(4, _)]) ⟨rfl, trivial⟩ (aB (aQ ?_)))))
  refine aW rfl rfl (fun w hw => ?_)
  exact ⟨rfl, hw⟩
theorem con_at {cl dl : List CardX} {k : Nat} {x : CardX} (h : cl.map CardX.con = dl.map CardX.con) (hx : cl[k]? = some x) : ∃ y, dl[k]? = some y ∧ y.cls = x.cls ∧ y.starts = x.starts ∧ y.lines = x.lines := by
 have h1 : (dl.map CardX.con)[k]? = some x.con := by rw [← h, List.getElem?_map, hx]; rfl
 rw [List.getElem?_map] at h1
 obtain ⟨y, hy, he⟩ := Option.map_eq_some_iff.1 h1
 simp [CardX.con] at he
 exact ⟨y, hy, he.1, he.2.1, he.2.2⟩
theorem aR7 {A B : Option Addr} {n cA cB : Nat} {cl dl : List CardX} (hs : SlRd w0 M 3 A n (cl.map CardX.cells)) (hs2 : SlRd w0 M 3 B n (dl.map CardX.cells)) (hmem : ∀ c ∈ cl, c.In M) (hmem2 : ∀ c ∈ dl, c.In M) (hcon : cl.map CardX.con = dl.map CardX.con) : ∀ w, Ok w0 M w → Calls Tryz.prog 17 #[.slice A n cA, .slice B n cB] w (fun e w' => e = .returned (.bool true) ∧ Ok w0 M w') := by
 have hbig := hs.big
 have hlen : cl.length = n := by have := hs.len; simpa using this
 refine enter (vs := [_, _]) Tryz.func17 rfl Tryz.ntmps17 rfl (aE (aA (tv (aD rfl) (aF (Tr.keep (env' := [(0, _), (1, _)]) ⟨rfl, rfl, trivial⟩ ?_)))))
 refine aB (aE (aE (aA (tv (aC rfl) (tv (aP Tryz.underlying53 rfl) ?_)))))
 refine tv (aC rfl) (tv (aP Tryz.underlying53 rfl) (tv (eF rfl rfl) (aF (Tr.keep (env' := [(0, _), (1, _), (11, _)]) ⟨rfl, rfl, rfl, trivial⟩ (aB ?_)))))
 refine aR (mY (by simp)) (aO (aB (aE (aE (aA ?_)))))
 refine tv (aD rfl) (aF (Tr.keep (env' := [(0, _), (1, _), (5, _)]) ⟨rfl, rfl, rfl, trivial⟩ (aB (aX (dW (fun k : Nat => [(0, .slice A n cA), (1, .slice B n cB), (5, .int .i64 (k : Int))]) (fun k : Nat => M) (fun k : Nat => k ≤ n) (fun k : Nat => n - k) 0 (Nat.zero_le _) ⟨rfl, rfl, rfl, trivial⟩ (.refl _) ?_)))))
 intro K k hk IH
 refine aE (aE (aA (tv (aC rfl) (tv (aC rfl) (tv (aP Tryz.underlying53 rfl) ?_)))))
 refine tv (dI rfl rfl) (aF (Tr.keep (env' := [(0, _), (1, _), (5, _), (15, _)]) ⟨rfl, rfl, rfl, rfl, trivial⟩ (aB ?_)))
 refine bD rfl (fun hc1 => ?_) (fun hc1 => ?_)
 ·have hlt : k < n := by have := of_decide_eq_true hc1; omega
  obtain ⟨b, o, hA', hrd⟩ := hs.at' (by omega)
  obtain ⟨b2, o2, hB', hrd2⟩ := hs2.at' (by omega)
  obtain ⟨x, hxk⟩ : ∃ x, cl[k]? = some x := ⟨_, List.getElem?_eq_getElem (by omega)⟩
  obtain ⟨y, hyk, e1, e2, e3⟩ := con_at hcon hxk
  have hx : (cl.map CardX.cells)[k]? = some (CardX.cells x) := by rw [List.getElem?_map, hxk]; rfl
  have hy : (dl.map CardX.cells)[k]? = some (CardX.cells y) := by rw [List.getElem?_map, hyk]; rfl
  have hix := hmem x (List.mem_of_getElem? hxk); have hiy := hmem2 y (List.mem_of_getElem? hyk)
  have hsy := hiy.rs (w0 := w0) (.refl M)
  rw [e2] at hsy
  have hly := hiy.rl (w0 := w0) (.refl M)
  rw [e3] at hly
  have hlx := hix.rl (w0 := w0) (.refl M)
  obtain ⟨b3, o3, hA3, hrd3⟩ := hlx.at' hix.nl.1
  obtain ⟨b4, o4, hA4, hrd4⟩ := hly.at' hix.nl.1
  have hbx := hix.nl.2
  refine aO (aB (aE (aX (aE (aE ?_)))))
  refine cI cK rfl (dv 0 rfl (.refl _) (aC rfl) (dv 1 rfl (.refl _) (aC rfl) (dv 2 rfl (.refl _) (cL k Tryz.underlying53 dA hA' rfl rfl rfl hlt) (dv 3 rfl (.refl _) (aI wY rfl) (dv 4 rfl (.refl _) (aG bB rfl (hrd k (CardX.cells x) hx 0 _ rfl)) ?_)))))
  refine dv 5 rfl (.refl _) (aC rfl) (dv 6 rfl (.refl _) (aC rfl) (dv 7 rfl (.refl _) (cL k Tryz.underlying53 dA hB' rfl rfl rfl hlt) (dv 8 rfl (.refl _) (aI wY rfl) (dv 9 rfl (.refl _) (aG bB rfl (hrd2 k (CardX.cells y) hy 0 _ rfl)) (dv 10 rfl (.refl _) (cM (v2 := .bool false) (eF rfl rfl) (congrArg Value.bool (by simp [e1]))) ?_)))))
  refine dv 11 rfl (.refl _) (aC rfl) (eI 12 rfl (.refl _) rfl rfl (aC rfl) (eI 13 rfl (.refl _) rfl rfl (aC rfl) (eI 14 rfl (.refl _) rfl rfl (cL k Tryz.underlying53 dA hA' rfl rfl rfl hlt) (eI 15 rfl (.refl _) rfl rfl (aI kT rfl) (eI 16 rfl (.refl _) rfl rfl (aG dQ rfl (hrd k (CardX.cells x) hx 1 _ rfl)) ?_)))))
  refine eI 17 rfl (.refl _) rfl rfl (aC rfl) (eI 18 rfl (.refl _) rfl rfl (aC rfl) (eI 19 rfl (.refl _) rfl rfl (cL k Tryz.underlying53 dA hB' rfl rfl rfl hlt) (eI 20 rfl (.refl _) rfl rfl (aI kT rfl) (eI 21 rfl (.refl _) rfl rfl (cM (v2 := .slice (some ⟨y.s.b, 0, none⟩) x.starts.length y.s.c) (aG dQ rfl (hrd2 k (CardX.cells y) hy 1 _ rfl)) (by simp only [e1, e2, e3])) (jU 22 rfl (by kernel_rfl) rfl rfl (aJ en_58 rfl rfl rfl rfl (aZ7 (hix.rs (.refl M)) hsy) ?_))))))
  refine aU (.refl _) (eI 23 rfl (.refl _) rfl rfl (bF rfl) (dv 24 rfl (.refl _) (bS rfl rfl) (dv 25 rfl (.refl _) (aC rfl) (eI 26 rfl (.refl _) rfl rfl (aC rfl) (eI 27 rfl (.refl _) rfl rfl (aC rfl) ?_)))))
  refine eI 28 rfl (.refl _) rfl rfl (cL k Tryz.underlying53 dA hA' rfl rfl rfl hlt) (eI 29 rfl (.refl _) rfl rfl (aI eH rfl) (eI 30 rfl (.refl _) rfl rfl (aG gF rfl (hrd k (CardX.cells x) hx 2 _ rfl)) (eI 31 rfl (.refl _) rfl rfl (aP Tryz.underlying109 rfl) (eI 32 rfl (.refl _) rfl rfl (aC rfl) (eI 33 rfl (.refl _) rfl rfl (aC rfl) ?_)))))
  refine eI 34 rfl (.refl _) rfl rfl (cL k Tryz.underlying53 dA hB' rfl rfl rfl hlt) (eI 35 rfl (.refl _) rfl rfl (aI eH rfl) (eI 36 rfl (.refl _) rfl rfl (cM (v2 := .slice (some ⟨y.l.b, 0, none⟩) x.lines.length y.l.c) (aG gF rfl (hrd2 k (CardX.cells y) hy 2 _ rfl)) (by simp only [e1, e2, e3])) (eI 37 rfl (.refl _) rfl rfl (aP Tryz.underlying109 rfl) (eI 38 rfl (.refl _) rfl rfl (cM (v2 := .bool false) (eF rfl rfl) (congrArg Value.bool (by simp))) (dv 39 rfl (.refl _) (bS rfl rfl) ?_)))))
  refine bQ (by kernel_rfl) (Tr.keep (env' := [(0, _), (1, _), (5, _), (57, _)]) ⟨rfl, rfl, rfl, rfl, trivial⟩ (aB (aR rfl (aO (aB ?_)))))
  refine aE (aA (tv (aD rfl) (aF (Tr.keep (env' := [(0, _), (1, _), (5, _), (6, _)]) ⟨rfl, rfl, rfl, rfl, trivial⟩ (aB ?_)))))
  refine aX (dW (fun j : Nat => [(0, .slice A n cA), (1, .slice B n cB), (5, .int .i64 (k : Int)), (6, .int .i64 (j : Int))]) (fun j : Nat => M) (fun j : Nat => j ≤ x.lines.length) (fun j : Nat => x.lines.length - j) 0 (Nat.zero_le _) ⟨rfl, rfl, rfl, rfl, trivial⟩ (.refl _) ?_)
  intro K2 j hj IH2
  refine aE (aE (aA (tv (aC rfl) (tv (aC rfl) (tv (aC rfl) ?_)))))
  refine tv (cL k Tryz.underlying53 dA hA' rfl rfl rfl hlt) (tv (aI eH rfl) (tv (aG gF rfl (hrd k (CardX.cells x) hx 2 _ rfl)) (tv (aP Tryz.underlying109 rfl) (tv (dI rfl rfl) (aF ?_)))))
  refine Tr.keep (env' := [(0, _), (1, _), (5, _), (6, _), (65, _)]) ⟨rfl, rfl, rfl, rfl, rfl, trivial⟩ (aB ?_)
  refine bD rfl (fun hc2 => ?_) (fun hc2 => ?_)
  ·have hltj : j < x.lines.length := by have := of_decide_eq_true hc2; omega
   obtain ⟨z, hzj⟩ : ∃ z, x.lines[j]? = some z := ⟨_, List.getElem?_eq_getElem hltj⟩
   have hz : (x.lines.map CLine.cells)[j]? = some z.cells := by rw [List.getElem?_map, hzj]; rfl
   refine aO (aB (aE (aX (aE (cI cK rfl ?_)))))
   refine dv 0 rfl (.refl _) (aC rfl) (dv 1 rfl (.refl _) (aC rfl) (dv 2 rfl (.refl _) (cL k Tryz.underlying53 dA hA' rfl rfl rfl hlt) (dv 3 rfl (.refl _) (aI eH rfl) (dv 4 rfl (.refl _) (aG gF rfl (hrd k (CardX.cells x) hx 2 _ rfl)) (dv 5 rfl (.refl _) (aC rfl) ?_)))))
   refine dv 6 rfl (.refl _) (cL j Tryz.underlying109 jF hA3 rfl rfl rfl hltj) (dv 7 rfl (.refl _) (cM (v2 := .agg z.cells.toArray) (aY (vs := z.cells) oV rfl (fun i v hv => hrd3 j z.cells hz i v hv) rfl) rfl) (dv 8 rfl (.refl _) (aC rfl) (dv 9 rfl (.refl _) (aC rfl) (dv 10 rfl (.refl _) (cL k Tryz.underlying53 dA hB' rfl rfl rfl hlt) (dv 11 rfl (.refl _) (aI eH rfl) ?_)))))
   refine dv 12 rfl (.refl _) (cM (v2 := .slice (some ⟨y.l.b, 0, none⟩) x.lines.length y.l.c) (aG gF rfl (hrd2 k (CardX.cells y) hy 2 _ rfl)) (by simp only [e1, e2, e3])) (dv 13 rfl (.refl _) (aC rfl) (dv 14 rfl (.refl _) (cL j Tryz.underlying109 jF hA4 rfl rfl rfl hltj) (dv 15 rfl (.refl _) (cM (v2 := .agg z.cells.toArray) (aY (vs := z.cells) oV rfl (fun i v hv => hrd4 j z.cells hz i v hv) rfl) rfl) (dv 16 rfl (.refl _) (cM (v2 := .bool false) (r_neF (aZ6 z z) rfl rfl) (by rw [(bI0 z z).2 rfl]; rfl)) (bQ (by kernel_rfl) ?_)))))
   refine Tr.keep (env' := [(0, _), (1, _), (5, _), (6, _), (84, _)]) ⟨rfl, rfl, rfl, rfl, rfl, trivial⟩ (aB (aR rfl (aO (cX (aB ?_)))))
   refine aA (tv (aC rfl) (tv (cC rfl rfl (by omega)) (tv (aD rfl) (aF (Tr.keep (env' := [(0, _), (1, _), (5, _), (6, _)]) ⟨rfl, rfl, rfl, rfl, trivial⟩ ?_)))))
   refine aB ?_
   refine nD (IH2 (j + 1) (by omega) (by omega)) ⟨rfl, rfl, rfl, rfl, trivial⟩ (.refl _)
  ·skip
   refine cY (aS (aS (bX (cX (aB ?_)))))
   refine aA (tv (aC rfl) (tv (cC rfl rfl (by omega)) (tv (aD rfl) (aF (Tr.keep (env' := [(0, _), (1, _), (5, _)]) ⟨rfl, rfl, rfl, trivial⟩ ?_)))))
   refine aB ?_
   refine nD (IH (k + 1) (by omega) (by omega)) ⟨rfl, rfl, rfl, trivial⟩ (.refl _)
 ·skip
  refine cY (aS (aS (bX (aB (aE ?_)))))
  refine aA (tv (aD rfl) (aF (Tr.keep (env' := [(4, _)]) ⟨rfl, trivial⟩ (aB (aQ ?_)))))
  refine aW rfl rfl (fun w hw => ?_)
  exact ⟨rfl, hw⟩
end
end Go.Proofs.W
