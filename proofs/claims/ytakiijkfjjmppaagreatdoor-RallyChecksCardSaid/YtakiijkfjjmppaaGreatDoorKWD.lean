/-
 What functions of the program that RallyChecks reaches do, one contract each, part 4.
-/
import Derived.Test.YtakiijkfjjmppaaGreatDoorKWC
import Derived.Test.YtakiijkfjjmppaaGreatDoorKSlA
import Derived.Test.YtakiijkfjjmppaaGreatDoorKSlB
set_option linter.unusedVariables false
set_option linter.unusedSimpArgs false
set_option linter.unusedSectionVars false
set_option maxRecDepth 100000
set_option maxHeartbeats 1000000
namespace Go.Proofs.W
open Go Go.Sl Go.RowKit Go.Proofs
attribute [local irreducible] Go.Sl.Eff
theorem aO9 : bY Tryz.prog 182 = some (none) := by kernel_rfl
theorem oO : bY Tryz.prog 27 = some (none) := by kernel_rfl
theorem rJ : bY Tryz.prog 95 = some (none) := by kernel_rfl
theorem pM : bY Tryz.prog 98 = some (none) := by kernel_rfl
theorem bC6 : aV Tryz.prog 95 := aL Tryz.func95 (by kernel_rfl) (by kernel_rfl)
theorem en_98 : aV Tryz.prog 98 := aL Tryz.func98 (by kernel_rfl) (by kernel_rfl)
theorem jL : bC Tryz.prog 100 0 = some 0 := by kernel_rfl
theorem jM : bC Tryz.prog 100 1 = some 1 := by kernel_rfl
theorem iR : bC Tryz.prog 100 2 = some 2 := by kernel_rfl
theorem mW : bC Tryz.prog 100 3 = some 3 := by kernel_rfl
theorem lW : bC Tryz.prog 100 4 = some 4 := by kernel_rfl
theorem jN : bC Tryz.prog 100 5 = some 5 := by kernel_rfl
theorem iS : bC Tryz.prog 100 6 = some 6 := by kernel_rfl
theorem rK : bC Tryz.prog 184 0 = some 0 := by kernel_rfl
theorem bC7 : bC Tryz.prog 184 1 = some 3 := by kernel_rfl
theorem rL : bC Tryz.prog 184 2 = some 4 := by kernel_rfl
theorem gW : (Tryz.prog.info? 100).map (fun i => (i.zero, i.size, i.bytes)) = some (some (.agg #[.int .i64 0, .int .i64 0, .int .i64 0, .int .i64 0, .int .i64 0, .int .i64 0, .int .i64 0]), 7, 56) := by kernel_rfl
structure WLog.Fine (g : WLog) : Prop where
 cars : 1 ≤ g.cars ∧ g.cars ≤ 200
 places : 2 ≤ g.places ∧ g.places ≤ 30
 least : (g.least.length : Int) = g.places - 1
 srcs : g.srcs.length ≤ 50
def WLog.rightB (g : WLog) (r : Rep) (a : Int) : Bool :=
 bif (!eK r.source 0 ((g.srcs.length : Int) - 1) || !eK r.number 0 1000000000) || !eK a 0 1000000000000 then false
 else bif r.kind == 4 then eK r.car 0 (r.number - 1) && (r.place == 0) && (r.time == 0)
 else bif !eK r.car 1 g.cars || !eK r.place 0 (g.places - 1) then false
 else bif r.kind == 1 || r.kind == 2 then eK r.time 0 1000000000000
 else bif r.kind == 3 then r.time == 0 else false
section
variable {w0 : World} {M : List Ent}
theorem nK {g : WLog} {l : WAt} (hb : g.eb l ∈ M) : ∀ w, Ok w0 M w → Calls Tryz.prog 95 #[.pointer (some ⟨l.b, 0, none⟩)] w (fun e w' => e = .returned (.bool true) ∧ Ok w0 M w') := by
 refine enter (vs := [_]) Tryz.func95 rfl Tryz.ntmps95 rfl (aE (aA (tv (aD rfl) (aF (Tr.keep (env' := [(0, _)]) ⟨rfl, trivial⟩ ?_)))))
 refine aB (aE (aA (tv (aC rfl) (tv (nQ Tryz.underlying95 rfl rfl) (tv (aC rfl) ?_)))))
 apply bH 6 (s := 5) (d := 11) rfl
 ·intro hg1 K hK
  refine bE hg1 rfl rfl (aC rfl) (bE hg1 rfl rfl (aM rfl) (bE hg1 rfl rfl (aI rL rfl) (bE hg1 rfl rfl (aG aO9 rfl (aK hb rfl)) (bE hg1 rfl rfl (aN5 Tryz.underlying182 rfl rfl) (tv (bV hg1 rfl rfl) ?_)))))
  iterate 5 refine Tr.weak2 rfl ?_
  exact hK _ (dT hg1)
 ·intro hg1 K hK
  refine aH hg1 rfl rfl rfl rfl (aH hg1 rfl rfl rfl rfl (aH hg1 rfl rfl rfl rfl (aH hg1 rfl rfl rfl rfl (aH hg1 rfl rfl rfl rfl (tv (bW hg1 rfl rfl) ?_)))))
  iterate 5 refine Tr.weak2 rfl ?_
  exact hK _ (dU hg1)
 refine tv (aD rfl) (aF (Tr.keep (env' := [(2, _)]) ⟨rfl, trivial⟩ (aB (aQ (aW rfl rfl (fun w hw => ?_))))))
 exact ⟨rfl, hw⟩
theorem aC2 {g : WLog} {l : WAt} (r : Rep) (a : Int) (hb : g.eb l ∈ M) (hsv : Own 82 2 l.sv (g.srcs.map Src.cells) l.sE) (hf : g.Fine) : ∀ w, Ok w0 M w → Calls Tryz.prog 98 #[.pointer (some ⟨l.b, 0, none⟩), .agg (r.cellsAt a).toArray] w (fun e w' => e = .returned (.bool (g.rightB r a)) ∧ Ok w0 M w') := by
 obtain ⟨sA, sc, hsv', hlen⟩ := Own.len hsv
 have h1 := hf.srcs; have h2 := hf.places
 have hn : (g.srcs.map Src.cells).length = g.srcs.length := by simp
 rw [hn] at hsv'
 have hb : cel l.b 184 [.int .i64 g.cars, .int .i64 g.places, l.lv, .slice sA g.srcs.length sc, .map (some l.mb)] ∈ M := by rw [← hsv']; exact hb
 refine enter (vs := [_, _]) Tryz.func98 rfl Tryz.ntmps98 rfl (aE (aA (te (cH rfl rfl fun b3 => (tv (aD rfl) (aF ?_))))))
 refine Tr.keep (env' := [(0, _), (3, _)]) ⟨rfl, rfl, trivial⟩ (aB (aE (aE (Tr.keep (env' := [(0, _), (3, _)]) ⟨rfl, rfl, trivial⟩ ?_))))
 refine mG [(26, .bool ((!eK r.source 0 ((g.srcs.length : Int) - 1) || !eK r.number 0 1000000000) || !eK a 0 1000000000000))] (fun K hK => ?_) ?_
 ·skip
  refine cI cK rfl (dv 0 rfl (.refl _) (aI jL rfl) (dv 1 rfl (.refl _) (aG bB rfl (aK (.head _) rfl)) (dv 2 rfl (.refl _) (aC rfl) (dv 3 rfl (.refl _) (aM rfl) (dv 4 rfl (.refl _) (aI bC7 rfl) ?_)))))
  refine dv 5 rfl (.refl _) (aG oO rfl (aK (.tail _ hb) rfl)) (dv 6 rfl (.refl _) (aP Tryz.underlying27 rfl) (dv 7 rfl (.refl _) (cP rfl rfl (by omega)) (de 8 rfl (aJ jG rfl rfl rfl rfl (dH _ _ _) (aU (.refl _) (dv 9 rfl (.refl _) (bF rfl) ?_))))))
  refine dv 10 rfl (.refl _) (aC rfl) ?_
  refine dN (s := 15) rfl (fun hd1 => ?_) (fun hd1 => ?_)
  ·skip
   refine dR 11 hd1 rfl (.refl _) rfl rfl (dR 12 hd1 rfl (.refl _) rfl rfl (dR 13 hd1 rfl (.refl _) rfl rfl (dR 14 hd1 rfl (.refl _) rfl rfl (dv 15 rfl (.refl _) (bV hd1 rfl rfl) (dv 16 rfl (.refl _) (aC rfl) ?_)))))
   refine iJ 17 rfl (.refl _) rfl rfl (iJ 18 rfl (.refl _) rfl rfl (iJ 19 rfl (.refl _) rfl rfl (iJ 20 rfl (.refl _) rfl rfl (dv 21 rfl (.refl _) (cG rfl rfl) (bQ (by kernel_rfl) ?_)))))
   exact dF hK ⟨(by first | (simp [dM.get, hd1]; done) | exact absurd hd1 (by decide) | (simp_all [dM.get]; done)), rfl, rfl, trivial⟩ (.refl _)
  ·skip
   refine dS 11 hd1 rfl (.refl _) rfl rfl (aI jM rfl) (dS 12 hd1 rfl (.refl _) rfl rfl (aG bB rfl (aK (.head _) rfl)) (tR 13 hd1 rfl (by kernel_rfl) rfl rfl (aJ jG rfl rfl rfl rfl (dH _ _ _) (aU (.refl _) (dS 14 hd1 rfl (.refl _) rfl rfl (bF rfl) (dv 15 rfl (.refl _) (bW hd1 rfl rfl) ?_))))))
   refine dv 16 rfl (.refl _) (aC rfl) ?_
   refine dN (s := 21) rfl (fun hd2 => ?_) (fun hd2 => ?_)
   ·skip
    refine dR 17 hd2 rfl (.refl _) rfl rfl (dR 18 hd2 rfl (.refl _) rfl rfl (dR 19 hd2 rfl (.refl _) rfl rfl (dR 20 hd2 rfl (.refl _) rfl rfl (dv 21 rfl (.refl _) (bV hd2 rfl rfl) (bQ (by kernel_rfl) ?_)))))
    exact dF hK ⟨(by first | (simp [dM.get, hd1, hd2]; done) | exact absurd hd1 (by decide) | exact absurd hd2 (by decide) | (simp_all [dM.get]; done)), rfl, rfl, trivial⟩ (.refl _)
   ·skip
    refine dS 17 hd2 rfl (.refl _) rfl rfl (aI iS rfl) (dS 18 hd2 rfl (.refl _) rfl rfl (aG bB rfl (aK (.head _) rfl)) (tR 19 hd2 rfl (by kernel_rfl) rfl rfl (aJ jG rfl rfl rfl rfl (dH _ _ _) (aU (.refl _) (dS 20 hd2 rfl (.refl _) rfl rfl (bF rfl) (dv 21 rfl (.refl _) (bW hd2 rfl rfl) ?_))))))
    refine bQ (by kernel_rfl) ?_
    exact dF hK ⟨(by first | (simp [dM.get, hd1, hd2]; done) | exact absurd hd1 (by decide) | exact absurd hd2 (by decide) | (simp_all [dM.get]; done)), rfl, rfl, trivial⟩ (.refl _)
 refine Tr.keep (env' := [(0, _), (3, _), (26, _)]) ⟨rfl, rfl, rfl, trivial⟩ (aB ?_)
 refine bD rfl (fun hv1 => ?_) (fun hv1 => ?_)
 ·skip
  refine aE (aA (tv (aD rfl) (aF (Tr.keep (env' := [(4, _)]) ⟨rfl, trivial⟩ (aB ?_)))))
  refine aQ (aN (aW rfl rfl (fun w hw => (⟨?_, Ok.sub hw (List.sublist_cons_self _ _)⟩))))
  unfold WLog.rightB; rw [hv1]; rfl
 ·skip
  refine aO (aB (aE (aE (aA (tv (aI iR rfl) ?_)))))
  refine tv (aG pM rfl (aK (.head _) rfl)) (tv (cW rfl rfl) (aF (Tr.keep (env' := [(0, _), (3, _), (29, _)]) ⟨rfl, rfl, rfl, trivial⟩ (aB ?_))))
  refine bD rfl (fun hv2 => ?_) (fun hv2 => ?_)
  ·skip
   refine aE (aA (tv (aI mW rfl) (tv (aG bB rfl (aK (.head _) rfl)) (tv (aI jM rfl) (tv (aG bB rfl (aK (.head _) rfl)) ?_)))))
   refine tv (cP rfl rfl (by have h9 := hv1; simp [eK] at h9; omega)) (te (aJ jG rfl rfl rfl rfl (dH _ _ _) (tv (aC rfl) ?_)))
   apply bH 4 (s := 36) (d := 40) rfl
   ·intro hg5 K hK
    refine bE hg5 rfl rfl (aI lW rfl) (bE hg5 rfl rfl (aG bB rfl (aK (.head _) rfl)) (bE hg5 rfl rfl (cW rfl rfl) (tv (bV hg5 rfl rfl) ?_)))
    iterate 3 refine Tr.weak2 rfl ?_
    exact hK _ (dT hg5)
   ·intro hg5 K hK
    refine aH hg5 rfl rfl rfl rfl (aH hg5 rfl rfl rfl rfl (aH hg5 rfl rfl rfl rfl (tv (bW hg5 rfl rfl) ?_)))
    iterate 3 refine Tr.weak2 rfl ?_
    exact hK _ (dU hg5)
   refine tv (aC rfl) ?_
   apply bH 4 (s := 41) (d := 45) rfl
   ·intro hg6 K hK
    refine bE hg6 rfl rfl (aI jN rfl) (bE hg6 rfl rfl (aG bB rfl (aK (.head _) rfl)) (bE hg6 rfl rfl (cW rfl rfl) (tv (bV hg6 rfl rfl) ?_)))
    iterate 3 refine Tr.weak2 rfl ?_
    exact hK _ (dT hg6)
   ·intro hg6 K hK
    refine aH hg6 rfl rfl rfl rfl (aH hg6 rfl rfl rfl rfl (aH hg6 rfl rfl rfl rfl (tv (bW hg6 rfl rfl) ?_)))
    iterate 3 refine Tr.weak2 rfl ?_
    exact hK _ (dU hg6)
   refine tv (aD rfl) (aF (Tr.keep (env' := [(4, _)]) ⟨rfl, trivial⟩ (aB (aQ (aN ?_)))))
   refine aW rfl rfl (fun w hw => (⟨?_, Ok.sub hw (List.sublist_cons_self _ _)⟩))
   simp_all [WLog.rightB]
  ·skip
   refine aO (aB (aE (aE (Tr.keep (env' := [(0, _), (3, _)]) ⟨rfl, rfl, trivial⟩ ?_))))
   refine mG [(66, .bool (!eK r.car 1 g.cars || !eK r.place 0 (g.places - 1)))] (fun K hK => ?_) ?_
   ·skip
    refine cI cK rfl (dv 0 rfl (.refl _) (aI mW rfl) (dv 1 rfl (.refl _) (aG bB rfl (aK (.head _) rfl)) (dv 2 rfl (.refl _) (aC rfl) (dv 3 rfl (.refl _) (aM rfl) (dv 4 rfl (.refl _) (aI rK rfl) ?_)))))
    refine dv 5 rfl (.refl _) (aI gM rfl) (dv 6 rfl (.refl _) (aG bB rfl (aK (.tail _ hb) rfl)) (de 7 rfl (aJ jG rfl rfl rfl rfl (dH _ _ _) (aU (.refl _) (dv 8 rfl (.refl _) (bF rfl) (dv 9 rfl (.refl _) (aC rfl) ?_))))))
    refine dN (s := 55) rfl (fun hd7 => ?_) (fun hd7 => ?_)
    ·skip
     refine dR 10 hd7 rfl (.refl _) rfl rfl (dR 11 hd7 rfl (.refl _) rfl rfl (dR 12 hd7 rfl (.refl _) rfl rfl (dR 13 hd7 rfl (.refl _) rfl rfl (dR 14 hd7 rfl (.refl _) rfl rfl (dR 15 hd7 rfl (.refl _) rfl rfl ?_)))))
     refine dR 16 hd7 rfl (.refl _) rfl rfl (dR 17 hd7 rfl (.refl _) rfl rfl (dR 18 hd7 rfl (.refl _) rfl rfl (dR 19 hd7 rfl (.refl _) rfl rfl (dv 20 rfl (.refl _) (bV hd7 rfl rfl) (bQ (by kernel_rfl) ?_)))))
     exact dF hK ⟨(by first | (simp [dM.get, hd7]; done) | exact absurd hd7 (by decide) | (simp_all [dM.get]; done)), rfl, rfl, trivial⟩ (.refl _)
    ·skip
     refine dS 10 hd7 rfl (.refl _) rfl rfl (aI lW rfl) (dS 11 hd7 rfl (.refl _) rfl rfl (aG bB rfl (aK (.head _) rfl)) (dS 12 hd7 rfl (.refl _) rfl rfl (aC rfl) (dS 13 hd7 rfl (.refl _) rfl rfl (aM rfl) (dS 14 hd7 rfl (.refl _) rfl rfl (aI rK rfl) (dS 15 hd7 rfl (.refl _) rfl rfl (aI kM rfl) ?_)))))
     refine dS 16 hd7 rfl (.refl _) rfl rfl (aG bB rfl (aK (.tail _ hb) rfl)) (dS 17 hd7 rfl (.refl _) rfl rfl (cP rfl rfl (by omega)) (tR 18 hd7 rfl (by kernel_rfl) rfl rfl (aJ jG rfl rfl rfl rfl (dH _ _ _) (aU (.refl _) (dS 19 hd7 rfl (.refl _) rfl rfl (bF rfl) (dv 20 rfl (.refl _) (bW hd7 rfl rfl) ?_))))))
     refine bQ (by kernel_rfl) ?_
     exact dF hK ⟨(by first | (simp [dM.get, hd7]; done) | exact absurd hd7 (by decide) | (simp_all [dM.get]; done)), rfl, rfl, trivial⟩ (.refl _)
   refine Tr.keep (env' := [(3, _), (66, _)]) ⟨rfl, rfl, trivial⟩ (aB ?_)
   refine bD rfl (fun hv3 => ?_) (fun hv3 => ?_)
   ·skip
    refine aE (aA (tv (aD rfl) (aF (Tr.keep (env' := [(4, _)]) ⟨rfl, trivial⟩ (aB ?_)))))
    refine aQ (aN (aW rfl rfl (fun w hw => (⟨?_, Ok.sub hw (List.sublist_cons_self _ _)⟩))))
    unfold WLog.rightB; rw [hv1, hv2, hv3]; rfl
   ·skip
    refine aO (aB (aE (aE (aA (tv (aI iR rfl) ?_)))))
    refine tv (aG pM rfl (aK (.head _) rfl)) (aF (Tr.keep (env' := [(3, _), (68, _)]) ⟨rfl, rfl, trivial⟩ (aB (aX (aE ?_)))))
    refine aE (aA (tv (cW rfl rfl) (tv (aD rfl) (aF (Tr.keep (env' := [(3, _), (68, _), (69, _)]) ⟨rfl, rfl, rfl, trivial⟩ ?_)))))
    refine aB ?_
    refine bD rfl (fun hc9 => ?_) (fun hc9 => ?_)
    ·skip
     refine aO (aB ?_)
     refine bD rfl (fun hc10 => ?_) (fun hc10 => ?_)
     ·skip
      refine aE (aA (tv (aI jN rfl) (tv (aG bB rfl (aK (.head _) rfl)) (te (aJ jG rfl rfl rfl rfl (dH _ _ _) (tv (aD rfl) ?_))))))
      refine aF (Tr.keep (env' := [(4, _)]) ⟨rfl, trivial⟩ (aB (aQ (bM (aN ?_)))))
      refine aW rfl rfl (fun w hw => (⟨?_, Ok.sub hw (List.sublist_cons_self _ _)⟩))
      simp_all [WLog.rightB]
     ·skip
      refine aE (aA (tv (cW rfl rfl) (tv (aD rfl) (aF (Tr.keep (env' := [(3, _), (75, _)]) ⟨rfl, rfl, trivial⟩ ?_)))))
      refine aB ?_
      refine bD rfl (fun hc11 => ?_) (fun hc11 => ?_)
      ·skip
       refine aE (aA (tv (aI jN rfl) (tv (aG bB rfl (aK (.head _) rfl)) (tv (cW rfl rfl) (tv (aD rfl) ?_)))))
       refine aF (Tr.keep (env' := [(4, _)]) ⟨rfl, trivial⟩ (aB (aQ (bM (aN ?_)))))
       refine aW rfl rfl (fun w hw => (⟨?_, Ok.sub hw (List.sublist_cons_self _ _)⟩))
       simp_all [WLog.rightB]
      ·skip
       refine aO (cX (aB (aE (aA (tv (aD rfl) ?_)))))
       refine aF (Tr.keep (env' := [(4, _)]) ⟨rfl, trivial⟩ (aB (aQ (aW rfl rfl (fun w hw => (⟨?_, Ok.sub hw (List.sublist_cons_self _ _)⟩))))))
       simp_all [WLog.rightB]
    ·skip
     refine aA (tv (cW rfl rfl) (tv (aD rfl) (aF (Tr.keep (env' := [(3, _), (68, _), (69, _)]) ⟨rfl, rfl, rfl, trivial⟩ (aB ?_)))))
     refine bD rfl (fun hc12 => ?_) (fun hc12 => ?_)
     ·skip
      refine aE (aA (tv (aI jN rfl) (tv (aG bB rfl (aK (.head _) rfl)) (te (aJ jG rfl rfl rfl rfl (dH _ _ _) (tv (aD rfl) ?_))))))
      refine aF (Tr.keep (env' := [(4, _)]) ⟨rfl, trivial⟩ (aB (aQ (bM (aN ?_)))))
      refine aW rfl rfl (fun w hw => (⟨?_, Ok.sub hw (List.sublist_cons_self _ _)⟩))
      simp_all [WLog.rightB]
     ·skip
      refine aE (aA (tv (cW rfl rfl) (tv (aD rfl) (aF (Tr.keep (env' := [(3, _), (75, _)]) ⟨rfl, rfl, trivial⟩ ?_)))))
      refine aB ?_
      refine bD rfl (fun hc13 => ?_) (fun hc13 => ?_)
      ·skip
       refine aE (aA (tv (aI jN rfl) (tv (aG bB rfl (aK (.head _) rfl)) (tv (cW rfl rfl) (tv (aD rfl) ?_)))))
       refine aF (Tr.keep (env' := [(4, _)]) ⟨rfl, trivial⟩ (aB (aQ (bM (aN ?_)))))
       refine aW rfl rfl (fun w hw => (⟨?_, Ok.sub hw (List.sublist_cons_self _ _)⟩))
       simp_all [WLog.rightB]
      ·skip
       refine aO (cX (aB (aE (aA (tv (aD rfl) ?_)))))
       refine aF (Tr.keep (env' := [(4, _)]) ⟨rfl, trivial⟩ (aB (aQ (aW rfl rfl (fun w hw => (⟨?_, Ok.sub hw (List.sublist_cons_self _ _)⟩))))))
       simp_all [WLog.rightB]
theorem plain_c (r : Rep) (a : Int) : ∀ w, Ok w0 M w → Calls Tryz.prog 100 #[.agg (r.cellsAt a).toArray] w (fun e w' => e = .returned (.agg (r.cellsAt 0).toArray) ∧ Ok w0 M w') := by
 refine enter (vs := [_]) Tryz.func100 rfl Tryz.ntmps100 rfl (aE (aA (te (cH rfl rfl fun b1 => (te (bO gW (l := [.int .i64 0, .int .i64 0, .int .i64 0, .int .i64 0, .int .i64 0, .int .i64 0, .int .i64 0]) rfl rfl fun b2 => (aF ?_)))))))
 refine Tr.keep (env' := [(1, _), (2, _)]) ⟨rfl, rfl, trivial⟩ (aB (aE (aA (tv (aI iS rfl) (te (bR eR rfl rfl rfl (.succ (.succ (.succ (.succ (.succ (.succ .zero)))))) (.there .here) ?_))))))
 refine aF (Tr.keep (env' := [(1, _), (2, _)]) ⟨rfl, rfl, trivial⟩ (aB (aE (aA (tv (aY eY rfl (bL (n := 7) (vs := [_, _, _, _, _, _, _]) (.tail _ (.head _)) rfl) rfl) ?_)))))
 refine te (bJ dP rfl rfl (vs := [_, _, _, _, _, _, _]) rfl rfl (by simp [Value.oneCell']) (.cons .zero (.cons (.succ .zero) (.cons (.succ (.succ .zero)) (.cons (.succ (.succ (.succ .zero))) (.cons (.succ (.succ (.succ (.succ .zero)))) (.cons (.succ (.succ (.succ (.succ (.succ .zero))))) (.cons (.succ (.succ (.succ (.succ (.succ (.succ .zero)))))) .nil))))))) .here (aF (Tr.keep (env' := [(2, _)]) ⟨rfl, trivial⟩ (aB (aQ (sP rfl eY rfl (bL (n := 7) (vs := [_, _, _, _, _, _, _]) (.head _) rfl) rfl (fun w hw => ?_)))))))
 exact ⟨rfl, Ok.sub hw (.cons _ (.cons _ (.refl _)))⟩
theorem aJ9 {g : WLog} {l : WAt} {pb : Nat} (r : Rep) (a : Int) (hb : g.eb l ∈ M) (hsv : Own 82 2 l.sv (g.srcs.map Src.cells) l.sE) (hf : g.Fine) (hp : cel pb 95 [.pointer (some ⟨l.b, 0, none⟩)] ∈ M) : ∀ w, Ok w0 M w → Calls Tryz.prog 97 #[.agg (r.cellsAt a).toArray, .pointer (some ⟨pb, 0, none⟩)] w (fun e w' => e = .returned (.bool (!g.rightB r a)) ∧ Ok w0 M w') := by
 refine enter (vs := [_, _]) Tryz.func97 rfl Tryz.ntmps97 rfl (aE (aA (te (cH rfl rfl fun b2 => (tv (aD rfl) (aF ?_))))))
 refine Tr.keep (env' := [(1, _), (2, _)]) ⟨rfl, rfl, trivial⟩ (aB (aE (aA (tv (aG rJ rfl (aK (.tail _ hp) rfl)) (tv (aY eY rfl (bL (n := 7) (vs := [_, _, _, _, _, _, _]) (.head _) rfl) rfl) ?_)))))
 refine te (aJ en_98 rfl rfl rfl rfl (aC2 r a (.tail _ hb) hsv hf) (tv (bF rfl) (tv (aD rfl) (aF (Tr.keep (env' := [(3, _)]) ⟨rfl, trivial⟩ (aB ?_))))))
 refine aQ (aW rfl rfl (fun w hw => ?_))
 exact ⟨rfl, Ok.sub hw (List.sublist_cons_self _ _)⟩
theorem aC3 {g : WLog} {l : WAt} (car place moment : Int) (hb : g.eb l ∈ M) (hf : g.Fine) : ∀ w, Ok w0 M w → Calls Tryz.prog 101 #[.pointer (some ⟨l.b, 0, none⟩), .int .i64 car, .int .i64 place, .int .i64 moment] w
  (fun e w' => e = .returned (.int .i64 (bif (!eK car 1 g.cars || !eK place 0 (g.places - 1)) || !eK moment 0 1000000000000 then 2 else 0)) ∧ Ok w0 M w') := by
 have h2 := hf.places
 refine enter (vs := [_, _, _, _]) Tryz.func101 rfl Tryz.ntmps101 rfl (aE (aA (tv (aD rfl) (aF (Tr.keep (env' := [(0, _), (1, _), (2, _), (3, _)]) ⟨rfl, rfl, rfl, rfl, trivial⟩ ?_)))))
 refine aB (aE (aE (aA (tv (aC rfl) (te (aJ bC6 rfl rfl rfl rfl (nK hb) ?_))))))
 refine tv (bF rfl) (aF (Tr.keep (env' := [(0, _), (1, _), (2, _), (3, _), (11, _)]) ⟨rfl, rfl, rfl, rfl, rfl, trivial⟩ (aB ?_)))
 refine bD rfl (fun hr => ?_) (fun hr => ?_)
 ·exact absurd hr (by decide)
 ·skip
  refine aO (aB (aE (aE (aA (tv (aC rfl) ?_)))))
  refine tv (aC rfl) (tv (aM rfl) (tv (aI rK rfl) (tv (aI gM rfl) (tv (aG bB rfl (aK hb rfl)) (te (aJ jG rfl rfl rfl rfl (dH _ _ _) ?_))))))
  refine tv (bF rfl) (tv (aC rfl) ?_)
  apply aZ 10 (s := 20) (d := 30) rfl
  ·intro hg2 K hK
   refine bE hg2 rfl rfl (aC rfl) (bE hg2 rfl rfl (aC rfl) (bE hg2 rfl rfl (aM rfl) (bE hg2 rfl rfl (aI rK rfl) (bE hg2 rfl rfl (aI kM rfl) (bE hg2 rfl rfl (aG bB rfl (aK hb rfl)) ?_)))))
   refine bE hg2 rfl rfl (cP rfl rfl (by omega)) (dB hg2 rfl rfl (aJ jG rfl rfl rfl rfl (dH _ _ _) (bE hg2 rfl rfl (bF rfl) (tv (bW hg2 rfl rfl) ?_))))
   iterate 9 refine Tr.weak2 rfl ?_
   exact hK _ (dJ hg2)
  ·intro hg2 K hK
   refine aH hg2 rfl rfl rfl rfl (aH hg2 rfl rfl rfl rfl (aH hg2 rfl rfl rfl rfl (aH hg2 rfl rfl rfl rfl (aH hg2 rfl rfl rfl rfl (aH hg2 rfl rfl rfl rfl ?_)))))
   refine aH hg2 rfl rfl rfl rfl (aH hg2 rfl rfl rfl rfl (aH hg2 rfl rfl rfl rfl (tv (bV hg2 rfl rfl) ?_)))
   iterate 9 refine Tr.weak2 rfl ?_
   exact hK _ (dK hg2)
  refine tv (aC rfl) ?_
  apply aZ 4 (s := 31) (d := 35) rfl
  ·intro hg3 K hK
   refine bE hg3 rfl rfl (aC rfl) (dB hg3 rfl rfl (aJ jG rfl rfl rfl rfl (dH _ _ _) (bE hg3 rfl rfl (bF rfl) (tv (bW hg3 rfl rfl) ?_))))
   iterate 3 refine Tr.weak2 rfl ?_
   exact hK _ (dJ hg3)
  ·intro hg3 K hK
   refine aH hg3 rfl rfl rfl rfl (aH hg3 rfl rfl rfl rfl (aH hg3 rfl rfl rfl rfl (tv (bV hg3 rfl rfl) ?_)))
   iterate 3 refine Tr.weak2 rfl ?_
   exact hK _ (dK hg3)
  refine aF (Tr.keep (env' := [(35, _)]) ⟨rfl, trivial⟩ (aB ?_))
  refine bD rfl (fun hv => ?_) (fun hv => ?_)
  ·skip
   refine aE (aA (tv (aD rfl) (aF (Tr.keep (env' := [(8, _)]) ⟨rfl, trivial⟩ (aB ?_)))))
   refine aQ (aN (aW rfl rfl (fun w hw => (⟨?_, hw⟩))))
   rw [hv]; rfl
  ·skip
   refine aO (aB (aE (aA (tv (aD rfl) (aF ?_)))))
   refine Tr.keep (env' := [(8, _)]) ⟨rfl, trivial⟩ (aB (aQ (aW rfl rfl (fun w hw => (⟨?_, hw⟩)))))
   rw [hv]; rfl
end
end Go.Proofs.W
set_option linter.unusedVariables false
set_option linter.unusedSimpArgs false
set_option linter.unusedSectionVars false
set_option maxRecDepth 100000
namespace Go.Proofs.W
open Go Go.Sl Go.RowKit Go.Proofs
attribute [local irreducible] Go.Sl.Eff
theorem en_100 : aV Tryz.prog 100 := aL Tryz.func100 (by kernel_rfl) (by kernel_rfl)
theorem en_96 : aV Tryz.prog 96 := aL Tryz.func96 (by kernel_rfl) (by kernel_rfl)
theorem en_97 : aV Tryz.prog 97 := aL Tryz.func97 (by kernel_rfl) (by kernel_rfl)
theorem en_99 : aV Tryz.prog 99 := aL Tryz.func99 (by kernel_rfl) (by kernel_rfl)
theorem iz_182 : (Tryz.prog.info? 182).map (·.size) = some 1 := by kernel_rfl
theorem tB : wP Tryz.prog 153 Extern.MapsClone.clone := ⟨_, Tryz.func153, by kernel_rfl, by kernel_rfl, by kernel_rfl, by kernel_rfl⟩
def WLog.add (g : WLog) (r : Rep) (a : Int) : WLog :=
 { g with kv := match aE2 r g.kv with
  | none => aP6 r a g.kv
  | some t => if a < t then aP6 r a g.kv else g.kv }
section
variable {w0 : World} {M : List Ent}
def aP0 : List Value → Rep × Int
 | [.int _ a, .int _ b, .int _ c, .int _ d, .int _ e, .int _ f, .int _ t] => (⟨a, b, c, d, e, f⟩, t)
 | _ => (⟨0, 0, 0, 0, 0, 0⟩, 0)
@[simp] theorem decRep_cells (r : Rep) (t : Int) : aP0 (r.cellsAt t) = (r, t) := rfl
theorem aK0 {b : Nat} {l : List (Rep × Value)} (hm : kE b Rep.enc l ∈ M) : ∀ w, Ok w0 M w → Calls Tryz.prog 99 #[.map (some b)] w (fun e w' => ∃ b', e = .returned (.map (some b')) ∧ True ∧ Ok w0 (kE b' Rep.enc l :: M) w') := by
 refine enter (vs := [_]) Tryz.func99 rfl Tryz.ntmps99 rfl (aE (aA (tv (aD rfl) (aF (Tr.keep (env' := [(0, _)]) ⟨rfl, trivial⟩ ?_)))))
 refine aB (aE (aE (aA (tv (aC rfl) (tv (aN4 Tryz.underlying182 rfl rfl) ?_)))))
 refine aF (Tr.keep (env' := [(0, _), (4, _)]) ⟨rfl, rfl, trivial⟩ (aB ?_))
 refine bD rfl (fun hn => ?_) (fun hn => ?_)
 ·cases hn
 ·skip
  refine aO (aB (aE (aA (tv (aC rfl) (tv (kX Tryz.underlying182 (by simp) rfl) ?_)))))
  refine te ?_
  refine aE4 (T := 182) (b := b) (enc := Rep.enc) (l := l) ?_ ?_ ?_ ?_ ?_
  ·exact tB
  ·rfl
  ·exact hm
  ·rfl
  intro b7
  refine tv (aH1 Tryz.underlying182 (by simp) rfl) (tv (aD rfl) (aF (Tr.keep (env' := [(2, _)]) ⟨rfl, trivial⟩ (aB (aQ ?_)))))
  refine aW rfl rfl (fun w hw => ?_)
  exact ⟨b7, rfl, trivial, hw⟩
theorem aC4 {g : WLog} {l : WAt} {Fr : List Ent} {rb : Nat} (r : Rep) (a : Int) (hsv : Own 82 2 l.sv (g.srcs.map Src.cells) l.sE) (hf : g.Fine) (hrb : cel rb 100 (r.cellsAt a) ∈ Fr) (hok : g.rightB r a = true) (hnew : aE2 r g.kv = none) (hl5 : g.kv.length < 5000) :
  ∀ w, Ok w0 (g.eb l :: g.em l :: Fr) w → Calls Tryz.prog 37 #[.pointer (some ⟨l.b, 0, none⟩), .slice (some ⟨rb, 0, none⟩) 1 1] w (fun e w' => ∃ mb, e = .returned (.int .i64 0) ∧ True ∧ Ok w0 ((g.add r a).eb { l with mb := mb } :: (g.add r a).em { l with mb := mb } :: Fr) w') := by
 have hlen : (g.kv.length : Int) + 1 ≤ 5000 := by omega
 have hput : ∀ v, fO r (encT v) (kvs g.kv) = kvs (g.kv ++ [(r, v)]) := fun v => by rw [aL0 encT, wN hnew]
 have hget : gH r (kvs g.kv) = none := by rw [aK9 encT, hnew]; rfl
 have hadd : g.add r a = { g with kv := g.kv ++ [(r, a)] } := by simp [WLog.add, hnew, wN hnew]
 refine enter (vs := [_, _]) Tryz.func37 rfl Tryz.ntmps37 rfl (aE (aA (te (eL rfl rfl rfl fun b2 => (tv (aD rfl) (aF ?_))))))
 refine Tr.keep (env' := [(1, _), (2, _)]) ⟨rfl, rfl, trivial⟩ (aB (aE (aE (aA (tv (aG rJ rfl (aK (.head _) rfl)) ?_)))))
 refine te (aJ bC6 rfl rfl rfl rfl (nK (g := g) (l := l) (.tail _ (.head _))) (tv (bF rfl) (aF (Tr.keep (env' := [(1, _), (2, _), (13, _)]) ⟨rfl, rfl, rfl, trivial⟩ (aB ?_)))))
 refine bD rfl (fun hr => ?_) (fun hr => ?_)
 ·exact absurd hr (by decide)
 ·skip
  refine aO (aB (aE (aE (aA (tv (aC rfl) ?_)))))
  refine tv (bG rfl rfl) ?_
  refine xM rfl (aJ en_96 rfl rfl rfl rfl (oG (fun y => !g.rightB (aP0 y).1 (aP0 y).2) en_97 (SlRd.one (.tail _ (.tail _ (.tail _ hrb))) rfl) (by
     intro y hy; obtain rfl : y = r.cellsAt a := by simpa using hy
     exact aJ9 r a (.tail _ (.head _)) hsv hf (.head _))) ?_)
  refine aF (Tr.keep (env' := [(1, _), (2, _), (16, _)]) ⟨rfl, rfl, rfl, trivial⟩ (aB ?_))
  refine bD rfl (fun hv => ?_) (fun hv => ?_)
  ·exact absurd (show (!g.rightB r a || false) = true from hv) (by rw [hok]; decide)
  ·skip
   refine aO (aB (aE (aA (tv (aG rJ rfl (aK (.head _) rfl)) (tv (aM rfl) ?_)))))
   refine tv (aI rL rfl) (tv (aG aO9 rfl (aK (.tail _ (.head _)) rfl)) (te (bP en_99 rfl rfl rfl rfl (aK0 (.tail _ (.tail _ (.head _)))) fun b21 _ => (tv (aD rfl) (aF (Tr.keep (env' := [(1, _), (2, _), (5, _)]) ⟨rfl, rfl, rfl, trivial⟩ ?_))))))
   refine aB (aE (aE (aA (tv (aC rfl) (tv (aP Tryz.underlying56 rfl) ?_)))))
   refine tv (aC rfl) (aF (Tr.keep (env' := [(2, _), (5, _), (22, _), (23, _), (24, _)]) ⟨rfl, rfl, rfl, rfl, rfl, trivial⟩ (aB (aX (dW (fun k : Nat => [(2, .pointer (some ⟨b2, 0, none⟩)), (5, .map (some b21)), (22, .slice (some ⟨rb, 0, none⟩) 1 1), (23, .int .i64 1), (24, .int .i64 (k : Int))]) (fun k : Nat => kE b21 Rep.enc (kvs (if k = 0 then g.kv else g.kv ++ [(r, a)])) :: cel b2 95 [.pointer (some ⟨l.b, 0, none⟩)] :: g.eb l :: g.em l :: Fr) (fun k : Nat => k ≤ 1) (fun k : Nat => 1 - k) 0 (by omega) ⟨rfl, rfl, rfl, rfl, rfl, trivial⟩ (.refl _) ?_)))))
   intro K k hk IH
   refine aE (aA (tv (dI rfl rfl) (aF (Tr.keep (env' := [(2, _), (5, _), (22, _), (23, _), (24, _), (25, _)]) ⟨rfl, rfl, rfl, rfl, rfl, rfl, trivial⟩ (aB ?_)))))
   refine aE ?_
   refine bD rfl (fun hc1 => ?_) (fun hc1 => ?_)
   ·have hlt : k < 1 := by have := of_decide_eq_true hc1; omega
    obtain rfl : k = 0 := by omega
    rw [if_pos rfl]
    refine aO (aB (aE (aX (aE (aA ?_)))))
    refine tv (dE (j := 0) Tryz.underlying56 dP rfl rfl rfl (by decide)) (tv (aY eY rfl (bL (n := 7) (vs := [_, _, _, _, _, _, _]) (.tail _ (.tail _ (.tail _ (.tail _ hrb)))) rfl) rfl) (te (bO gW (l := [.int .i64 0, .int .i64 0, .int .i64 0, .int .i64 0, .int .i64 0, .int .i64 0, .int .i64 0]) rfl rfl fun b7 => (te (bJ dP rfl rfl (vs := [_, _, _, _, _, _, _]) rfl rfl (by simp [Value.oneCell']) (.cons .zero (.cons (.succ .zero) (.cons (.succ (.succ .zero)) (.cons (.succ (.succ (.succ .zero))) (.cons (.succ (.succ (.succ (.succ .zero)))) (.cons (.succ (.succ (.succ (.succ (.succ .zero))))) (.cons (.succ (.succ (.succ (.succ (.succ (.succ .zero)))))) .nil))))))) .here (aF (Tr.keep (env' := [(2, _), (5, _), (7, _), (22, _), (23, _), (24, _)]) ⟨rfl, rfl, rfl, rfl, rfl, rfl, trivial⟩ ?_)))))))
    refine aB (aE (aA (tv (aY eY rfl (bL (n := 7) (vs := [_, _, _, _, _, _, _]) (.head _) rfl) rfl) (te (aJ en_100 rfl rfl rfl rfl (plain_c r a) (te (bO gW (l := [.int .i64 0, .int .i64 0, .int .i64 0, .int .i64 0, .int .i64 0, .int .i64 0, .int .i64 0]) rfl rfl fun b8 => ?_)))))))
    refine te (bJ dP rfl rfl (vs := [_, _, _, _, _, _, _]) rfl rfl (by simp [Value.oneCell']) (.cons .zero (.cons (.succ .zero) (.cons (.succ (.succ .zero)) (.cons (.succ (.succ (.succ .zero))) (.cons (.succ (.succ (.succ (.succ .zero)))) (.cons (.succ (.succ (.succ (.succ (.succ .zero))))) (.cons (.succ (.succ (.succ (.succ (.succ (.succ .zero)))))) .nil))))))) .here (aF (Tr.keep (env' := [(2, _), (5, _), (7, _), (8, _), (22, _), (23, _), (24, _)]) ⟨rfl, rfl, rfl, rfl, rfl, rfl, rfl, trivial⟩ (aB (aE (aA ?_))))))
    refine tv (aC rfl) (tv (aY eY rfl (bL (n := 7) (vs := [_, _, _, _, _, _, _]) (.head _) rfl) rfl) (tv (fF (v' := .tuple #[.int .i64 0, .bool false]) (pJ r Tryz.underlying182 bH8 eQ rfl rfl (.tail _ (.tail _ (.head _)))) (by rw [hget]; rfl)) (tv (aC rfl) (tv (bA rfl rfl) (tv (bA rfl rfl) ?_)))))
    refine tv (aD rfl) (tv (aD rfl) (aF (Tr.keep (env' := [(2, _), (5, _), (7, _), (8, _), (9, _), (10, _), (22, _), (23, _), (24, _)]) ⟨rfl, rfl, rfl, rfl, rfl, rfl, rfl, rfl, rfl, trivial⟩ (aB (aE ?_)))))
    refine aA (tv (aC rfl) (tv (bF rfl) (tv (aC rfl) ?_)))
    apply aZ 5 (s := 38) (d := 43) rfl
    ·intro hg4 K hK
     refine bE hg4 rfl rfl (aI iS rfl) (bE hg4 rfl rfl (aG bB rfl (aK (.tail _ (.head _)) rfl)) (bE hg4 rfl rfl (aC rfl) (bE hg4 rfl rfl (dI rfl rfl) (tv (bW hg4 rfl rfl) ?_))))
     iterate 4 refine Tr.weak2 rfl ?_
     exact hK _ (dJ hg4)
    ·intro hg4 K hK
     refine aH hg4 rfl rfl rfl rfl (aH hg4 rfl rfl rfl rfl (aH hg4 rfl rfl rfl rfl (aH hg4 rfl rfl rfl rfl (tv (bV hg4 rfl rfl) ?_))))
     iterate 4 refine Tr.weak2 rfl ?_
     exact hK _ (dK hg4)
    refine aF (Tr.keep (env' := [(2, _), (5, _), (7, _), (8, _), (22, _), (23, _), (24, _), (43, _)]) ⟨rfl, rfl, rfl, rfl, rfl, rfl, rfl, rfl, trivial⟩ (aB ?_))
    refine bD rfl (fun hm => ?_) (fun hm => ?_)
    ·skip
     refine aA (tv (aC rfl) (tv (aY eY rfl (bL (n := 7) (vs := [_, _, _, _, _, _, _]) (.head _) rfl) rfl) (tv (aI iS rfl) (tv (aG bB rfl (aK (.tail _ (.head _)) rfl)) (te (aN3 (a := r) Tryz.underlying182 bH8 rfl rfl rfl (.there (.there .here)) ?_))))))
     refine aF (Tr.keep (env' := [(2, _), (5, _), (22, _), (23, _), (24, _)]) ⟨rfl, rfl, rfl, rfl, rfl, trivial⟩ (cX (aB (aA (tv (cC rfl rfl (by omega)) ?_)))))
     refine tv (aC rfl) (aF (Tr.keep (env' := [(2, _), (5, _), (22, _), (23, _), (24, _)]) ⟨rfl, rfl, rfl, rfl, rfl, trivial⟩ (aB ?_)))
     refine nD (IH 1 (by omega) (by omega)) ⟨rfl, rfl, rfl, rfl, rfl, trivial⟩ (by rw [if_neg (by decide), ← hput a]; exact (.cons _ (.cons _ (.refl _))))
    ·exact absurd (show true = false from hm) (by decide)
   ·have h9 : ¬ k < 1 := by have := of_decide_eq_false hc1; omega
    obtain rfl : k = 1 := by omega
    rw [if_neg (by decide)]
    refine cY (aS (aS (bX (aB (aE ?_)))))
    refine aE (aA (tv (aC rfl) (tv (bA0 Tryz.underlying182 rfl (.head _)) (tv (fC rfl rfl) (aF ?_)))))
    refine Tr.keep (env' := [(2, _), (5, _), (51, _)]) ⟨rfl, rfl, rfl, trivial⟩ (aB ?_)
    refine bD rfl (fun hl => ?_) (fun hl => ?_)
    ·have := of_decide_eq_true hl
     simp at this
     omega
    ·skip
     refine aO (aB (aE (aA (tv (aG rJ rfl (aK (.tail _ (.head _)) rfl)) (tv (aC rfl) ?_)))))
     refine tv (aM rfl) (tv (aI rL rfl) (te (bR iz_182 rfl rfl rfl (.succ (.succ (.succ (.succ .zero)))) (.there (.there .here)) (aF (Tr.keep (env' := []) trivial (aB ?_))))))
     refine aE (aA (tv (aD rfl) (aF (Tr.keep (env' := [(4, _)]) ⟨rfl, trivial⟩ (aB ?_)))))
     refine aQ (aW rfl rfl (fun w hw => ?_))
     exact ⟨b21, rfl, trivial, by rw [hadd]; exact (hw.perm (pk (.there (.there .here)) (pk .here (.refl _)))).sub (.cons_cons _ (.cons_cons _ (.cons _ (.cons _ (.refl _)))))⟩
end
end Go.Proofs.W
set_option linter.unusedVariables false
set_option linter.unusedSimpArgs false
set_option linter.unusedSectionVars false
set_option maxRecDepth 100000
namespace Go.Proofs.W
open Go Go.Sl Go.RowKit Go.Proofs
attribute [local irreducible] Go.Sl.Eff
theorem bC8 : aV Tryz.prog 121 := aL Tryz.func121 (by kernel_rfl) (by kernel_rfl)
theorem qD : aV Tryz.prog 122 := aL Tryz.func122 (by kernel_rfl) (by kernel_rfl)
theorem en_161 : aV Tryz.prog 161 := aL Tryz.func161 (by kernel_rfl) (by kernel_rfl)
theorem bC9 : aV Tryz.prog 169 := aL Tryz.func169 (by kernel_rfl) (by kernel_rfl)
theorem bD0 : aV Tryz.prog 226 := aL Tryz.func226 (by kernel_rfl) (by kernel_rfl)
def iO (a b : Int) : Int := if a < b then -1 else if b < a then 1 else 0
def orI : List Int → Int
 | [] => 0
 | x :: xs => if x != 0 then x else orI xs
def tC (r s : Rep) : Int := orI [iO r.source s.source, iO r.number s.number, iO r.kind s.kind, iO r.car s.car, iO r.place s.place, iO r.time s.time]
section
variable {w0 : World} {M : List Ent}
theorem uD (a : Int) : ∀ w, Ok w0 M w → Calls Tryz.prog 169 #[.int .i64 a] w (fun e w' => e = .returned (.bool false) ∧ Ok w0 M w') := by
 refine enter (vs := [_]) Tryz.func169 rfl Tryz.ntmps169 rfl (aE (aA (tv (aD rfl) (aF (Tr.keep (env' := [(0, _)]) ⟨rfl, trivial⟩ ?_)))))
 refine aB (aE (aA (tv (aC rfl) (tv (aC rfl) (tv (eF rfl rfl) ?_)))))
 refine tv (aD rfl) (aF (Tr.keep (env' := [(2, _)]) ⟨rfl, trivial⟩ (aB (aQ (aW rfl rfl (fun w hw => ?_))))))
 exact ⟨by simp, hw⟩
theorem gE (a b : Int) : ∀ w, Ok w0 M w → Calls Tryz.prog 122 #[.int .i64 a, .int .i64 b] w (fun e w' => e = .returned (.int .i64 (iO a b)) ∧ Ok w0 M w') := by
 refine enter (vs := [_, _]) Tryz.func122 rfl Tryz.ntmps122 rfl (aE (aA (tv (aD rfl) (aF (Tr.keep (env' := [(0, _), (1, _)]) ⟨rfl, rfl, trivial⟩ ?_)))))
 refine aB (aE (aA (tv (aC rfl) (te (aJ bC9 rfl rfl rfl rfl (uD _) (tv (aD rfl) ?_))))))
 refine aF (Tr.keep (env' := [(0, _), (1, _), (5, _)]) ⟨rfl, rfl, rfl, trivial⟩ (aB (aE (aA (tv (aC rfl) ?_)))))
 refine te (aJ bC9 rfl rfl rfl rfl (uD _) (tv (aD rfl) (aF (Tr.keep (env' := [(0, _), (1, _), (5, _), (6, _)]) ⟨rfl, rfl, rfl, rfl, trivial⟩ (aB (aE ?_))))))
 refine aE (aA (tv (aC rfl) (aF (Tr.keep (env' := [(0, _), (1, _), (6, _), (11, _)]) ⟨rfl, rfl, rfl, rfl, trivial⟩ (aB ?_)))))
 refine bD rfl (fun hn1 => ?_) (fun hn1 => ?_)
 ·cases hn1
 ·skip
  refine aO (aB (aE (aE (aA (tv (aC rfl) ?_)))))
  refine aF (Tr.keep (env' := [(0, _), (1, _), (13, _)]) ⟨rfl, rfl, rfl, trivial⟩ (aB ?_))
  refine bD rfl (fun hn2 => ?_) (fun hn2 => ?_)
  ·cases hn2
  ·skip
   refine aO (aB (aE (aE (aA (tv (aC rfl) ?_)))))
   refine tv (aC rfl) (tv (dI rfl rfl) (aF (Tr.keep (env' := [(0, _), (1, _), (16, _)]) ⟨rfl, rfl, rfl, trivial⟩ (aB ?_))))
   refine bD rfl (fun hl => ?_) (fun hl => ?_)
   ·skip
    refine aE (aA (tv (aD rfl) (aF (Tr.keep (env' := [(4, _)]) ⟨rfl, trivial⟩ (aB ?_)))))
    refine aQ (aN (aW rfl rfl (fun w hw => (⟨?_, hw⟩))))
    simp_all [iO]
   ·skip
    refine aO (aB (aE (aE (aA (tv (aC rfl) ?_)))))
    refine tv (aC rfl) (tv (fC rfl rfl) (aF (Tr.keep (env' := [(19, _)]) ⟨rfl, trivial⟩ (aB ?_))))
    refine bD rfl (fun hg => ?_) (fun hg => ?_)
    ·skip
     refine aE (aA (tv (aD rfl) (aF (Tr.keep (env' := [(4, _)]) ⟨rfl, trivial⟩ (aB ?_)))))
     refine aQ (aN (aW rfl rfl (fun w hw => (⟨?_, hw⟩))))
     simp_all [iO]
    ·skip
     refine aO (aB (aE (aA (tv (aD rfl) (aF ?_)))))
     refine Tr.keep (env' := [(4, _)]) ⟨rfl, trivial⟩ (aB (aQ (aW rfl rfl (fun w hw => (⟨?_, hw⟩)))))
     have h1 : ¬ a < b := of_decide_eq_false hl
     have h2 : ¬ b < a := of_decide_eq_false hg
     simp [iO, h1, h2]
theorem rM (a : Int) : ∀ w, Ok w0 M w → Calls Tryz.prog 226 #[.int .i64 a] w (fun e w' => e = .returned (.bool false) ∧ Ok w0 M w') := by
 refine enter (vs := [_]) Tryz.func226 rfl Tryz.ntmps226 rfl (aE (aA (tv (aD rfl) (aF (Tr.keep (env' := [(0, _)]) ⟨rfl, trivial⟩ ?_)))))
 refine aB (aE (aA (tv (aC rfl) (tv (aC rfl) (tv (eF rfl rfl) ?_)))))
 refine tv (aD rfl) (aF (Tr.keep (env' := [(2, _)]) ⟨rfl, trivial⟩ (aB (aQ (aW rfl rfl (fun w hw => ?_))))))
 exact ⟨by simp, hw⟩
theorem wC (a b : Int) : ∀ w, Ok w0 M w → Calls Tryz.prog 161 #[.int .i64 a, .int .i64 b] w (fun e w' => e = .returned (.int .i64 (iO a b)) ∧ Ok w0 M w') := by
 refine enter (vs := [_, _]) Tryz.func161 rfl Tryz.ntmps161 rfl (aE (aA (tv (aD rfl) (aF (Tr.keep (env' := [(0, _), (1, _)]) ⟨rfl, rfl, trivial⟩ ?_)))))
 refine aB (aE (aA (tv (aC rfl) (te (aJ bD0 rfl rfl rfl rfl (rM _) (tv (aD rfl) ?_))))))
 refine aF (Tr.keep (env' := [(0, _), (1, _), (5, _)]) ⟨rfl, rfl, rfl, trivial⟩ (aB (aE (aA (tv (aC rfl) ?_)))))
 refine te (aJ bD0 rfl rfl rfl rfl (rM _) (tv (aD rfl) (aF (Tr.keep (env' := [(0, _), (1, _), (5, _), (6, _)]) ⟨rfl, rfl, rfl, rfl, trivial⟩ (aB (aE ?_))))))
 refine aE (aA (tv (aC rfl) (aF (Tr.keep (env' := [(0, _), (1, _), (6, _), (11, _)]) ⟨rfl, rfl, rfl, rfl, trivial⟩ (aB ?_)))))
 refine bD rfl (fun hn1 => ?_) (fun hn1 => ?_)
 ·cases hn1
 ·skip
  refine aO (aB (aE (aE (aA (tv (aC rfl) ?_)))))
  refine aF (Tr.keep (env' := [(0, _), (1, _), (13, _)]) ⟨rfl, rfl, rfl, trivial⟩ (aB ?_))
  refine bD rfl (fun hn2 => ?_) (fun hn2 => ?_)
  ·cases hn2
  ·skip
   refine aO (aB (aE (aE (aA (tv (aC rfl) ?_)))))
   refine tv (aC rfl) (tv (dI rfl rfl) (aF (Tr.keep (env' := [(0, _), (1, _), (16, _)]) ⟨rfl, rfl, rfl, trivial⟩ (aB ?_))))
   refine bD rfl (fun hl => ?_) (fun hl => ?_)
   ·skip
    refine aE (aA (tv (aD rfl) (aF (Tr.keep (env' := [(4, _)]) ⟨rfl, trivial⟩ (aB ?_)))))
    refine aQ (aN (aW rfl rfl (fun w hw => (⟨?_, hw⟩))))
    simp_all [iO]
   ·skip
    refine aO (aB (aE (aE (aA (tv (aC rfl) ?_)))))
    refine tv (aC rfl) (tv (fC rfl rfl) (aF (Tr.keep (env' := [(19, _)]) ⟨rfl, trivial⟩ (aB ?_))))
    refine bD rfl (fun hg => ?_) (fun hg => ?_)
    ·skip
     refine aE (aA (tv (aD rfl) (aF (Tr.keep (env' := [(4, _)]) ⟨rfl, trivial⟩ (aB ?_)))))
     refine aQ (aN (aW rfl rfl (fun w hw => (⟨?_, hw⟩))))
     simp_all [iO]
    ·skip
     refine aO (aB (aE (aA (tv (aD rfl) (aF ?_)))))
     refine Tr.keep (env' := [(4, _)]) ⟨rfl, trivial⟩ (aB (aQ (aW rfl rfl (fun w hw => (⟨?_, hw⟩)))))
     have h1 : ¬ a < b := of_decide_eq_false hl
     have h2 : ¬ b < a := of_decide_eq_false hg
     simp [iO, h1, h2]
theorem aK1 {A : Option Addr} {n c : Nat} {xs : List Int} (hs : SlRd w0 M 1 A n (xs.map encI)) : ∀ w, Ok w0 M w → Calls Tryz.prog 121 #[.slice A n c] w (fun e w' => e = .returned (.int .i64 (orI xs)) ∧ Ok w0 M w') := by
 have hn : xs.length = n := by simpa using hs.len
 have hbig := hs.big
 have key : ∀ k, k ≤ n → (∀ j, j < k → xs[j]? = some 0) → orI xs = orI (xs.drop k) := by
  intro k
  induction k with
  | zero => intro _ _; simp
  | succ k ih =>
   intro hk h
   rw [ih (by omega) (fun j hj => h j (by omega))]
   obtain ⟨h1, h2⟩ := List.getElem?_eq_some_iff.1 (h k (by omega))
   rw [List.drop_eq_getElem_cons h1, h2]
   simp [orI]
 refine enter (vs := [_]) Tryz.func121 rfl Tryz.ntmps121 rfl (aE (aA (tv (aD rfl) (aF (Tr.keep (env' := [(0, _)]) ⟨rfl, trivial⟩ ?_)))))
 refine aB (aE (aA (tv (aD rfl) (aF (Tr.keep (env' := [(0, _), (3, _)]) ⟨rfl, rfl, trivial⟩ ?_)))))
 refine aB (aE (aE (aA (tv (aC rfl) (tv (aP Tryz.underlying24 rfl) ?_)))))
 refine tv (aC rfl) (aF (Tr.keep (env' := [(3, _), (6, _), (7, _), (8, _)]) ⟨rfl, rfl, rfl, rfl, trivial⟩ (aB (aX (dW (fun k : Nat => [(3, .int .i64 0), (6, .slice A n c), (7, .int .i64 (n : Int)), (8, .int .i64 (k : Int))]) (fun k : Nat => M) (fun k : Nat => k ≤ n ∧ (∀ j, j < k → xs[j]? = some 0)) (fun k : Nat => n - k) 0 ⟨by omega, by omega⟩ ⟨rfl, rfl, rfl, rfl, trivial⟩ (.refl _) ?_)))))
 intro K k ⟨hk, hp⟩ IH
 refine aE (aA (tv (dI rfl rfl) (aF (Tr.keep (env' := [(3, _), (6, _), (7, _), (8, _), (9, _)]) ⟨rfl, rfl, rfl, rfl, rfl, trivial⟩ (aB ?_)))))
 refine aE ?_
 refine bD rfl (fun hc1 => ?_) (fun hc1 => ?_)
 ·have hlt : k < n := by have := of_decide_eq_true hc1; omega
  obtain ⟨b, o, hA, hrd⟩ := hs.at' (by omega)
  obtain ⟨x, hx⟩ : ∃ x, xs[k]? = some x := ⟨_, List.getElem?_eq_getElem (by omega)⟩
  have hx' : (xs.map encI)[k]? = some (encI x) := by simp [hx]
  refine aO (aB (aE (aX (aE (aA ?_)))))
  refine tv (cL k Tryz.underlying24 eR hA rfl rfl rfl hlt) (tv (aG bB rfl (hrd k (encI x) hx' 0 _ rfl)) (tv (aD rfl) (aF (Tr.keep (env' := [(3, _), (5, _), (6, _), (7, _), (8, _)]) ⟨rfl, rfl, rfl, rfl, rfl, trivial⟩ (aB ?_)))))
  refine aE (aA (tv (aC rfl) (tv (aC rfl) (tv (eF rfl rfl) (aF ?_)))))
  refine Tr.keep (env' := [(3, _), (5, _), (6, _), (7, _), (8, _), (14, _)]) ⟨rfl, rfl, rfl, rfl, rfl, rfl, trivial⟩ (aB ?_)
  refine bD rfl (fun hc2 => ?_) (fun hc2 => ?_)
  ·skip
   refine aE (aA (tv (aC rfl) (tv (aD rfl) (aF (Tr.keep (env' := [(2, _)]) ⟨rfl, trivial⟩ ?_)))))
   refine aB (aQ (bM (aN (aN (bM ?_)))))
   refine aN (aW rfl rfl (fun w hw => (⟨?_, hw⟩)))
   rw [key k (by omega) hp]
   obtain ⟨h1, h2⟩ := List.getElem?_eq_some_iff.1 hx
   rw [List.drop_eq_getElem_cons h1, h2, orI, if_pos hc2]
  ·skip
   refine aO (cX (aB (aA (tv (cC rfl rfl (by omega)) (tv (aC rfl) ?_)))))
   refine aF (Tr.keep (env' := [(3, _), (6, _), (7, _), (8, _)]) ⟨rfl, rfl, rfl, rfl, trivial⟩ (aB (nD (IH (k + 1) ⟨by omega, fun j hj => ?_⟩ (by omega)) ⟨rfl, rfl, rfl, rfl, trivial⟩ (.refl _))))
   rcases Nat.lt_or_ge j k with h | h
   ·exact hp j h
   ·obtain rfl : j = k := by omega
    rw [hx]; simpa using hc2
 ·have h9 : ¬ k < n := by have := of_decide_eq_false hc1; omega
  obtain rfl : k = n := by omega
  refine cY (aS (aS (bX (aB (aE ?_)))))
  refine aA (tv (aC rfl) (tv (aD rfl) (aF (Tr.keep (env' := [(2, _)]) ⟨rfl, trivial⟩ (aB ?_)))))
  refine aQ (aW rfl rfl (fun w hw => (⟨?_, hw⟩)))
  rw [key k (by omega) hp, List.drop_eq_nil_of_le (by omega)]
  rfl
theorem aU9 (r s : Rep) (a b : Int) : ∀ w, Ok w0 M w → Calls Tryz.prog 105 #[.agg (r.cellsAt a).toArray, .agg (s.cellsAt b).toArray] w (fun e w' => e = .returned (.int .i64 (tC r s)) ∧ Ok w0 M w') := by
 refine enter (vs := [_, _]) Tryz.func105 rfl Tryz.ntmps105 rfl (aE (aA (te (cH rfl rfl fun b2 => (te (cH rfl rfl fun b3 => (tv (aD rfl) ?_)))))))
 refine aF (Tr.keep (env' := [(2, _), (3, _)]) ⟨rfl, rfl, trivial⟩ (aB (aE (cI cK rfl (dv 0 rfl (.refl _) (aI jL rfl) ?_)))))
 refine dv 1 rfl (.refl _) (aG bB rfl (aK (.tail _ (.head _)) rfl)) (dv 2 rfl (.refl _) (aI jL rfl) (dv 3 rfl (.refl _) (aG bB rfl (aK (.head _) rfl)) (dv 5 rfl (.refl _) (aI jM rfl) (dv 6 rfl (.refl _) (aG bB rfl (aK (.tail _ (.head _)) rfl)) (dv 7 rfl (.refl _) (aI jM rfl) ?_)))))
 refine dv 8 rfl (.refl _) (aG bB rfl (aK (.head _) rfl)) (dv 10 rfl (.refl _) (aI iR rfl) (dv 11 rfl (.refl _) (aG pM rfl (aK (.tail _ (.head _)) rfl)) (dv 12 rfl (.refl _) (aI iR rfl) (dv 13 rfl (.refl _) (aG pM rfl (aK (.head _) rfl)) (dv 15 rfl (.refl _) (aI mW rfl) ?_)))))
 refine dv 16 rfl (.refl _) (aG bB rfl (aK (.tail _ (.head _)) rfl)) (dv 17 rfl (.refl _) (aI mW rfl) (dv 18 rfl (.refl _) (aG bB rfl (aK (.head _) rfl)) (dv 20 rfl (.refl _) (aI lW rfl) (dv 21 rfl (.refl _) (aG bB rfl (aK (.tail _ (.head _)) rfl)) (dv 22 rfl (.refl _) (aI lW rfl) ?_)))))
 refine dv 23 rfl (.refl _) (aG bB rfl (aK (.head _) rfl)) (dv 25 rfl (.refl _) (aI jN rfl) (dv 26 rfl (.refl _) (aG bB rfl (aK (.tail _ (.head _)) rfl)) (dv 27 rfl (.refl _) (aI jN rfl) (dv 28 rfl (.refl _) (aG bB rfl (aK (.head _) rfl)) (de 4 rfl (aJ qD rfl rfl rfl rfl (gE _ _) ?_))))))
 refine aU (.refl _) (de 9 rfl (aJ qD rfl rfl rfl rfl (gE _ _) (aU (.refl _) (de 14 rfl (aJ en_161 rfl rfl rfl rfl (wC _ _) (aU (.refl _) (de 19 rfl (aJ qD rfl rfl rfl rfl (gE _ _) ?_))))))))
 refine aU (.refl _) (de 24 rfl (aJ qD rfl rfl rfl rfl (gE _ _) (aU (.refl _) (de 29 rfl (aJ qD rfl rfl rfl rfl (gE _ _) (aU (.refl _) (de 30 rfl (bN (E := 3) (l := bT ([iO r.source s.source, iO r.number s.number, iO r.kind s.kind, iO r.car s.car, iO r.place s.place, iO r.time s.time].map encI)) rfl (fun w => by kernel_rfl) rfl fun b35 => ?_))))))))
 refine aU (.cons _ (.refl _)) (de 31 rfl (aJ bC8 rfl rfl rfl rfl (aK1 (xs := [iO r.source s.source, iO r.number s.number, iO r.kind s.kind, iO r.car s.car, iO r.place s.place, iO r.time s.time]) (SlRd.of_list encI mZ (.head _) rfl (by decide))) (aU (.cons _ (.refl _)) (dv 32 rfl (.cons _ (.refl _)) (aD rfl) (bQ (by kernel_rfl) (Tr.keep (env' := [(4, _)]) ⟨rfl, trivial⟩ ?_))))))
 refine aB (aQ (aW rfl rfl (fun w hw => ?_)))
 exact ⟨rfl, Ok.sub hw (.cons _ (.cons _ (.cons _ (.refl _))))⟩
end
end Go.Proofs.W
set_option linter.unusedVariables false
set_option linter.unusedSimpArgs false
set_option linter.unusedSectionVars false
set_option maxRecDepth 100000
namespace Go.Proofs.W
open Go Go.Sl Go.RowKit Go.Proofs
attribute [local irreducible] Go.Sl.Eff
theorem bD1 : aV Tryz.prog 105 := aL Tryz.func105 (by kernel_rfl) (by kernel_rfl)
theorem bD2 : aV Tryz.prog 159 := aL Tryz.func159 (by kernel_rfl) (by kernel_rfl)
theorem bD3 : aV Tryz.prog 160 := aL Tryz.func160 (by kernel_rfl) (by kernel_rfl)
theorem bD4 : aV Tryz.prog 216 := aL Tryz.func216 (by kernel_rfl) (by kernel_rfl)
theorem en_225 : aV Tryz.prog 225 := aL Tryz.func225 (by kernel_rfl) (by kernel_rfl)
section
variable {w0 : World} {M : List Ent}
theorem aX9 : ∀ w, Ok w0 M w → Calls Tryz.prog 225 #[.int .u64 2] w (fun e w' => e = .returned (.int .i64 2) ∧ Ok w0 M w') := by
 refine enter (vs := [_]) Tryz.func225 rfl Tryz.ntmps225 rfl (aE (aA (tv (aD rfl) (aF (Tr.keep (env' := [(0, _), (2, _)]) ⟨rfl, rfl, trivial⟩ ?_)))))
 refine aB (aE (aE (aA (tv (aC rfl) (tv (fI rfl rfl) ?_)))))
 refine aF (Tr.keep (env' := [(0, _), (2, _), (4, _)]) ⟨rfl, rfl, rfl, trivial⟩ (aB (aR rfl (aO (aB ?_)))))
 refine aE (aE (aA (tv (aC rfl) (tv (fI rfl rfl) (aF ?_)))))
 refine Tr.keep (env' := [(0, _), (2, _), (8, _)]) ⟨rfl, rfl, rfl, trivial⟩ (aB (aR rfl (aO (aB (aE ?_)))))
 refine aE (aA (tv (aC rfl) (tv (fI rfl rfl) (aF (Tr.keep (env' := [(0, _), (2, _), (14, _)]) ⟨rfl, rfl, rfl, trivial⟩ ?_)))))
 refine aB (aR rfl (aO (aB (aE (aA ?_)))))
 refine tv (aC rfl) (tv (aC rfl) (tv (hD Tryz.underlying177 Tryz.underlying5 rfl (by decide : IntKind.u8.wrap 2 = 2)) (tv (qV (b := 2) 2 Tryz.underlying9 rfl rfl rfl (by kernel_rfl)) (tv (hD Tryz.underlying5 Tryz.underlying3 rfl (by decide : IntKind.i64.wrap ((2 : UInt8).toNat : Int) = 2)) (tv (cC rfl rfl (by omega)) ?_)))))
 refine tv (aD rfl) (aF (Tr.keep (env' := [(2, _)]) ⟨rfl, trivial⟩ (aB (aQ (aW rfl rfl (fun w hw => ?_))))))
 exact ⟨rfl, hw⟩
theorem aV0 : ∀ w, Ok w0 M w → Calls Tryz.prog 160 #[.int .u64 2] w (fun e w' => e = .returned (.int .i64 2) ∧ Ok w0 M w') := by
 refine enter (vs := [_]) Tryz.func160 rfl Tryz.ntmps160 rfl (aE (aA (tv (aD rfl) (aF (Tr.keep (env' := [(0, _)]) ⟨rfl, trivial⟩ ?_)))))
 refine aB (aE (aR rfl (aO (aB (aE ?_)))))
 refine aA (tv (aC rfl) (te (aJ en_225 rfl rfl rfl rfl aX9 (tv (aD rfl) (aF (Tr.keep (env' := [(2, _)]) ⟨rfl, trivial⟩ ?_))))))
 refine aB (aQ (aW rfl rfl (fun w hw => ?_)))
 exact ⟨rfl, hw⟩
theorem rN {b c : Nat} {r s : Rep} {a d : Int} {sp : List Value} (ho : ¬ tC s r < 0) : ∀ w, Ok w0 (cel b 100 (.int .i64 r.source :: .int .i64 r.number :: .int .i64 r.kind :: .int .i64 r.car :: .int .i64 r.place :: .int .i64 r.time :: .int .i64 a :: .int .i64 s.source :: .int .i64 s.number :: .int .i64 s.kind :: .int .i64 s.car :: .int .i64 s.place :: .int .i64 s.time :: .int .i64 d :: sp) :: M) w → Calls Tryz.prog 216 #[.slice (some ⟨b, 0, none⟩) 2 c, .int .i64 0, .int .i64 2, .func (.func 105) #[] #[]] w (fun e w' => e = .returned (.tuple #[]) ∧ Ok w0 (cel b 100 (.int .i64 r.source :: .int .i64 r.number :: .int .i64 r.kind :: .int .i64 r.car :: .int .i64 r.place :: .int .i64 r.time :: .int .i64 a :: .int .i64 s.source :: .int .i64 s.number :: .int .i64 s.kind :: .int .i64 s.car :: .int .i64 s.place :: .int .i64 s.time :: .int .i64 d :: sp) :: M) w') := by
 refine enter (vs := [_, _, _, _]) Tryz.func216 rfl Tryz.ntmps216 rfl (aE (aA (tv (aC rfl) (tv (cC rfl rfl (by omega)) (tv (aD rfl) ?_)))))
 refine aF (Tr.keep (env' := [(0, _), (1, _), (2, _), (3, _), (8, _)]) ⟨rfl, rfl, rfl, rfl, rfl, trivial⟩ (aB (aX (eN (cR ?_)))))
 refine aE (aE (aA (tv (aC rfl) (tv (aC rfl) (tv (dI rfl rfl) ?_)))))
 refine aF (Tr.keep (env' := [(0, _), (1, _), (2, _), (3, _), (8, _), (14, _)]) ⟨rfl, rfl, rfl, rfl, rfl, rfl, trivial⟩ (aB (bI rfl (aO (aB ?_)))))
 refine aE (aX (aE (aA (tv (aC rfl) (tv (aD rfl) ?_)))))
 refine aF (Tr.keep (env' := [(0, _), (1, _), (2, _), (3, _), (8, _), (9, _)]) ⟨rfl, rfl, rfl, rfl, rfl, rfl, trivial⟩ (aB (aX (eN (cR ?_)))))
 refine aE (aE (cI cK rfl (dv 0 rfl (.refl _) (aC rfl) (dv 1 rfl (.refl _) (aC rfl) (dv 2 rfl (.refl _) (fC rfl rfl) ?_)))))
 refine dv 3 rfl (.refl _) (aC rfl) (eI 4 rfl (.refl _) rfl rfl (aC rfl) (eI 5 rfl (.refl _) rfl rfl (aC rfl) (eI 6 rfl (.refl _) rfl rfl (aC rfl) (eI 7 rfl (.refl _) rfl rfl (dE (j := 1) Tryz.underlying56 dP rfl rfl rfl (by decide)) (eI 8 rfl (.refl _) rfl rfl (aY eY rfl (bL (n := 7) (vs := [_, _, _, _, _, _, _]) (.head _) rfl) rfl) ?_)))))
 refine eI 9 rfl (.refl _) rfl rfl (aC rfl) (eI 10 rfl (.refl _) rfl rfl (aC rfl) (eI 11 rfl (.refl _) rfl rfl (cP rfl rfl (by omega)) (eI 12 rfl (.refl _) rfl rfl (dE (j := 0) Tryz.underlying56 dP rfl rfl rfl (by decide)) (eI 13 rfl (.refl _) rfl rfl (aY eY rfl (bL (n := 7) (vs := [_, _, _, _, _, _, _]) (.head _) rfl) rfl) (jU 14 rfl (by kernel_rfl) rfl rfl (aJ bD1 rfl rfl rfl rfl (aU9 s r d a) ?_))))))
 refine aU (.refl _) (eI 15 rfl (.refl _) rfl rfl (dI rfl rfl) (dv 16 rfl (.refl _) (cG rfl rfl) (bQ (by kernel_rfl) (Tr.keep (env' := [(0, _), (1, _), (2, _), (3, _), (8, _), (9, _), (34, _)]) ⟨rfl, rfl, rfl, rfl, rfl, rfl, rfl, trivial⟩ (aB ?_)))))
 refine bD rfl (fun hs => ?_) (fun hs => ?_)
 ·exact absurd (of_decide_eq_true hs) ho
 ·skip
  refine cY (aS (aS (bX (cX (aB ?_)))))
  refine aA (tv (aC rfl) (tv (cC rfl rfl (by omega)) (tv (aD rfl) (aF (Tr.keep (env' := [(0, _), (1, _), (2, _), (3, _), (8, _)]) ⟨rfl, rfl, rfl, rfl, rfl, trivial⟩ ?_)))))
  refine aB (cR (aE (aE (aA (tv (aC rfl) ?_)))))
  refine tv (aC rfl) (tv (dI rfl rfl) (aF (Tr.keep (env' := [(0, _), (1, _), (2, _), (3, _), (8, _), (14, _)]) ⟨rfl, rfl, rfl, rfl, rfl, rfl, trivial⟩ (aB (aR rfl ?_)))))
  refine cY (aS (aS (bX (eV rfl (fun w hw => ?_)))))
  exact ⟨rfl, hw⟩
theorem qE {b c : Nat} {r s : Rep} {a d : Int} {sp : List Value} (ho : tC s r < 0) : ∀ w, Ok w0 (cel b 100 (.int .i64 r.source :: .int .i64 r.number :: .int .i64 r.kind :: .int .i64 r.car :: .int .i64 r.place :: .int .i64 r.time :: .int .i64 a :: .int .i64 s.source :: .int .i64 s.number :: .int .i64 s.kind :: .int .i64 s.car :: .int .i64 s.place :: .int .i64 s.time :: .int .i64 d :: sp) :: M) w → Calls Tryz.prog 216 #[.slice (some ⟨b, 0, none⟩) 2 c, .int .i64 0, .int .i64 2, .func (.func 105) #[] #[]] w (fun e w' => e = .returned (.tuple #[]) ∧ Ok w0 (cel b 100 (.int .i64 s.source :: .int .i64 s.number :: .int .i64 s.kind :: .int .i64 s.car :: .int .i64 s.place :: .int .i64 s.time :: .int .i64 d :: .int .i64 r.source :: .int .i64 r.number :: .int .i64 r.kind :: .int .i64 r.car :: .int .i64 r.place :: .int .i64 r.time :: .int .i64 a :: sp) :: M) w') := by
 refine enter (vs := [_, _, _, _]) Tryz.func216 rfl Tryz.ntmps216 rfl (aE (aA (tv (aC rfl) (tv (cC rfl rfl (by omega)) (tv (aD rfl) ?_)))))
 refine aF (Tr.keep (env' := [(0, _), (1, _), (2, _), (3, _), (8, _)]) ⟨rfl, rfl, rfl, rfl, rfl, trivial⟩ (aB (aX (eN (cR ?_)))))
 refine aE (aE (aA (tv (aC rfl) (tv (aC rfl) (tv (dI rfl rfl) ?_)))))
 refine aF (Tr.keep (env' := [(0, _), (1, _), (2, _), (3, _), (8, _), (14, _)]) ⟨rfl, rfl, rfl, rfl, rfl, rfl, trivial⟩ (aB (bI rfl (aO (aB ?_)))))
 refine aE (aX (aE (aA (tv (aC rfl) (tv (aD rfl) ?_)))))
 refine aF (Tr.keep (env' := [(0, _), (1, _), (2, _), (3, _), (8, _), (9, _)]) ⟨rfl, rfl, rfl, rfl, rfl, rfl, trivial⟩ (aB (aX (eN (cR ?_)))))
 refine aE (aE (cI cK rfl (dv 0 rfl (.refl _) (aC rfl) (dv 1 rfl (.refl _) (aC rfl) (dv 2 rfl (.refl _) (fC rfl rfl) ?_)))))
 refine dv 3 rfl (.refl _) (aC rfl) (eI 4 rfl (.refl _) rfl rfl (aC rfl) (eI 5 rfl (.refl _) rfl rfl (aC rfl) (eI 6 rfl (.refl _) rfl rfl (aC rfl) (eI 7 rfl (.refl _) rfl rfl (dE (j := 1) Tryz.underlying56 dP rfl rfl rfl (by decide)) (eI 8 rfl (.refl _) rfl rfl (aY eY rfl (bL (n := 7) (vs := [_, _, _, _, _, _, _]) (.head _) rfl) rfl) ?_)))))
 refine eI 9 rfl (.refl _) rfl rfl (aC rfl) (eI 10 rfl (.refl _) rfl rfl (aC rfl) (eI 11 rfl (.refl _) rfl rfl (cP rfl rfl (by omega)) (eI 12 rfl (.refl _) rfl rfl (dE (j := 0) Tryz.underlying56 dP rfl rfl rfl (by decide)) (eI 13 rfl (.refl _) rfl rfl (aY eY rfl (bL (n := 7) (vs := [_, _, _, _, _, _, _]) (.head _) rfl) rfl) (jU 14 rfl (by kernel_rfl) rfl rfl (aJ bD1 rfl rfl rfl rfl (aU9 s r d a) ?_))))))
 refine aU (.refl _) (eI 15 rfl (.refl _) rfl rfl (dI rfl rfl) (dv 16 rfl (.refl _) (cG rfl rfl) (bQ (by kernel_rfl) (Tr.keep (env' := [(0, _), (1, _), (2, _), (3, _), (8, _), (9, _), (34, _)]) ⟨rfl, rfl, rfl, rfl, rfl, rfl, rfl, trivial⟩ (aB ?_)))))
 refine bD rfl (fun hs => ?_) (fun hs => ?_)
 ·skip
  refine aO (aB (aE (aX (Tr.keep (env' := [(0, _), (1, _), (2, _), (3, _), (8, _), (9, _)]) ⟨rfl, rfl, rfl, rfl, rfl, rfl, trivial⟩ (Tr.keep (env' := [(0, _), (1, _), (2, _), (3, _), (8, _), (9, _)]) ⟨rfl, rfl, rfl, rfl, rfl, rfl, trivial⟩ ?_)))))
  refine bI8 [] (cel b 100 (.int .i64 s.source :: .int .i64 s.number :: .int .i64 s.kind :: .int .i64 s.car :: .int .i64 s.place :: .int .i64 s.time :: .int .i64 d :: .int .i64 r.source :: .int .i64 r.number :: .int .i64 r.kind :: .int .i64 r.car :: .int .i64 r.place :: .int .i64 r.time :: .int .i64 a :: sp) :: M) ?_ ?_
  ·intro K hK
   refine dV (.cons _ (.refl _)) cK rfl (dv 0 rfl (.cons _ (.refl _)) (aC rfl) (dv 1 rfl (.cons _ (.refl _)) (aC rfl) (dv 2 rfl (.cons _ (.refl _)) (aC rfl) (dv 3 rfl (.cons _ (.refl _)) (aC rfl) (dv 4 rfl (.cons _ (.refl _)) (cP rfl rfl (by omega)) ?_)))))
   refine dv 5 rfl (.cons _ (.refl _)) (aC rfl) (dv 6 rfl (.cons _ (.refl _)) (aC rfl) (dv 7 rfl (.cons _ (.refl _)) (cP rfl rfl (by omega)) (dv 8 rfl (.cons _ (.refl _)) (dE (j := 0) Tryz.underlying56 dP rfl rfl rfl (by decide)) (dv 10 rfl (.cons _ (.refl _)) (aC rfl) (dv 11 rfl (.cons _ (.refl _)) (aC rfl) ?_)))))
   refine dv 12 rfl (.cons _ (.refl _)) (dE (j := 1) Tryz.underlying56 dP rfl rfl rfl (by decide)) ?_
   refine gP 9 13 rfl rfl  rfl rfl  (by kernel_rfl) ?_ ?_
   ·refine (iK (aY eY rfl (bL (n := 7) (vs := [_, _, _, _, _, _, _]) (.head _) rfl) rfl) rfl (aU (.cons _ (.refl _)) (de 13 rfl (iK (aY eY rfl (bL (n := 7) (vs := [_, _, _, _, _, _, _]) (.head _) rfl) rfl) rfl (aU (.cons _ (.refl _)) (dv 14 rfl (.cons _ (.refl _)) (dE (j := 1) Tryz.underlying56 dP rfl rfl rfl (by decide)) (de 15 rfl (bJ dP rfl rfl (vs := [_, _, _, _, _, _, _]) rfl rfl (by simp [Value.oneCell']) (.cons (.succ (.succ (.succ (.succ (.succ (.succ (.succ .zero))))))) (.cons (.succ (.succ (.succ (.succ (.succ (.succ (.succ (.succ .zero)))))))) (.cons (.succ (.succ (.succ (.succ (.succ (.succ (.succ (.succ (.succ .zero))))))))) (.cons (.succ (.succ (.succ (.succ (.succ (.succ (.succ (.succ (.succ (.succ .zero)))))))))) (.cons (.succ (.succ (.succ (.succ (.succ (.succ (.succ (.succ (.succ (.succ (.succ .zero))))))))))) (.cons (.succ (.succ (.succ (.succ (.succ (.succ (.succ (.succ (.succ (.succ (.succ (.succ .zero)))))))))))) (.cons (.succ (.succ (.succ (.succ (.succ (.succ (.succ (.succ (.succ (.succ (.succ (.succ (.succ .zero))))))))))))) .nil))))))) .here ?_))))))))
    refine aU (.cons _ (.refl _)) (dv 16 rfl (.cons _ (.refl _)) (dE (j := 0) Tryz.underlying56 dP rfl rfl rfl (by decide)) (de 17 rfl (bJ dP rfl rfl (vs := [_, _, _, _, _, _, _]) rfl rfl (by simp [Value.oneCell']) (.cons .zero (.cons (.succ .zero) (.cons (.succ (.succ .zero)) (.cons (.succ (.succ (.succ .zero))) (.cons (.succ (.succ (.succ (.succ .zero)))) (.cons (.succ (.succ (.succ (.succ (.succ .zero))))) (.cons (.succ (.succ (.succ (.succ (.succ (.succ .zero)))))) .nil))))))) .here (aU (.cons _ (.refl _)) (bQ (by kernel_rfl) ?_)))))
    exact dF hK ⟨rfl, rfl, rfl, rfl, rfl, rfl, trivial⟩ (.refl _)
   ·refine (iK (aY eY rfl (bL (n := 7) (vs := [_, _, _, _, _, _, _]) (.head _) rfl) rfl) rfl (aU (.cons _ (.refl _)) (de 9 rfl (iK (aY eY rfl (bL (n := 7) (vs := [_, _, _, _, _, _, _]) (.head _) rfl) rfl) rfl (aU (.cons _ (.refl _)) (dv 14 rfl (.cons _ (.refl _)) (dE (j := 1) Tryz.underlying56 dP rfl rfl rfl (by decide)) (de 15 rfl (bJ dP rfl rfl (vs := [_, _, _, _, _, _, _]) rfl rfl (by simp [Value.oneCell']) (.cons (.succ (.succ (.succ (.succ (.succ (.succ (.succ .zero))))))) (.cons (.succ (.succ (.succ (.succ (.succ (.succ (.succ (.succ .zero)))))))) (.cons (.succ (.succ (.succ (.succ (.succ (.succ (.succ (.succ (.succ .zero))))))))) (.cons (.succ (.succ (.succ (.succ (.succ (.succ (.succ (.succ (.succ (.succ .zero)))))))))) (.cons (.succ (.succ (.succ (.succ (.succ (.succ (.succ (.succ (.succ (.succ (.succ .zero))))))))))) (.cons (.succ (.succ (.succ (.succ (.succ (.succ (.succ (.succ (.succ (.succ (.succ (.succ .zero)))))))))))) (.cons (.succ (.succ (.succ (.succ (.succ (.succ (.succ (.succ (.succ (.succ (.succ (.succ (.succ .zero))))))))))))) .nil))))))) .here ?_))))))))
    refine aU (.cons _ (.refl _)) (dv 16 rfl (.cons _ (.refl _)) (dE (j := 0) Tryz.underlying56 dP rfl rfl rfl (by decide)) (de 17 rfl (bJ dP rfl rfl (vs := [_, _, _, _, _, _, _]) rfl rfl (by simp [Value.oneCell']) (.cons .zero (.cons (.succ .zero) (.cons (.succ (.succ .zero)) (.cons (.succ (.succ (.succ .zero))) (.cons (.succ (.succ (.succ (.succ .zero)))) (.cons (.succ (.succ (.succ (.succ (.succ .zero))))) (.cons (.succ (.succ (.succ (.succ (.succ (.succ .zero)))))) .nil))))))) .here (aU (.cons _ (.refl _)) (bQ (by kernel_rfl) ?_)))))
    exact dF hK ⟨rfl, rfl, rfl, rfl, rfl, rfl, trivial⟩ (.refl _)
  skip
  refine Tr.keep (env' := [(0, _), (1, _), (2, _), (3, _), (8, _), (9, _)]) ⟨rfl, rfl, rfl, rfl, rfl, rfl, trivial⟩ (cX (aB (aA (tv (aC rfl) (tv (cP rfl rfl (by omega)) ?_)))))
  refine tv (aD rfl) (aF (Tr.keep (env' := [(0, _), (1, _), (2, _), (3, _), (8, _), (9, _)]) ⟨rfl, rfl, rfl, rfl, rfl, rfl, trivial⟩ (aB (cR (aE ?_)))))
  refine aE (cI cK rfl (dv 0 rfl (.refl _) (aC rfl) (dv 1 rfl (.refl _) (aC rfl) (dv 2 rfl (.refl _) (fC rfl rfl) (dv 3 rfl (.refl _) (aC rfl) ?_)))))
  refine iJ 4 rfl (.refl _) rfl rfl (iJ 5 rfl (.refl _) rfl rfl (iJ 6 rfl (.refl _) rfl rfl (iJ 7 rfl (.refl _) rfl rfl (iJ 8 rfl (.refl _) rfl rfl (iJ 9 rfl (.refl _) rfl rfl ?_)))))
  refine iJ 10 rfl (.refl _) rfl rfl (iJ 11 rfl (.refl _) rfl rfl (iJ 12 rfl (.refl _) rfl rfl (iJ 13 rfl (.refl _) rfl rfl (iJ 14 rfl (.refl _) rfl rfl (iJ 15 rfl (.refl _) rfl rfl ?_)))))
  refine dv 16 rfl (.refl _) (bS rfl rfl) (bQ (by kernel_rfl) (Tr.keep (env' := [(0, _), (1, _), (2, _), (3, _), (8, _), (9, _), (34, _)]) ⟨rfl, rfl, rfl, rfl, rfl, rfl, rfl, trivial⟩ (aB (aR rfl (cY ?_)))))
  refine aS (aS (bX (cX (aB (aA ?_)))))
  refine tv (aC rfl) (tv (cC rfl rfl (by omega)) (tv (aD rfl) (aF (Tr.keep (env' := [(0, _), (1, _), (2, _), (3, _), (8, _)]) ⟨rfl, rfl, rfl, rfl, rfl, trivial⟩ (aB ?_)))))
  refine cR (aE (aE (aA (tv (aC rfl) (tv (aC rfl) ?_)))))
  refine tv (dI rfl rfl) (aF (Tr.keep (env' := [(0, _), (1, _), (2, _), (3, _), (8, _), (14, _)]) ⟨rfl, rfl, rfl, rfl, rfl, rfl, trivial⟩ (aB (aR rfl (cY ?_)))))
  refine aS (aS (bX (eV rfl (fun w hw => ?_))))
  exact ⟨rfl, hw⟩
 ·exact absurd ho (of_decide_eq_false hs)
theorem aK2 {b c : Nat} {r s : Rep} {a d k : Int} {sp : List Value} (ho : ¬ tC s r < 0) : ∀ w, Ok w0 (cel b 100 (.int .i64 r.source :: .int .i64 r.number :: .int .i64 r.kind :: .int .i64 r.car :: .int .i64 r.place :: .int .i64 r.time :: .int .i64 a :: .int .i64 s.source :: .int .i64 s.number :: .int .i64 s.kind :: .int .i64 s.car :: .int .i64 s.place :: .int .i64 s.time :: .int .i64 d :: sp) :: M) w → Calls Tryz.prog 159 #[.slice (some ⟨b, 0, none⟩) 2 c, .int .i64 0, .int .i64 2, .int .i64 k, .func (.func 105) #[] #[]] w (fun e w' => e = .returned (.tuple #[]) ∧ Ok w0 (cel b 100 (.int .i64 r.source :: .int .i64 r.number :: .int .i64 r.kind :: .int .i64 r.car :: .int .i64 r.place :: .int .i64 r.time :: .int .i64 a :: .int .i64 s.source :: .int .i64 s.number :: .int .i64 s.kind :: .int .i64 s.car :: .int .i64 s.place :: .int .i64 s.time :: .int .i64 d :: sp) :: M) w') := by
 refine enter (vs := [_, _, _, _, _]) Tryz.func159 rfl Tryz.ntmps159 rfl (aE (aA (tv (aD rfl) (aF (Tr.keep (env' := [(0, _), (1, _), (2, _), (3, _), (4, _), (10, _)]) ⟨rfl, rfl, rfl, rfl, rfl, rfl, trivial⟩ ?_)))))
 refine aB (aE (aA (tv (aD rfl) (aF (Tr.keep (env' := [(0, _), (1, _), (2, _), (3, _), (4, _), (10, _), (11, _)]) ⟨rfl, rfl, rfl, rfl, rfl, rfl, rfl, trivial⟩ ?_)))))
 refine aB (aX (eN (cR (aX (aE ?_)))))
 refine aA (tv (aC rfl) (tv (aC rfl) (tv (cP rfl rfl (by omega)) (tv (aD rfl) (aF ?_)))))
 refine Tr.keep (env' := [(0, _), (1, _), (2, _), (3, _), (4, _), (10, _), (11, _), (12, _)]) ⟨rfl, rfl, rfl, rfl, rfl, rfl, rfl, rfl, trivial⟩ (aB (aE (aE (aA (tv (aC rfl) ?_)))))
 refine tv (iF rfl rfl) (aF (Tr.keep (env' := [(0, _), (1, _), (2, _), (3, _), (4, _), (10, _), (11, _), (12, _), (25, _)]) ⟨rfl, rfl, rfl, rfl, rfl, rfl, rfl, rfl, rfl, trivial⟩ (aB (bI rfl (aE ?_)))))
 refine aA (tv (aC rfl) (tv (aC rfl) (tv (aC rfl) (tv (aC rfl) (te (fD bD4 rfl rfl rfl rfl (rN ho) ?_))))))
 refine aF (Tr.keep (env' := []) trivial (aB (aQ (aN (bM ?_)))))
 refine aN (bM (aR8 rfl (fun w hw => ?_)))
 exact ⟨rfl, hw⟩
theorem aC5 {b c : Nat} {r s : Rep} {a d : Int} {sp : List Value} (ho : ¬ tC s r < 0) : ∀ w, Ok w0 (cel b 100 (.int .i64 r.source :: .int .i64 r.number :: .int .i64 r.kind :: .int .i64 r.car :: .int .i64 r.place :: .int .i64 r.time :: .int .i64 a :: .int .i64 s.source :: .int .i64 s.number :: .int .i64 s.kind :: .int .i64 s.car :: .int .i64 s.place :: .int .i64 s.time :: .int .i64 d :: sp) :: M) w → Calls Tryz.prog 104 #[.slice (some ⟨b, 0, none⟩) 2 c, .func (.func 105) #[] #[]] w (fun e w' => e = .returned (.tuple #[]) ∧ Ok w0 (cel b 100 (.int .i64 r.source :: .int .i64 r.number :: .int .i64 r.kind :: .int .i64 r.car :: .int .i64 r.place :: .int .i64 r.time :: .int .i64 a :: .int .i64 s.source :: .int .i64 s.number :: .int .i64 s.kind :: .int .i64 s.car :: .int .i64 s.place :: .int .i64 s.time :: .int .i64 d :: sp) :: M) w') := by
 refine enter (vs := [_, _]) Tryz.func104 rfl Tryz.ntmps104 rfl (aE (aA (tv (aC rfl) (tv (aP Tryz.underlying56 rfl) (tv (aD rfl) ?_)))))
 refine aF (Tr.keep (env' := [(0, _), (1, _), (4, _)]) ⟨rfl, rfl, rfl, trivial⟩ (aB (aA (tv (aC rfl) (tv (aC rfl) ?_)))))
 refine tv (aC rfl) (tv (hD Tryz.underlying3 Tryz.underlying274 rfl (by decide : IntKind.u64.wrap 2 = 2)) (te (aJ bD3 rfl rfl rfl rfl aV0 (tv (aC rfl) (te (fD bD2 rfl rfl rfl rfl (aK2 ho) (aF ?_)))))))
 refine Tr.keep (env' := []) trivial (eV rfl (fun w hw => ?_))
 exact ⟨rfl, hw⟩
theorem aC6 {b c : Nat} {r s : Rep} {a d k : Int} {sp : List Value} (ho : tC s r < 0) : ∀ w, Ok w0 (cel b 100 (.int .i64 r.source :: .int .i64 r.number :: .int .i64 r.kind :: .int .i64 r.car :: .int .i64 r.place :: .int .i64 r.time :: .int .i64 a :: .int .i64 s.source :: .int .i64 s.number :: .int .i64 s.kind :: .int .i64 s.car :: .int .i64 s.place :: .int .i64 s.time :: .int .i64 d :: sp) :: M) w → Calls Tryz.prog 159 #[.slice (some ⟨b, 0, none⟩) 2 c, .int .i64 0, .int .i64 2, .int .i64 k, .func (.func 105) #[] #[]] w (fun e w' => e = .returned (.tuple #[]) ∧ Ok w0 (cel b 100 (.int .i64 s.source :: .int .i64 s.number :: .int .i64 s.kind :: .int .i64 s.car :: .int .i64 s.place :: .int .i64 s.time :: .int .i64 d :: .int .i64 r.source :: .int .i64 r.number :: .int .i64 r.kind :: .int .i64 r.car :: .int .i64 r.place :: .int .i64 r.time :: .int .i64 a :: sp) :: M) w') := by
 refine enter (vs := [_, _, _, _, _]) Tryz.func159 rfl Tryz.ntmps159 rfl (aE (aA (tv (aD rfl) (aF (Tr.keep (env' := [(0, _), (1, _), (2, _), (3, _), (4, _), (10, _)]) ⟨rfl, rfl, rfl, rfl, rfl, rfl, trivial⟩ ?_)))))
 refine aB (aE (aA (tv (aD rfl) (aF (Tr.keep (env' := [(0, _), (1, _), (2, _), (3, _), (4, _), (10, _), (11, _)]) ⟨rfl, rfl, rfl, rfl, rfl, rfl, rfl, trivial⟩ ?_)))))
 refine aB (aX (eN (cR (aX (aE ?_)))))
 refine aA (tv (aC rfl) (tv (aC rfl) (tv (cP rfl rfl (by omega)) (tv (aD rfl) (aF ?_)))))
 refine Tr.keep (env' := [(0, _), (1, _), (2, _), (3, _), (4, _), (10, _), (11, _), (12, _)]) ⟨rfl, rfl, rfl, rfl, rfl, rfl, rfl, rfl, trivial⟩ (aB (aE (aE (aA (tv (aC rfl) ?_)))))
 refine tv (iF rfl rfl) (aF (Tr.keep (env' := [(0, _), (1, _), (2, _), (3, _), (4, _), (10, _), (11, _), (12, _), (25, _)]) ⟨rfl, rfl, rfl, rfl, rfl, rfl, rfl, rfl, rfl, trivial⟩ (aB (bI rfl (aE ?_)))))
 refine aA (tv (aC rfl) (tv (aC rfl) (tv (aC rfl) (tv (aC rfl) (te (fD bD4 rfl rfl rfl rfl (qE ho) ?_))))))
 refine aF (Tr.keep (env' := []) trivial (aB (aQ (aN (bM ?_)))))
 refine aN (bM (aR8 rfl (fun w hw => ?_)))
 exact ⟨rfl, hw⟩
theorem yR {b c : Nat} {r s : Rep} {a d : Int} {sp : List Value} (ho : tC s r < 0) : ∀ w, Ok w0 (cel b 100 (.int .i64 r.source :: .int .i64 r.number :: .int .i64 r.kind :: .int .i64 r.car :: .int .i64 r.place :: .int .i64 r.time :: .int .i64 a :: .int .i64 s.source :: .int .i64 s.number :: .int .i64 s.kind :: .int .i64 s.car :: .int .i64 s.place :: .int .i64 s.time :: .int .i64 d :: sp) :: M) w → Calls Tryz.prog 104 #[.slice (some ⟨b, 0, none⟩) 2 c, .func (.func 105) #[] #[]] w (fun e w' => e = .returned (.tuple #[]) ∧ Ok w0 (cel b 100 (.int .i64 s.source :: .int .i64 s.number :: .int .i64 s.kind :: .int .i64 s.car :: .int .i64 s.place :: .int .i64 s.time :: .int .i64 d :: .int .i64 r.source :: .int .i64 r.number :: .int .i64 r.kind :: .int .i64 r.car :: .int .i64 r.place :: .int .i64 r.time :: .int .i64 a :: sp) :: M) w') := by
 refine enter (vs := [_, _]) Tryz.func104 rfl Tryz.ntmps104 rfl (aE (aA (tv (aC rfl) (tv (aP Tryz.underlying56 rfl) (tv (aD rfl) ?_)))))
 refine aF (Tr.keep (env' := [(0, _), (1, _), (4, _)]) ⟨rfl, rfl, rfl, trivial⟩ (aB (aA (tv (aC rfl) (tv (aC rfl) ?_)))))
 refine tv (aC rfl) (tv (hD Tryz.underlying3 Tryz.underlying274 rfl (by decide : IntKind.u64.wrap 2 = 2)) (te (aJ bD3 rfl rfl rfl rfl aV0 (tv (aC rfl) (te (fD bD2 rfl rfl rfl rfl (aC6 ho) (aF ?_)))))))
 refine Tr.keep (env' := []) trivial (eV rfl (fun w hw => ?_))
 exact ⟨rfl, hw⟩
end
end Go.Proofs.W
set_option linter.unusedVariables false
set_option linter.unusedSimpArgs false
set_option linter.unusedSectionVars false
set_option maxRecDepth 100000
namespace Go.Proofs.W
open Go Go.Sl Go.RowKit Go.Proofs
attribute [local irreducible] Go.Sl.Eff
theorem en_104 : aV Tryz.prog 104 := aL Tryz.func104 (by kernel_rfl) (by kernel_rfl)
abbrev zR (kv : List (Rep × Int)) (j : Nat) : List Value := match kv[j]? with | some x => x.1.cellsAt x.2 | none => []
theorem aP1 {kv : List (Rep × Int)} {j : Nat} {x : Rep × Int} (h : kv[j]? = some x) : zR kv j = x.1.cellsAt x.2 := by simp [zR, h]
theorem bD5 {l : List Nat} (hn : l.Nodup) (hl : ∀ j ∈ l, j < 2) (ha : ∀ j, j < 2 → j ∈ l) : l = [0, 1] ∨ l = [1, 0] := by
 have h0 := ha 0 (by decide)
 have h1 := ha 1 (by decide)
 match l, hn, hl with
 | [], _, _ => simp at h0
 | [x], _, _ => simp at h0 h1; omega
 | [x, y], _, hl =>
  have hx := hl x (by simp); have hy := hl y (by simp)
  simp at h0 h1
  rcases h0 with rfl | rfl <;> rcases h1 with h | h <;> simp_all
 | x :: y :: z :: r, hn, hl =>
  have hx := hl x (by simp); have hy := hl y (by simp); have hz := hl z (by simp)
  simp at hn
  omega
theorem aV1 {l : List Nat} (hn : l.Nodup) (hl : ∀ j ∈ l, j < 2) : l.length ≤ 2 := by
 match l, hn, hl with
 | [], _, _ => simp
 | [x], _, _ => simp
 | [x, y], _, _ => simp
 | x :: y :: z :: r, hn, hl =>
  have hx := hl x (by simp); have hy := hl y (by simp); have hz := hl z (by simp)
  simp at hn
  omega
section
variable {w0 : World} {M : List Ent}
theorem rO {v : Value} {E : List Ent} {x y : List Value} (h : Own 100 7 v [x, y] E) : ∃ b c sp, v = .slice (some ⟨b, 0, none⟩) 2 c ∧ E = [cel b 100 (x ++ (y ++ sp))] ∧
  ∀ x' y' : List Value, x'.length = 7 → y'.length = 7 → Own 100 7 v [x', y'] [cel b 100 (x' ++ (y' ++ sp))] := by
 have hx := h.wide x (by simp); have hy := h.wide y (by simp)
 rcases h.sh with ⟨_, h0, _⟩ | ⟨b, c, l, rfl, rfl, h2, h3, h4, h5⟩
 ·simp at h0
 ·simp at h3 h5
  have hl : l = x ++ (y ++ l.drop 14) := by
   conv => lhs; rw [← List.take_append_drop 14 l, h5]
   simp [bT]
  refine ⟨b, c, l.drop 14, rfl, by rw [← hl], fun x' y' hx' hy' => ⟨by simp [hx', hy'], .inr ⟨b, c, _, rfl, rfl, ?_, by simpa using h3, h4, ?_⟩⟩⟩
  ·simp [hx', hy', h2]; omega
  ·simp [bT, List.take_append, hx', hy']
   rw [List.take_of_length_le (by omega)]
theorem bD6 {v : Value} {E Fr : List Ent} {r s : Rep} {a d : Int} {xs : List (List Value)} (hO : Own 100 7 v xs E) (hxs : xs = [r.cellsAt a, s.cellsAt d] ∨ xs = [s.cellsAt d, r.cellsAt a]) (h1 : tC r s < 0) (h2 : ¬ tC s r < 0) :
  ∀ w, Ok w0 (E ++ Fr) w → Calls Tryz.prog 104 #[v, .func (.func 105) #[] #[]] w (fun e w' => ∃ E', e = .returned (.tuple #[]) ∧ Own 100 7 v [r.cellsAt a, s.cellsAt d] E' ∧ Ok w0 (E' ++ Fr) w') := by
 intro w hw
 rcases hxs with rfl | rfl
 ·obtain ⟨b, c, sp, rfl, rfl, hk⟩ := rO hO
  exact (aC5 (sp := sp) h2 w hw).mono fun e w' ⟨h, h'⟩ => ⟨_, h, hk _ _ rfl rfl, h'⟩
 ·obtain ⟨b, c, sp, rfl, rfl, hk⟩ := rO hO
  exact (yR (sp := sp) h1 w hw).mono fun e w' ⟨h, h'⟩ => ⟨_, h, hk _ _ rfl rfl, h'⟩
theorem oP {g : WLog} {l : WAt} (r s : Rep) (a d : Int) (hb : g.eb l ∈ M) (hm : g.em l ∈ M) (hkv : g.kv = [(r, a), (s, d)]) (h1 : tC r s < 0) (h2 : ¬ tC s r < 0) :
  ∀ w, Ok w0 M w → Calls Tryz.prog 40 #[.pointer (some ⟨l.b, 0, none⟩)] w (fun e w' => ∃ x : Value × List Ent, e = .returned x.1 ∧ Own 100 7 x.1 [r.cellsAt a, s.cellsAt d] x.2 ∧ Ok w0 (x.2 ++ M) w') := by
 refine enter (vs := [_]) Tryz.func40 rfl Tryz.ntmps40 rfl (aE (aA (tv (aD rfl) (aF (Tr.keep (env' := [(0, _)]) ⟨rfl, trivial⟩ ?_)))))
 refine aB (aE (aE (aA (tv (aC rfl) (te (aJ bC6 rfl rfl rfl rfl (nK hb) ?_))))))
 refine tv (bF rfl) (aF (Tr.keep (env' := [(0, _), (8, _)]) ⟨rfl, rfl, trivial⟩ (aB ?_)))
 refine bD rfl (fun hr => ?_) (fun hr => ?_)
 ·exact absurd hr (by decide)
 ·skip
  refine aO (aB (aE (aA (tv (aD rfl) (aF ?_)))))
  refine Tr.keep (env' := [(0, _), (3, _)]) ⟨rfl, rfl, trivial⟩ (aB (aE (aE (aA (tv (aC rfl) ?_)))))
  refine tv (aM rfl) (tv (aI rL rfl) (tv (aG aO9 rfl (aK hb rfl)) (te (e_range Tryz.underlying182 rfl hm rfl fun b13 => (aF (Tr.keep (env' := [(3, _), (13, _)]) ⟨rfl, rfl, trivial⟩ ?_))))))
  refine aB (aX (dW (fun z : List Nat × Value × List Ent => [(3, z.2.1), (13, .pointer (some ⟨b13, 0, none⟩))]) (fun z : List Nat × Value × List Ent => z.2.2 ++ (itE b13 l.mb (kvs g.kv).length z.1 :: M)) (fun z : List Nat × Value × List Ent => z.1.Nodup ∧ (∀ j ∈ z.1, j < 2) ∧ Own 100 7 z.2.1 (z.1.map (zR g.kv)) z.2.2) (fun z : List Nat × Value × List Ent => 2 - z.1.length) ([], .slice none 0 0, []) ⟨by simp, by simp, Own.nil _ _⟩ ⟨rfl, rfl, trivial⟩ (.refl _) ?_))
  intro K ⟨sn, v, E⟩ ⟨hnd, hlt, hO⟩ IH
  dsimp only at hnd hlt hO IH ⊢
  have hle := aV1 hnd hlt
  refine aE (aA ?_)
  refine te (e_next rfl (List.mem_append_right _ (.tail _ hm)) rfl (fun j => (.right .here)) (fun hall => ?_) (fun j p hj hns => ?_))
  ·have hsn := bD5 hnd hlt (fun i hi => hall i (by simp [hkv]; exact hi))
   have hxs : sn.map (zR g.kv) = [r.cellsAt a, s.cellsAt d] ∨ sn.map (zR g.kv) = [s.cellsAt d, r.cellsAt a] := by rcases hsn with rfl | rfl <;> simp [zR, hkv]
   refine tv (bA rfl rfl) (aF (Tr.keep (env' := [(3, _), (13, _), (15, _)]) ⟨rfl, rfl, rfl, trivial⟩ (aB (aE (aR rfl ?_)))))
   refine cY (aS (aS (bX (aB (aE ?_)))))
   refine aA (tv (aC rfl) (te (bP en_104 rfl rfl rfl rfl (bD6 hO hxs h1 h2) fun E3 hO3 => (aF (Tr.keep (env' := [(3, _)]) ⟨rfl, trivial⟩ (aB ?_))))))
   refine aE (aA (tv (aC rfl) (tv (aD rfl) (aF (Tr.keep (env' := [(2, _)]) ⟨rfl, trivial⟩ ?_)))))
   refine aB (aQ (aW rfl rfl (fun w hw => ?_)))
   exact ⟨(v, E3), rfl, hO3, Ok.sub hw (List.Sublist.append (.refl _) (.cons _ (.refl _)))⟩
  ·rw [List.getElem?_map] at hj
   obtain ⟨x, hx, rfl⟩ := Option.map_eq_some_iff.1 hj
   have hj2 : j < 2 := by have := (List.getElem?_eq_some_iff.1 hx).1; rw [hkv] at this; simpa using this
   have hnd2 : (sn ++ [j]).Nodup := by rw [List.nodup_append]; exact ⟨hnd, by simp, by intro a ha b hb; simp at hb; rintro rfl; exact hns (hb ▸ ha)⟩
   have hlt2 : ∀ i ∈ sn ++ [j], i < 2 := by intro i hi; simp at hi; rcases hi with hi | rfl; exact hlt i hi; exact hj2
   refine tv (bA rfl rfl) (aF (Tr.keep (env' := [(3, _), (13, _), (15, _)]) ⟨rfl, rfl, rfl, trivial⟩ (aB (aE (bI rfl ?_)))))
   refine aO (aB (aX (aE (aA ?_))))
   refine tv (r_entry rfl (List.mem_append_right _ (.tail _ hm)) (List.mem_append_right _ (.head _)) (by rw [List.getElem?_map, hx]; rfl)) ?_
   refine tv (bA rfl rfl) (tv (bA rfl rfl) (te (bO gW (l := [.int .i64 0, .int .i64 0, .int .i64 0, .int .i64 0, .int .i64 0, .int .i64 0, .int .i64 0]) rfl rfl fun b4 => (te (bJ dP rfl rfl (vs := [_, _, _, _, _, _, _]) rfl rfl (by simp [Value.oneCell']) (.cons .zero (.cons (.succ .zero) (.cons (.succ (.succ .zero)) (.cons (.succ (.succ (.succ .zero))) (.cons (.succ (.succ (.succ (.succ .zero)))) (.cons (.succ (.succ (.succ (.succ (.succ .zero))))) (.cons (.succ (.succ (.succ (.succ (.succ (.succ .zero)))))) .nil))))))) .here (tv (aD rfl) (aF ?_)))))))
   refine Tr.keep (env' := [(3, _), (4, _), (5, _), (13, _)]) ⟨rfl, rfl, rfl, rfl, trivial⟩ (aB (aE (aA (tv (aC rfl) (tv (aI iS rfl) ?_)))))
   refine te (bR eR rfl rfl rfl (.succ (.succ (.succ (.succ (.succ (.succ .zero)))))) .here (aF (Tr.keep (env' := [(3, _), (4, _), (13, _)]) ⟨rfl, rfl, rfl, trivial⟩ (aB (aA (tv (aC rfl) ?_))))))
   refine tv (aY eY rfl (bL (n := 7) (vs := [_, _, _, _, _, _, _]) (.head _) rfl) rfl) (te (bN (E := 100) (l := x.1.cellsAt x.2) rfl (fun w => by kernel_rfl) rfl fun b23 => (te (fN Tryz.underlying56 gW rfl (by decide) rfl rfl hO (pk .here (mH (.there .here) (.refl _))) rfl (by simp [Rep.cellsAt, Value.oneCell']) (by simp; omega) (by simp [maxLen]; omega) rfl fun v2 E2 hO2 => (tv (aD rfl) (aF (Tr.keep (env' := [(3, _), (13, _)]) ⟨rfl, rfl, trivial⟩ ?_)))))))
   refine cX (aB ?_)
   refine nD (IH (sn ++ [j], v2, E2) ⟨hnd2, hlt2, by simp only [List.map_append, List.map_cons, List.map_nil]; rw [aP1 hx]; exact hO2⟩ (by have := aV1 hnd2 hlt2; simp at this ⊢; omega)) ⟨rfl, rfl, trivial⟩ (List.Sublist.append (.refl _) (.cons _ (.refl _)))
end
end Go.Proofs.W
set_option linter.unusedVariables false
set_option linter.unusedSimpArgs false
set_option linter.unusedSectionVars false
set_option maxRecDepth 100000
namespace Go.Proofs.W
open Go Go.Sl Go.RowKit Go.Proofs
attribute [local irreducible] Go.Sl.Eff
theorem wD : bY Tryz.prog 191 = some (none) := by kernel_rfl
theorem uE : bY Tryz.prog 56 = some (none) := by kernel_rfl
theorem oQ : bC Tryz.prog 261 1 = some 1 := by kernel_rfl
theorem oR : bC Tryz.prog 261 2 = some 2 := by kernel_rfl
abbrev aV2 := Int × Rep × Int
abbrev bD7 (x : aV2) : List Value := [.int .i64 x.1, .agg (x.2.1.cellsAt x.2.2).toArray]
abbrev R1 : Rep := ⟨0, 0, 1, 1, 0, 1000⟩
abbrev R2 : Rep := ⟨0, 1, 1, 1, 1, 301000⟩
abbrev row2 (sp : List Value) : List Value := .int .i64 0 :: .int .i64 0 :: .int .i64 1 :: .int .i64 1 :: .int .i64 0 :: .int .i64 1000 :: .int .i64 2000 :: .int .i64 0 :: .int .i64 1 :: .int .i64 1 :: .int .i64 1 :: .int .i64 1 :: .int .i64 301000 :: .int .i64 302000 :: sp
section
variable {w0 : World} {M : List Ent}
theorem aC7 {σ : Type} {inv : List aV2 → σ → Prop} {Me : σ → List Ent} {bb db c : Nat} {sp : List Value} (hbb : ∀ s, cel bb 56 [.slice (some ⟨db, 0, none⟩) 2 c] ∈ Me s) (hd : ∀ s, cel db 100 (row2 sp) ∈ Me s) {l : Nat} {rr : Loop} {Fr : List Ent} (hy : Sl.Yields Tryz.prog w0 bD7 inv Me [(1, R2, 302000), (0, R1, 2000)] l rr) (s0 : σ) (h0 : inv [] s0) :
  ∀ w, Ok w0 (jX l rr :: (Fr ++ Me s0)) w → Calls Tryz.prog 213 #[.func (.yield l) #[] #[], .pointer (some ⟨bb, 0, none⟩)] w (fun e w' => (∃ v, e = .returned v) ∧ ∃ s, inv [(1, R2, 302000), (0, R1, 2000)] s ∧ Ok w0 (jX l rr :: (Fr ++ Me s)) w') := by
 refine enter (vs := [_, _]) Tryz.func213 rfl Tryz.ntmps213 rfl (aE (aA (tv (aG uE rfl (aK (.tail _ (List.mem_append_right _ (hbb s0))) rfl)) (tv (aP Tryz.underlying56 rfl) (tv (cP rfl rfl (by omega)) ?_)))))
 refine tv (aD rfl) (aF (Tr.keep (env' := [(0, _), (1, _), (3, _)]) ⟨rfl, rfl, rfl, trivial⟩ (aB (aX (eN ?_)))))
 refine cR (aE (aE (aA (tv (aC rfl) (tv (fI rfl rfl) ?_)))))
 refine aF (Tr.keep (env' := [(0, _), (1, _), (3, _), (8, _)]) ⟨rfl, rfl, rfl, rfl, trivial⟩ (aB (bI rfl (aO (aB ?_)))))
 refine aE (aX (aE (kF (cJ (aC rfl) rfl (cJ (aC rfl) rfl ?_)))))
 refine cJ (aG uE rfl (aK (.tail _ (List.mem_append_right _ (hbb s0))) rfl)) rfl (cJ (aC rfl) rfl (cJ (dE (j := 1) Tryz.underlying56 dP rfl rfl rfl (by decide)) rfl (cJ (aY eY rfl (bL (n := 7) (vs := [_, _, _, _, _, _, _]) (.tail _ (List.mem_append_right _ (hd s0))) rfl) rfl) rfl (yC rfl (oA rfl rfl rfl (fun w hw => hy Fr [] ((1, R2, 302000)) [(0, R1, 2000)] rfl s0 h0 w (hw.perm (pk .here (.refl _)))) (fun s1 h1 => (cJ (bF rfl) rfl ?_)))))))
 refine fZ (Tr.keep (env' := [(0, _), (1, _), (3, _), (18, _)]) ⟨rfl, rfl, rfl, rfl, trivial⟩ (aB (aR rfl (aO (cX ?_)))))
 refine aB (aA (tv (aC rfl) (tv (cP rfl rfl (by omega)) (tv (aD rfl) (aF ?_)))))
 refine Tr.keep (env' := [(0, _), (1, _), (3, _)]) ⟨rfl, rfl, rfl, trivial⟩ (aB (cR (aE (aE (aA ?_)))))
 refine tv (aC rfl) (tv (fI rfl rfl) (aF (Tr.keep (env' := [(0, _), (1, _), (3, _), (8, _)]) ⟨rfl, rfl, rfl, rfl, trivial⟩ (aB (bI rfl ?_)))))
 refine aO (aB (aE (aX (aE (kF ?_)))))
 refine cJ (aC rfl) rfl (cJ (aC rfl) rfl (cJ (aG uE rfl (aK (.tail _ (List.mem_append_right _ (hbb s1))) rfl)) rfl (cJ (aC rfl) rfl (cJ (dE (j := 0) Tryz.underlying56 dP rfl rfl rfl (by decide)) rfl (cJ (aY eY rfl (bL (n := 7) (vs := [_, _, _, _, _, _, _]) (.tail _ (List.mem_append_right _ (hd s1))) rfl) rfl) rfl ?_)))))
 refine yC rfl (oA rfl rfl rfl (fun w hw => hy Fr [(1, R2, 302000)] ((0, R1, 2000)) [] rfl s1 h1 w (hw.perm (pk .here (.refl _)))) (fun s2 h2 => (cJ (bF rfl) rfl (fZ (Tr.keep (env' := [(0, _), (1, _), (3, _), (18, _)]) ⟨rfl, rfl, rfl, rfl, trivial⟩ (aB (aR rfl ?_)))))))
 refine aO (cX (aB (aA (tv (aC rfl) (tv (cP rfl rfl (by omega)) ?_)))))
 refine tv (aD rfl) (aF (Tr.keep (env' := [(0, _), (1, _), (3, _)]) ⟨rfl, rfl, rfl, trivial⟩ (aB (cR (aE ?_)))))
 refine aE (aA (tv (aC rfl) (tv (fI rfl rfl) (aF (Tr.keep (env' := [(0, _), (1, _), (3, _), (8, _)]) ⟨rfl, rfl, rfl, rfl, trivial⟩ ?_)))))
 refine aB (aR rfl (cY (aS (aS (bX ?_)))))
 refine eV rfl (fun w hw => ?_)
 exact ⟨⟨_, rfl⟩, s2, h2, hw⟩
theorem aP2 (v : Value) (h1 : v.oneCell' = true) : ∀ w, Ok w0 M w → Calls Tryz.prog 154 #[v] w (fun e w' => ∃ b, e = .returned (.func (.func 213) #[] #[.pointer (some ⟨b, 0, none⟩)]) ∧ True ∧ Ok w0 (cel b 56 [v] :: M) w') := by
 refine enter (vs := [_]) Tryz.func154 rfl Tryz.ntmps154 rfl (aE (aA (te (eL rfl h1 rfl fun b1 => (tv (aD rfl) (aF ?_))))))
 refine Tr.keep (env' := [(1, _)]) ⟨rfl, trivial⟩ (aB (aE (aA (tv (bG rfl rfl) (tv (aD rfl) ?_)))))
 refine aF (Tr.keep (env' := [(2, _)]) ⟨rfl, trivial⟩ (aB (aQ (aW rfl rfl (fun w hw => ?_)))))
 exact ⟨b1, rfl, trivial, hw⟩
theorem bD8 {σ : Type} {inv : List aV2 → σ → Prop} {Me : σ → List Ent} {pv pc vb db ib c c2 : Nat} {lg : Value} {sp si : List Value} (hpv : ∀ s, cel pv 191 [.pointer (some ⟨vb, 0, none⟩)] ∈ Me s) (hpc : ∀ s, cel pc 3 [.int .i64 1] ∈ Me s) (hv : ∀ s, cel vb 261 [lg, .slice (some ⟨db, 0, none⟩) 2 c, .slice (some ⟨ib, 0, none⟩) 2 c2] ∈ Me s)
  (hd : ∀ s, cel db 100 (row2 sp) ∈ Me s) (hi : ∀ s, cel ib 3 (.int .i64 0 :: .int .i64 1 :: si) ∈ Me s) {l : Nat} {rr : Loop} {Fr : List Ent} (hy : Sl.Yields Tryz.prog w0 bD7 inv Me [(0, R1, 2000), (1, R2, 302000)] l rr) (s0 : σ) (h0 : inv [] s0) :
  ∀ w, Ok w0 (jX l rr :: (Fr ++ Me s0)) w → Calls Tryz.prog 214 #[.func (.yield l) #[] #[], .pointer (some ⟨pv, 0, none⟩), .pointer (some ⟨pc, 0, none⟩)] w (fun e w' => (∃ v, e = .returned v) ∧ ∃ s, inv [(0, R1, 2000), (1, R2, 302000)] s ∧ Ok w0 (jX l rr :: (Fr ++ Me s)) w') := by
 refine enter (vs := [_, _, _]) Tryz.func214 rfl Tryz.ntmps214 rfl (aE (aA (tv (aG wD rfl (aK (.tail _ (List.mem_append_right _ (hpv s0))) rfl)) (tv (aM rfl) (tv (aI oR rfl) ?_)))))
 refine tv (aG dQ rfl (aK (.tail _ (List.mem_append_right _ (hv s0))) rfl)) (tv (aP Tryz.underlying24 rfl) (tv (aC rfl) (aF (Tr.keep (env' := [(0, _), (1, _), (2, _), (10, _), (11, _), (12, _)]) ⟨rfl, rfl, rfl, rfl, rfl, rfl, trivial⟩ (aB ?_)))))
 refine aX (eN (cR (aE (aA (tv (dI rfl rfl) ?_)))))
 refine aF (Tr.keep (env' := [(0, _), (1, _), (2, _), (10, _), (11, _), (12, _), (13, _)]) ⟨rfl, rfl, rfl, rfl, rfl, rfl, rfl, trivial⟩ (aB (aE (bI rfl (aO ?_)))))
 refine aB (aE (aX (aE (aA (tv (dE (j := 0) Tryz.underlying24 eR rfl rfl rfl (by decide)) ?_)))))
 refine tv (aG bB rfl (aK (.tail _ (List.mem_append_right _ (hi s0))) rfl)) (tv (aD rfl) (aF (Tr.keep (env' := [(0, _), (1, _), (2, _), (5, _), (10, _), (11, _), (12, _)]) ⟨rfl, rfl, rfl, rfl, rfl, rfl, rfl, trivial⟩ (aB (aE ?_)))))
 refine aA (tv (aG wD rfl (aK (.tail _ (List.mem_append_right _ (hpv s0))) rfl)) (tv (aM rfl) (tv (aI oQ rfl) (tv (aG uE rfl (aK (.tail _ (List.mem_append_right _ (hv s0))) rfl)) (tv (aC rfl) ?_)))))
 refine tv (dE (j := 0) Tryz.underlying56 dP rfl rfl rfl (by decide)) (tv (aY eY rfl (bL (n := 7) (vs := [_, _, _, _, _, _, _]) (.tail _ (List.mem_append_right _ (hd s0))) rfl) rfl) (te (bO gW (l := [.int .i64 0, .int .i64 0, .int .i64 0, .int .i64 0, .int .i64 0, .int .i64 0, .int .i64 0]) rfl rfl fun b6 => (te (bJ dP rfl rfl (vs := [_, _, _, _, _, _, _]) rfl rfl (by simp [Value.oneCell']) (.cons .zero (.cons (.succ .zero) (.cons (.succ (.succ .zero)) (.cons (.succ (.succ (.succ .zero))) (.cons (.succ (.succ (.succ (.succ .zero)))) (.cons (.succ (.succ (.succ (.succ (.succ .zero))))) (.cons (.succ (.succ (.succ (.succ (.succ (.succ .zero)))))) .nil))))))) .here (aF (Tr.keep (env' := [(0, _), (1, _), (2, _), (5, _), (6, _), (10, _), (11, _), (12, _)]) ⟨rfl, rfl, rfl, rfl, rfl, rfl, rfl, rfl, trivial⟩ ?_)))))))
 refine aB (aE (kF (cJ (aI iR rfl) rfl (cJ (aG pM rfl (aK (.head _) rfl)) rfl (cJ (eF rfl rfl) rfl ?_)))))
 refine cJ (aC rfl) rfl (iC rfl rfl (aI mW rfl) rfl (iC rfl rfl (aG bB rfl (aK (.head _) rfl)) rfl (iC rfl rfl (aG bB rfl (aK (.tail _ (.tail _ (List.mem_append_right _ (hpc s0)))) rfl)) rfl (iC rfl rfl (cW rfl rfl) rfl (cJ (cG rfl rfl) rfl ?_)))))
 refine cJ (aC rfl) rfl (iC rfl rfl (aC rfl) rfl (iC rfl rfl (aC rfl) rfl (iC rfl rfl (aY eY rfl (bL (n := 7) (vs := [_, _, _, _, _, _, _]) (.head _) rfl) rfl) rfl (aW8 rfl rfl rfl (oA rfl rfl rfl (fun w hw => hy (_ :: Fr) [] ((0, R1, 2000)) [(1, R2, 302000)] rfl s0 h0 w (hw.perm (pk (.there .here) (.refl _)))) (fun s1 h1 => (iC rfl rfl (bF rfl) rfl ?_)))))))
 refine cJ (cG rfl rfl) rfl (fZ (Tr.keep (env' := [(0, _), (1, _), (2, _), (10, _), (11, _), (12, _), (38, _)]) ⟨rfl, rfl, rfl, rfl, rfl, rfl, rfl, trivial⟩ (aB (aR rfl (aO ?_)))))
 refine cX (aB (aA (tv (cC rfl rfl (by omega)) (tv (aC rfl) (aF ?_)))))
 refine Tr.keep (env' := [(0, _), (1, _), (2, _), (10, _), (11, _), (12, _)]) ⟨rfl, rfl, rfl, rfl, rfl, rfl, trivial⟩ (aB (cR (aE (aA (tv (dI rfl rfl) ?_)))))
 refine aF (Tr.keep (env' := [(0, _), (1, _), (2, _), (10, _), (11, _), (12, _), (13, _)]) ⟨rfl, rfl, rfl, rfl, rfl, rfl, rfl, trivial⟩ (aB (aE (bI rfl (aO ?_)))))
 refine aB (aE (aX (aE (aA (tv (dE (j := 1) Tryz.underlying24 eR rfl rfl rfl (by decide)) ?_)))))
 refine tv (aG bB rfl (aK (.tail _ (.tail _ (List.mem_append_right _ (hi s1)))) rfl)) (tv (aD rfl) (aF (Tr.keep (env' := [(0, _), (1, _), (2, _), (5, _), (10, _), (11, _), (12, _)]) ⟨rfl, rfl, rfl, rfl, rfl, rfl, rfl, trivial⟩ (aB (aE ?_)))))
 refine aA (tv (aG wD rfl (aK (.tail _ (.tail _ (List.mem_append_right _ (hpv s1)))) rfl)) (tv (aM rfl) (tv (aI oQ rfl) (tv (aG uE rfl (aK (.tail _ (.tail _ (List.mem_append_right _ (hv s1)))) rfl)) (tv (aC rfl) ?_)))))
 refine tv (dE (j := 1) Tryz.underlying56 dP rfl rfl rfl (by decide)) (tv (aY eY rfl (bL (n := 7) (vs := [_, _, _, _, _, _, _]) (.tail _ (.tail _ (List.mem_append_right _ (hd s1)))) rfl) rfl) (te (bO gW (l := [.int .i64 0, .int .i64 0, .int .i64 0, .int .i64 0, .int .i64 0, .int .i64 0, .int .i64 0]) rfl rfl fun b6 => (te (bJ dP rfl rfl (vs := [_, _, _, _, _, _, _]) rfl rfl (by simp [Value.oneCell']) (.cons .zero (.cons (.succ .zero) (.cons (.succ (.succ .zero)) (.cons (.succ (.succ (.succ .zero))) (.cons (.succ (.succ (.succ (.succ .zero)))) (.cons (.succ (.succ (.succ (.succ (.succ .zero))))) (.cons (.succ (.succ (.succ (.succ (.succ (.succ .zero)))))) .nil))))))) .here (aF (Tr.keep (env' := [(0, _), (1, _), (2, _), (5, _), (6, _), (10, _), (11, _), (12, _)]) ⟨rfl, rfl, rfl, rfl, rfl, rfl, rfl, rfl, trivial⟩ ?_)))))))
 refine aB (aE (kF (cJ (aI iR rfl) rfl (cJ (aG pM rfl (aK (.head _) rfl)) rfl (cJ (eF rfl rfl) rfl ?_)))))
 refine cJ (aC rfl) rfl (iC rfl rfl (aI mW rfl) rfl (iC rfl rfl (aG bB rfl (aK (.head _) rfl)) rfl (iC rfl rfl (aG bB rfl (aK (.tail _ (.tail _ (.tail _ (List.mem_append_right _ (hpc s1))))) rfl)) rfl (iC rfl rfl (cW rfl rfl) rfl (cJ (cG rfl rfl) rfl ?_)))))
 refine cJ (aC rfl) rfl (iC rfl rfl (aC rfl) rfl (iC rfl rfl (aC rfl) rfl (iC rfl rfl (aY eY rfl (bL (n := 7) (vs := [_, _, _, _, _, _, _]) (.head _) rfl) rfl) rfl (aW8 rfl rfl rfl (oA rfl rfl rfl (fun w hw => hy (_ :: (_ :: Fr)) [(0, R1, 2000)] ((1, R2, 302000)) [] rfl s1 h1 w (hw.perm (pk (.there .here) (.refl _)))) (fun s2 h2 => (iC rfl rfl (bF rfl) rfl ?_)))))))
 refine cJ (cG rfl rfl) rfl (fZ (Tr.keep (env' := [(0, _), (1, _), (2, _), (10, _), (11, _), (12, _), (38, _)]) ⟨rfl, rfl, rfl, rfl, rfl, rfl, rfl, trivial⟩ (aB (aR rfl (aO ?_)))))
 refine cX (aB (aA (tv (cC rfl rfl (by omega)) (tv (aC rfl) (aF ?_)))))
 refine Tr.keep (env' := [(0, _), (1, _), (2, _), (10, _), (11, _), (12, _)]) ⟨rfl, rfl, rfl, rfl, rfl, rfl, trivial⟩ (aB (cR (aE (aA (tv (dI rfl rfl) ?_)))))
 refine aF (Tr.keep (env' := [(0, _), (1, _), (2, _), (10, _), (11, _), (12, _), (13, _)]) ⟨rfl, rfl, rfl, rfl, rfl, rfl, rfl, trivial⟩ (aB (aE (aR rfl (cY ?_)))))
 refine aS (aS (bX (eV rfl (fun w hw => ?_))))
 exact ⟨⟨_, rfl⟩, s2, h2, Ok.sub hw (.cons_cons _ (.cons _ (.cons _ (.refl _))))⟩
end
end Go.Proofs.W
