/-
 What functions of the program that RallyChecks reaches do, one contract each, part 3.
-/
import Derived.Test.YtakiijkfjjmppaaGreatDoorKWB
import Derived.Test.YtakiijkfjjmppaaGreatDoorKSlA
set_option linter.unusedVariables false
set_option linter.unusedSimpArgs false
set_option linter.unusedSectionVars false
set_option maxRecDepth 100000
set_option maxHeartbeats 1000000
namespace Go.Proofs.W
open Go Go.Sl Go.RowKit Go.Proofs
attribute [local irreducible] Go.Sl.Eff
theorem pQ : bY Tryz.prog 23 = some (some 6) := by kernel_rfl
theorem vM : bC Tryz.prog 23 1 = some 1 := by kernel_rfl
theorem vN : bC Tryz.prog 23 2 = some 2 := by kernel_rfl
theorem vO : bC Tryz.prog 23 3 = some 3 := by kernel_rfl
theorem vP : bC Tryz.prog 23 4 = some 4 := by kernel_rfl
theorem pG : (Tryz.prog.info? 156).map (fun i => (i.zero, i.size, i.bytes)) = some (some (.agg #[.bool false, .int .i64 0, .int .i64 0, .bool false, .bool false]), 5, 32) := by kernel_rfl
theorem kL : (Tryz.prog.info? 166).map (fun i => (i.zero, i.size, i.bytes)) = some (some (.agg #[.bool false, .int .i64 0, .bool false]), 3, 24) := by kernel_rfl
def GPlan.ok (p : GPlan) : Bool :=
 !(!(eK p.posts 1 60) || !(eK p.silence 1 100000) || !(eK p.clear 1 p.posts) || !(eK p.interval 0 100000) || !(eK p.missing 1 100000) || !(eK p.cars 1 200))
def Latest.zero : Latest := ⟨false, 0, false⟩
def GState.zero : GState := ⟨false, 0, 0, false, false⟩
def GState.new : GState := ⟨false, 0, -1, false, false⟩
def GuardSt.new (p : GPlan) : GuardSt := ⟨p, .zero, .zero, List.replicate p.posts.toNat .zero, List.replicate p.posts.toNat .zero, List.replicate p.cars.toNat .new⟩
theorem GPlan.ok_iff {p : GPlan} : p.ok = true ↔ (1 ≤ p.posts ∧ p.posts ≤ 60) ∧ (1 ≤ p.silence ∧ p.silence ≤ 100000) ∧ (1 ≤ p.clear ∧ p.clear ≤ p.posts) ∧ (0 ≤ p.interval ∧ p.interval ≤ 100000) ∧ (1 ≤ p.missing ∧ p.missing ≤ 100000) ∧ (1 ≤ p.cars ∧ p.cars ≤ 200) := by
 simp [GPlan.ok, eK]; omega
section
variable {w0 : World} {M : List Ent}
theorem aG1 {p : GPlan} (hp : p.ok = false) : ∀ w, Ok w0 M w → Calls Tryz.prog 25 #[.agg p.cells.toArray] w (fun e w' => e = .returned (.tuple #[.pointer none, .int .i64 2]) ∧ Ok w0 M w') := by
 refine enter (vs := [_]) Tryz.func25 rfl Tryz.ntmps25 rfl (aE (aA (te (cH rfl rfl fun b1 => (tv (aD rfl) (tv (aD rfl) ?_))))))
 refine aF (Tr.keep (env' := [(1, _)]) ⟨rfl, trivial⟩ (aB (aE (aE (aA ?_)))))
 refine tv (aI iL rfl) (tv (aG bB rfl (aK (.head _) rfl)) (te (aJ kO rfl rfl rfl rfl (cS _ _ _) (tv (bF rfl) (tv (aC rfl) ?_)))))
 apply aZ 5 (s := 10) (d := 15) rfl
 ·intro hg1 K hK
  refine bE hg1 rfl rfl (aI vM rfl) (bE hg1 rfl rfl (aG bB rfl (aK (.head _) rfl)) (dB hg1 rfl rfl (aJ kO rfl rfl rfl rfl (cS _ _ _) (bE hg1 rfl rfl (bF rfl) (tv (bW hg1 rfl rfl) ?_)))))
  iterate 4 refine Tr.weak2 rfl ?_
  exact hK _ (dJ hg1)
 ·intro hg1 K hK
  refine aH hg1 rfl rfl rfl rfl (aH hg1 rfl rfl rfl rfl (aH hg1 rfl rfl rfl rfl (aH hg1 rfl rfl rfl rfl (tv (bV hg1 rfl rfl) ?_))))
  iterate 4 refine Tr.weak2 rfl ?_
  exact hK _ (dK hg1)
 refine tv (aC rfl) ?_
 apply aZ 7 (s := 16) (d := 23) rfl
 ·intro hg2 K hK
  refine bE hg2 rfl rfl (aI vN rfl) (bE hg2 rfl rfl (aG bB rfl (aK (.head _) rfl)) (bE hg2 rfl rfl (aI iL rfl) (bE hg2 rfl rfl (aG bB rfl (aK (.head _) rfl)) (dB hg2 rfl rfl (aJ kO rfl rfl rfl rfl (cS _ _ _) (bE hg2 rfl rfl (bF rfl) ?_))))))
  refine tv (bW hg2 rfl rfl) ?_
  iterate 6 refine Tr.weak2 rfl ?_
  exact hK _ (dJ hg2)
 ·intro hg2 K hK
  refine aH hg2 rfl rfl rfl rfl (aH hg2 rfl rfl rfl rfl (aH hg2 rfl rfl rfl rfl (aH hg2 rfl rfl rfl rfl (aH hg2 rfl rfl rfl rfl (aH hg2 rfl rfl rfl rfl ?_)))))
  refine tv (bV hg2 rfl rfl) ?_
  iterate 6 refine Tr.weak2 rfl ?_
  exact hK _ (dK hg2)
 refine tv (aC rfl) ?_
 apply aZ 5 (s := 24) (d := 29) rfl
 ·intro hg3 K hK
  refine bE hg3 rfl rfl (aI vO rfl) (bE hg3 rfl rfl (aG bB rfl (aK (.head _) rfl)) (dB hg3 rfl rfl (aJ kO rfl rfl rfl rfl (cS _ _ _) (bE hg3 rfl rfl (bF rfl) (tv (bW hg3 rfl rfl) ?_)))))
  iterate 4 refine Tr.weak2 rfl ?_
  exact hK _ (dJ hg3)
 ·intro hg3 K hK
  refine aH hg3 rfl rfl rfl rfl (aH hg3 rfl rfl rfl rfl (aH hg3 rfl rfl rfl rfl (aH hg3 rfl rfl rfl rfl (tv (bV hg3 rfl rfl) ?_))))
  iterate 4 refine Tr.weak2 rfl ?_
  exact hK _ (dK hg3)
 refine tv (aC rfl) ?_
 apply aZ 5 (s := 30) (d := 35) rfl
 ·intro hg4 K hK
  refine bE hg4 rfl rfl (aI vP rfl) (bE hg4 rfl rfl (aG bB rfl (aK (.head _) rfl)) (dB hg4 rfl rfl (aJ kO rfl rfl rfl rfl (cS _ _ _) (bE hg4 rfl rfl (bF rfl) (tv (bW hg4 rfl rfl) ?_)))))
  iterate 4 refine Tr.weak2 rfl ?_
  exact hK _ (dJ hg4)
 ·intro hg4 K hK
  refine aH hg4 rfl rfl rfl rfl (aH hg4 rfl rfl rfl rfl (aH hg4 rfl rfl rfl rfl (aH hg4 rfl rfl rfl rfl (tv (bV hg4 rfl rfl) ?_))))
  iterate 4 refine Tr.weak2 rfl ?_
  exact hK _ (dK hg4)
 refine tv (aC rfl) ?_
 apply aZ 5 (s := 36) (d := 41) rfl
 ·intro hg5 K hK
  refine bE hg5 rfl rfl (aI jK rfl) (bE hg5 rfl rfl (aG bB rfl (aK (.head _) rfl)) (dB hg5 rfl rfl (aJ kO rfl rfl rfl rfl (cS _ _ _) (bE hg5 rfl rfl (bF rfl) (tv (bW hg5 rfl rfl) ?_)))))
  iterate 4 refine Tr.weak2 rfl ?_
  exact hK _ (dJ hg5)
 ·intro hg5 K hK
  refine aH hg5 rfl rfl rfl rfl (aH hg5 rfl rfl rfl rfl (aH hg5 rfl rfl rfl rfl (aH hg5 rfl rfl rfl rfl (tv (bV hg5 rfl rfl) ?_))))
  iterate 4 refine Tr.weak2 rfl ?_
  exact hK _ (dK hg5)
 refine aF (Tr.keep (env' := [(1, _), (41, _)]) ⟨rfl, rfl, trivial⟩ (aB ?_))
 refine bD rfl (fun hv => ?_) (fun hv => ?_)
 ·skip
  refine aE (aA (tv (aD rfl) (tv (aD rfl) (aF (Tr.keep (env' := [(2, _), (3, _)]) ⟨rfl, rfl, trivial⟩ ?_)))))
  refine aB (aQ (aN (gG rfl rfl rfl (fun w hw => ?_))))
  exact ⟨rfl, Ok.sub hw (List.sublist_cons_self _ _)⟩
 ·unfold GPlan.ok at hp; rw [hv] at hp; cases hp
theorem bH2 (nc k : Nat) (h : k < nc) : bT ((List.replicate k GState.new ++ List.replicate (nc - k) GState.zero).map GState.cells) = bT ((List.replicate k GState.new).map GState.cells) ++ (GState.zero.cells ++ bT ((List.replicate (nc - (k + 1)) GState.zero).map GState.cells)) := by
 obtain ⟨q, rfl⟩ : ∃ q, nc = k + 1 + q := ⟨nc - (k + 1), by omega⟩
 rw [show k + 1 + q - k = q + 1 by omega, show k + 1 + q - (k + 1) = q by omega, List.replicate_succ]
 simp [bT]
theorem bH3 (nc k : Nat) (h : k < nc) : bT ((List.replicate (k + 1) GState.new ++ List.replicate (nc - (k + 1)) GState.zero).map GState.cells) = bT ((List.replicate k GState.new).map GState.cells) ++ (GState.new.cells ++ bT ((List.replicate (nc - (k + 1)) GState.zero).map GState.cells)) := by
 rw [List.replicate_succ']
 simp [bT]
theorem aW1 (k : Nat) : (bT ((List.replicate k GState.new).map GState.cells)).length = k * 5 := by
 rw [gD (z := 5) (by simp only [List.mem_map]; rintro _ ⟨x, _, rfl⟩; rfl)]; simp
theorem iX {p : GPlan} (hp : p.ok = true) : ∀ w, Ok w0 M w → Calls Tryz.prog 25 #[.agg p.cells.toArray] w
  (fun e w' => ∃ l : GAt, e = .returned (.tuple #[.pointer (some ⟨l.g, 0, none⟩), .int .i64 0]) ∧ True ∧ Ok w0 ((GuardSt.new p).eg l :: (GuardSt.new p).er l :: (GuardSt.new p).ep l :: (GuardSt.new p).ec l :: M) w') := by
 obtain ⟨h1, h2, h3, h4, h5, h6⟩ := GPlan.ok_iff.1 hp
 obtain ⟨np, hnp⟩ := Int.eq_ofNat_of_zero_le (show 0 ≤ p.posts by omega)
 obtain ⟨nc, hnc⟩ := Int.eq_ofNat_of_zero_le (show 0 ≤ p.cars by omega)
 refine enter (vs := [_]) Tryz.func25 rfl Tryz.ntmps25 rfl (aE (aA (te (cH rfl rfl fun b1 => (tv (aD rfl) (tv (aD rfl) ?_))))))
 refine aF (Tr.keep (env' := [(1, _)]) ⟨rfl, trivial⟩ (aB (aE (aE (aA ?_)))))
 refine tv (aI iL rfl) (tv (aG bB rfl (aK (.head _) rfl)) (te (aJ kO rfl rfl rfl rfl (cS _ _ _) (tv (bF rfl) (tv (aC rfl) ?_)))))
 apply aZ 5 (s := 10) (d := 15) rfl
 ·intro hg1 K hK
  refine bE hg1 rfl rfl (aI vM rfl) (bE hg1 rfl rfl (aG bB rfl (aK (.head _) rfl)) (dB hg1 rfl rfl (aJ kO rfl rfl rfl rfl (cS _ _ _) (bE hg1 rfl rfl (bF rfl) (tv (bW hg1 rfl rfl) ?_)))))
  iterate 4 refine Tr.weak2 rfl ?_
  exact hK _ (dJ hg1)
 ·intro hg1 K hK
  refine aH hg1 rfl rfl rfl rfl (aH hg1 rfl rfl rfl rfl (aH hg1 rfl rfl rfl rfl (aH hg1 rfl rfl rfl rfl (tv (bV hg1 rfl rfl) ?_))))
  iterate 4 refine Tr.weak2 rfl ?_
  exact hK _ (dK hg1)
 refine tv (aC rfl) ?_
 apply aZ 7 (s := 16) (d := 23) rfl
 ·intro hg2 K hK
  refine bE hg2 rfl rfl (aI vN rfl) (bE hg2 rfl rfl (aG bB rfl (aK (.head _) rfl)) (bE hg2 rfl rfl (aI iL rfl) (bE hg2 rfl rfl (aG bB rfl (aK (.head _) rfl)) (dB hg2 rfl rfl (aJ kO rfl rfl rfl rfl (cS _ _ _) (bE hg2 rfl rfl (bF rfl) ?_))))))
  refine tv (bW hg2 rfl rfl) ?_
  iterate 6 refine Tr.weak2 rfl ?_
  exact hK _ (dJ hg2)
 ·intro hg2 K hK
  refine aH hg2 rfl rfl rfl rfl (aH hg2 rfl rfl rfl rfl (aH hg2 rfl rfl rfl rfl (aH hg2 rfl rfl rfl rfl (aH hg2 rfl rfl rfl rfl (aH hg2 rfl rfl rfl rfl ?_)))))
  refine tv (bV hg2 rfl rfl) ?_
  iterate 6 refine Tr.weak2 rfl ?_
  exact hK _ (dK hg2)
 refine tv (aC rfl) ?_
 apply aZ 5 (s := 24) (d := 29) rfl
 ·intro hg3 K hK
  refine bE hg3 rfl rfl (aI vO rfl) (bE hg3 rfl rfl (aG bB rfl (aK (.head _) rfl)) (dB hg3 rfl rfl (aJ kO rfl rfl rfl rfl (cS _ _ _) (bE hg3 rfl rfl (bF rfl) (tv (bW hg3 rfl rfl) ?_)))))
  iterate 4 refine Tr.weak2 rfl ?_
  exact hK _ (dJ hg3)
 ·intro hg3 K hK
  refine aH hg3 rfl rfl rfl rfl (aH hg3 rfl rfl rfl rfl (aH hg3 rfl rfl rfl rfl (aH hg3 rfl rfl rfl rfl (tv (bV hg3 rfl rfl) ?_))))
  iterate 4 refine Tr.weak2 rfl ?_
  exact hK _ (dK hg3)
 refine tv (aC rfl) ?_
 apply aZ 5 (s := 30) (d := 35) rfl
 ·intro hg4 K hK
  refine bE hg4 rfl rfl (aI vP rfl) (bE hg4 rfl rfl (aG bB rfl (aK (.head _) rfl)) (dB hg4 rfl rfl (aJ kO rfl rfl rfl rfl (cS _ _ _) (bE hg4 rfl rfl (bF rfl) (tv (bW hg4 rfl rfl) ?_)))))
  iterate 4 refine Tr.weak2 rfl ?_
  exact hK _ (dJ hg4)
 ·intro hg4 K hK
  refine aH hg4 rfl rfl rfl rfl (aH hg4 rfl rfl rfl rfl (aH hg4 rfl rfl rfl rfl (aH hg4 rfl rfl rfl rfl (tv (bV hg4 rfl rfl) ?_))))
  iterate 4 refine Tr.weak2 rfl ?_
  exact hK _ (dK hg4)
 refine tv (aC rfl) ?_
 apply aZ 5 (s := 36) (d := 41) rfl
 ·intro hg5 K hK
  refine bE hg5 rfl rfl (aI jK rfl) (bE hg5 rfl rfl (aG bB rfl (aK (.head _) rfl)) (dB hg5 rfl rfl (aJ kO rfl rfl rfl rfl (cS _ _ _) (bE hg5 rfl rfl (bF rfl) (tv (bW hg5 rfl rfl) ?_)))))
  iterate 4 refine Tr.weak2 rfl ?_
  exact hK _ (dJ hg5)
 ·intro hg5 K hK
  refine aH hg5 rfl rfl rfl rfl (aH hg5 rfl rfl rfl rfl (aH hg5 rfl rfl rfl rfl (aH hg5 rfl rfl rfl rfl (tv (bV hg5 rfl rfl) ?_))))
  iterate 4 refine Tr.weak2 rfl ?_
  exact hK _ (dK hg5)
 refine aF (Tr.keep (env' := [(1, _), (41, _)]) ⟨rfl, rfl, trivial⟩ (aB ?_))
 refine bD rfl (fun hv => ?_) (fun hv => ?_)
 ·unfold GPlan.ok at hp; rw [hv] at hp; cases hp
 ·skip
  refine aO (aB (aE (Tr.keep (env' := [(1, _)]) ⟨rfl, trivial⟩ ?_)))
  refine aS0 (α := GAt) (fun l => [(4, .pointer (some ⟨l.g, 0, none⟩))]) (fun l => cel l.g 169 [.int .i64 p.posts, .int .i64 p.silence, .int .i64 p.clear, .int .i64 p.interval, .int .i64 p.missing, .int .i64 p.cars, .bool false, .int .i64 0, .bool false, .bool false, .int .i64 0, .bool false, .slice (some ⟨l.r, 0, none⟩) np np, .slice (some ⟨l.p, 0, none⟩) np np, .slice (some ⟨l.c, 0, none⟩) nc nc] :: cel l.r 166 (bT (List.replicate np [.bool false, .int .i64 0, .bool false])) :: cel l.p 166 (bT (List.replicate np [.bool false, .int .i64 0, .bool false])) :: cel l.c 156 (bT (List.replicate nc [.bool false, .int .i64 0, .int .i64 0, .bool false, .bool false])) :: M) (fun _ => True) ?_ ?_
  ·intro K hK
   refine cI cK rfl (dv 0 rfl (.refl _) (aY pQ rfl (bL (n := 6) (vs := [_, _, _, _, _, _]) (.head _) rfl) rfl) (dv 1 rfl (.refl _) (aI iL rfl) (dv 2 rfl (.refl _) (aG bB rfl (aK (.head _) rfl)) (dv 4 rfl (.refl _) (aI iL rfl) (dv 5 rfl (.refl _) (aG bB rfl (aK (.head _) rfl)) ?_)))))
   refine dv 7 rfl (.refl _) (aI jK rfl) (dv 8 rfl (.refl _) (aG bB rfl (aK (.head _) rfl)) ?_)
   refine xS 3 6 9 rfl rfl rfl  rfl rfl rfl  (by kernel_rfl) ?_ ?_ ?_
   ·refine (cU (zs := [.bool false, .int .i64 0, .bool false]) Tryz.underlying164 kL rfl (by decide) (m := np) (by rw [← hnp]; rfl) (by omega) (by omega) rfl fun b45 => (aU (.cons _ (.refl _)) ?_))
    refine gP 6 9 rfl rfl  rfl rfl  (by kernel_rfl) ?_ ?_
    ·refine (cU (zs := [.bool false, .int .i64 0, .bool false]) Tryz.underlying164 kL rfl (by decide) (m := np) (by rw [← hnp]; rfl) (by omega) (by omega) rfl fun b48 => (aU (.cons _ (.cons _ (.refl _))) (de 9 rfl (cU (zs := [.bool false, .int .i64 0, .int .i64 0, .bool false, .bool false]) Tryz.underlying158 pG rfl (by decide) (m := nc) (by rw [← hnc]; rfl) (by omega) (by omega) rfl fun b51 => (aU (.cons _ (.cons _ (.cons _ (.refl _)))) (dv 10 rfl (.cons _ (.cons _ (.cons _ (.refl _)))) (bU rfl (v := .agg #[.int .i64 p.posts, .int .i64 p.silence, .int .i64 p.clear, .int .i64 p.interval, .int .i64 p.missing, .int .i64 p.cars, .bool false, .int .i64 0, .bool false, .bool false, .int .i64 0, .bool false, .slice (some ⟨b45, 0, none⟩) np np, .slice (some ⟨b48, 0, none⟩) np np, .slice (some ⟨b51, 0, none⟩) nc nc]) (fun w => by kernel_rfl)) (de 11 rfl (cH rfl rfl fun b53 => ?_))))))))
     refine aU (.cons _ (.cons _ (.cons _ (.cons _ (.refl _))))) (dv 12 rfl (.cons _ (.cons _ (.cons _ (.cons _ (.refl _))))) (aD rfl) (bQ (by kernel_rfl) ?_))
     exact dO (hK ⟨b53, b45, b48, b51⟩ trivial) ⟨rfl, trivial⟩ (pk .here (pk (.there (.there .here)) (pk (.there .here) (pk .here (.refl _))))) (.cons_cons _ (.cons_cons _ (.cons_cons _ (.cons_cons _ (.cons _ (.refl _))))))
    ·refine (cU (zs := [.bool false, .int .i64 0, .int .i64 0, .bool false, .bool false]) Tryz.underlying158 pG rfl (by decide) (m := nc) (by rw [← hnc]; rfl) (by omega) (by omega) rfl fun b51 => (aU (.cons _ (.cons _ (.refl _))) (de 6 rfl (cU (zs := [.bool false, .int .i64 0, .bool false]) Tryz.underlying164 kL rfl (by decide) (m := np) (by rw [← hnp]; rfl) (by omega) (by omega) rfl fun b48 => (aU (.cons _ (.cons _ (.cons _ (.refl _)))) (dv 10 rfl (.cons _ (.cons _ (.cons _ (.refl _)))) (bU rfl (v := .agg #[.int .i64 p.posts, .int .i64 p.silence, .int .i64 p.clear, .int .i64 p.interval, .int .i64 p.missing, .int .i64 p.cars, .bool false, .int .i64 0, .bool false, .bool false, .int .i64 0, .bool false, .slice (some ⟨b45, 0, none⟩) np np, .slice (some ⟨b48, 0, none⟩) np np, .slice (some ⟨b51, 0, none⟩) nc nc]) (fun w => by kernel_rfl)) (de 11 rfl (cH rfl rfl fun b53 => ?_))))))))
     refine aU (.cons _ (.cons _ (.cons _ (.cons _ (.refl _))))) (dv 12 rfl (.cons _ (.cons _ (.cons _ (.cons _ (.refl _))))) (aD rfl) (bQ (by kernel_rfl) ?_))
     exact dO (hK ⟨b53, b45, b48, b51⟩ trivial) ⟨rfl, trivial⟩ (pk .here (pk (.there (.there .here)) (pk .here (pk .here (.refl _))))) (.cons_cons _ (.cons_cons _ (.cons_cons _ (.cons_cons _ (.cons _ (.refl _))))))
   ·refine (cU (zs := [.bool false, .int .i64 0, .bool false]) Tryz.underlying164 kL rfl (by decide) (m := np) (by rw [← hnp]; rfl) (by omega) (by omega) rfl fun b48 => (aU (.cons _ (.refl _)) ?_))
    refine gP 3 9 rfl rfl  rfl rfl  (by kernel_rfl) ?_ ?_
    ·refine (cU (zs := [.bool false, .int .i64 0, .bool false]) Tryz.underlying164 kL rfl (by decide) (m := np) (by rw [← hnp]; rfl) (by omega) (by omega) rfl fun b45 => (aU (.cons _ (.cons _ (.refl _))) (de 9 rfl (cU (zs := [.bool false, .int .i64 0, .int .i64 0, .bool false, .bool false]) Tryz.underlying158 pG rfl (by decide) (m := nc) (by rw [← hnc]; rfl) (by omega) (by omega) rfl fun b51 => (aU (.cons _ (.cons _ (.cons _ (.refl _)))) (dv 10 rfl (.cons _ (.cons _ (.cons _ (.refl _)))) (bU rfl (v := .agg #[.int .i64 p.posts, .int .i64 p.silence, .int .i64 p.clear, .int .i64 p.interval, .int .i64 p.missing, .int .i64 p.cars, .bool false, .int .i64 0, .bool false, .bool false, .int .i64 0, .bool false, .slice (some ⟨b45, 0, none⟩) np np, .slice (some ⟨b48, 0, none⟩) np np, .slice (some ⟨b51, 0, none⟩) nc nc]) (fun w => by kernel_rfl)) (de 11 rfl (cH rfl rfl fun b53 => ?_))))))))
     refine aU (.cons _ (.cons _ (.cons _ (.cons _ (.refl _))))) (dv 12 rfl (.cons _ (.cons _ (.cons _ (.cons _ (.refl _))))) (aD rfl) (bQ (by kernel_rfl) ?_))
     exact dO (hK ⟨b53, b45, b48, b51⟩ trivial) ⟨rfl, trivial⟩ (pk .here (pk (.there .here) (pk (.there .here) (pk .here (.refl _))))) (.cons_cons _ (.cons_cons _ (.cons_cons _ (.cons_cons _ (.cons _ (.refl _))))))
    ·refine (cU (zs := [.bool false, .int .i64 0, .int .i64 0, .bool false, .bool false]) Tryz.underlying158 pG rfl (by decide) (m := nc) (by rw [← hnc]; rfl) (by omega) (by omega) rfl fun b51 => (aU (.cons _ (.cons _ (.refl _))) (de 3 rfl (cU (zs := [.bool false, .int .i64 0, .bool false]) Tryz.underlying164 kL rfl (by decide) (m := np) (by rw [← hnp]; rfl) (by omega) (by omega) rfl fun b45 => (aU (.cons _ (.cons _ (.cons _ (.refl _)))) (dv 10 rfl (.cons _ (.cons _ (.cons _ (.refl _)))) (bU rfl (v := .agg #[.int .i64 p.posts, .int .i64 p.silence, .int .i64 p.clear, .int .i64 p.interval, .int .i64 p.missing, .int .i64 p.cars, .bool false, .int .i64 0, .bool false, .bool false, .int .i64 0, .bool false, .slice (some ⟨b45, 0, none⟩) np np, .slice (some ⟨b48, 0, none⟩) np np, .slice (some ⟨b51, 0, none⟩) nc nc]) (fun w => by kernel_rfl)) (de 11 rfl (cH rfl rfl fun b53 => ?_))))))))
     refine aU (.cons _ (.cons _ (.cons _ (.cons _ (.refl _))))) (dv 12 rfl (.cons _ (.cons _ (.cons _ (.cons _ (.refl _))))) (aD rfl) (bQ (by kernel_rfl) ?_))
     exact dO (hK ⟨b53, b45, b48, b51⟩ trivial) ⟨rfl, trivial⟩ (pk .here (pk .here (pk (.there .here) (pk .here (.refl _))))) (.cons_cons _ (.cons_cons _ (.cons_cons _ (.cons_cons _ (.cons _ (.refl _))))))
   ·refine (cU (zs := [.bool false, .int .i64 0, .int .i64 0, .bool false, .bool false]) Tryz.underlying158 pG rfl (by decide) (m := nc) (by rw [← hnc]; rfl) (by omega) (by omega) rfl fun b51 => (aU (.cons _ (.refl _)) ?_))
    refine gP 3 6 rfl rfl  rfl rfl  (by kernel_rfl) ?_ ?_
    ·refine (cU (zs := [.bool false, .int .i64 0, .bool false]) Tryz.underlying164 kL rfl (by decide) (m := np) (by rw [← hnp]; rfl) (by omega) (by omega) rfl fun b45 => (aU (.cons _ (.cons _ (.refl _))) (de 6 rfl (cU (zs := [.bool false, .int .i64 0, .bool false]) Tryz.underlying164 kL rfl (by decide) (m := np) (by rw [← hnp]; rfl) (by omega) (by omega) rfl fun b48 => (aU (.cons _ (.cons _ (.cons _ (.refl _)))) (dv 10 rfl (.cons _ (.cons _ (.cons _ (.refl _)))) (bU rfl (v := .agg #[.int .i64 p.posts, .int .i64 p.silence, .int .i64 p.clear, .int .i64 p.interval, .int .i64 p.missing, .int .i64 p.cars, .bool false, .int .i64 0, .bool false, .bool false, .int .i64 0, .bool false, .slice (some ⟨b45, 0, none⟩) np np, .slice (some ⟨b48, 0, none⟩) np np, .slice (some ⟨b51, 0, none⟩) nc nc]) (fun w => by kernel_rfl)) (de 11 rfl (cH rfl rfl fun b53 => ?_))))))))
     refine aU (.cons _ (.cons _ (.cons _ (.cons _ (.refl _))))) (dv 12 rfl (.cons _ (.cons _ (.cons _ (.cons _ (.refl _))))) (aD rfl) (bQ (by kernel_rfl) ?_))
     exact dO (hK ⟨b53, b45, b48, b51⟩ trivial) ⟨rfl, trivial⟩ (pk .here (pk (.there .here) (pk .here (pk .here (.refl _))))) (.cons_cons _ (.cons_cons _ (.cons_cons _ (.cons_cons _ (.cons _ (.refl _))))))
    ·refine (cU (zs := [.bool false, .int .i64 0, .bool false]) Tryz.underlying164 kL rfl (by decide) (m := np) (by rw [← hnp]; rfl) (by omega) (by omega) rfl fun b48 => (aU (.cons _ (.cons _ (.refl _))) (de 3 rfl (cU (zs := [.bool false, .int .i64 0, .bool false]) Tryz.underlying164 kL rfl (by decide) (m := np) (by rw [← hnp]; rfl) (by omega) (by omega) rfl fun b45 => (aU (.cons _ (.cons _ (.cons _ (.refl _)))) (dv 10 rfl (.cons _ (.cons _ (.cons _ (.refl _)))) (bU rfl (v := .agg #[.int .i64 p.posts, .int .i64 p.silence, .int .i64 p.clear, .int .i64 p.interval, .int .i64 p.missing, .int .i64 p.cars, .bool false, .int .i64 0, .bool false, .bool false, .int .i64 0, .bool false, .slice (some ⟨b45, 0, none⟩) np np, .slice (some ⟨b48, 0, none⟩) np np, .slice (some ⟨b51, 0, none⟩) nc nc]) (fun w => by kernel_rfl)) (de 11 rfl (cH rfl rfl fun b53 => ?_))))))))
     refine aU (.cons _ (.cons _ (.cons _ (.cons _ (.refl _))))) (dv 12 rfl (.cons _ (.cons _ (.cons _ (.cons _ (.refl _))))) (aD rfl) (bQ (by kernel_rfl) ?_))
     exact dO (hK ⟨b53, b45, b48, b51⟩ trivial) ⟨rfl, trivial⟩ (pk .here (pk .here (pk .here (pk .here (.refl _))))) (.cons_cons _ (.cons_cons _ (.cons_cons _ (.cons_cons _ (.cons _ (.refl _))))))
  intro l _
  refine Tr.keep (env' := [(4, _)]) ⟨rfl, trivial⟩ (aB (aE (aE (aA (tv (aC rfl) ?_)))))
  refine tv (aM rfl) (tv (aI iG rfl) (tv (aG kV rfl (aK (.head _) rfl)) (tv (aP Tryz.underlying158 rfl) (tv (aC rfl) (aF ?_)))))
  refine Tr.keep (env' := [(4, _), (58, _), (59, _)]) ⟨rfl, rfl, rfl, trivial⟩ (aB (aX (dW (fun k : Nat => [(4, .pointer (some ⟨l.g, 0, none⟩)), (58, .int .i64 (nc : Int)), (59, .int .i64 (k : Int))]) (fun k : Nat => cel l.g 169 [.int .i64 p.posts, .int .i64 p.silence, .int .i64 p.clear, .int .i64 p.interval, .int .i64 p.missing, .int .i64 p.cars, .bool false, .int .i64 0, .bool false, .bool false, .int .i64 0, .bool false, .slice (some ⟨l.r, 0, none⟩) np np, .slice (some ⟨l.p, 0, none⟩) np np, .slice (some ⟨l.c, 0, none⟩) nc nc] :: cel l.r 166 (bT (List.replicate np [.bool false, .int .i64 0, .bool false])) :: cel l.p 166 (bT (List.replicate np [.bool false, .int .i64 0, .bool false])) :: cel l.c 156 (bT ((List.replicate k GState.new ++ List.replicate (nc - k) GState.zero).map GState.cells)) :: M) (fun k : Nat => k ≤ nc) (fun k : Nat => nc - k) 0 (Nat.zero_le _) ⟨rfl, rfl, rfl, trivial⟩ (by simp [GState.cells, GState.zero]) ?_)))
  intro K k hk IH
  refine aE (aA (tv (dI rfl rfl) (aF (Tr.keep (env' := [(4, _), (58, _), (59, _), (60, _)]) ⟨rfl, rfl, rfl, rfl, trivial⟩ (aB ?_)))))
  refine aE ?_
  refine bD rfl (fun hc1 => ?_) (fun hc1 => ?_)
  ·have hlt : k < nc := by simpa using hc1
   rw [bH2 nc k hlt]
   refine aO (aB (aE (aX (aE (aA ?_)))))
   refine tv (aC rfl) (tv (aD rfl) (aF (Tr.keep (env' := [(4, _), (5, _), (58, _), (59, _)]) ⟨rfl, rfl, rfl, rfl, trivial⟩ (aB (aA ?_)))))
   refine tv (aC rfl) (tv (aM rfl) (tv (aI iG rfl) (tv (aG kV rfl (aK (.head _) rfl)) (tv (aC rfl) (tv (nT k (bT ((List.replicate k GState.new).map GState.cells)).length Tryz.underlying158 mS rfl rfl rfl rfl (by simpa using hlt) (by rw [aW1]; simp)) ?_)))))
   refine tv (aI mV rfl) (te (bR eR rfl rfl rfl (.app (.succ (.succ .zero))) (.there (.there (.there .here))) (aF (Tr.keep (env' := [(4, _), (58, _), (59, _)]) ⟨rfl, rfl, rfl, trivial⟩ (cX (aB ?_))))))
   refine aA (tv (cC rfl rfl (by omega)) (tv (aC rfl) (aF (Tr.keep (env' := [(4, _), (58, _), (59, _)]) ⟨rfl, rfl, rfl, trivial⟩ (aB ?_)))))
   refine nD (IH (k + 1) (by omega) (by omega)) ⟨rfl, rfl, rfl, trivial⟩ (by rw [bH3 nc k hlt]; exact .refl _)
  ·have h9 : ¬ k < nc := by simpa using hc1
   have hge : k = nc := by omega
   refine cY (aS (aS (bX (aB (aE ?_)))))
   refine aA (tv (aC rfl) (tv (aD rfl) (tv (aD rfl) (aF (Tr.keep (env' := [(2, _), (3, _)]) ⟨rfl, rfl, trivial⟩ ?_)))))
   refine aB (aQ (gG rfl rfl rfl (fun w hw => (⟨l, rfl, trivial, ?_⟩))))
   have e : GuardSt.new p = ⟨p, .zero, .zero, List.replicate np .zero, List.replicate np .zero, List.replicate nc .new⟩ := by simp [GuardSt.new, hnp, hnc]
   rw [e]
   subst hge
   simpa [GuardSt.eg, GuardSt.er, GuardSt.ep, GuardSt.ec, GuardSt.cells, Latest.zero, Latest.cells, slv] using hw
end
end Go.Proofs.W
set_option linter.unusedVariables false
set_option linter.unusedSimpArgs false
set_option linter.unusedSectionVars false
set_option maxRecDepth 100000
namespace Go.Proofs.W
open Go Go.Sl Go.RowKit Go.Proofs
attribute [local irreducible] Go.Sl.Eff
theorem ca_174 : bY Tryz.prog 174 = some (none) := by kernel_rfl
theorem ca_250 : bY Tryz.prog 250 = some (none) := by kernel_rfl
theorem bH4 : aV Tryz.prog 136 := aL Tryz.func136 (by kernel_rfl) (by kernel_rfl)
theorem en_137 : aV Tryz.prog 137 := aL Tryz.func137 (by kernel_rfl) (by kernel_rfl)
theorem en_138 : aV Tryz.prog 138 := aL Tryz.func138 (by kernel_rfl) (by kernel_rfl)
theorem aR3 : aV Tryz.prog 139 := aL Tryz.func139 (by kernel_rfl) (by kernel_rfl)
theorem en_140 : aV Tryz.prog 140 := aL Tryz.func140 (by kernel_rfl) (by kernel_rfl)
theorem en_141 : aV Tryz.prog 141 := aL Tryz.func141 (by kernel_rfl) (by kernel_rfl)
theorem en_142 : aV Tryz.prog 142 := aL Tryz.func142 (by kernel_rfl) (by kernel_rfl)
theorem bH5 : aV Tryz.prog 143 := aL Tryz.func143 (by kernel_rfl) (by kernel_rfl)
theorem en_144 : aV Tryz.prog 144 := aL Tryz.func144 (by kernel_rfl) (by kernel_rfl)
theorem en_204 : aV Tryz.prog 204 := aL Tryz.func204 (by kernel_rfl) (by kernel_rfl)
theorem en_82 : aV Tryz.prog 82 := aL Tryz.func82 (by kernel_rfl) (by kernel_rfl)
theorem en_83 : aV Tryz.prog 83 := aL Tryz.func83 (by kernel_rfl) (by kernel_rfl)
theorem en_84 : aV Tryz.prog 84 := aL Tryz.func84 (by kernel_rfl) (by kernel_rfl)
theorem en_85 : aV Tryz.prog 85 := aL Tryz.func85 (by kernel_rfl) (by kernel_rfl)
theorem en_86 : aV Tryz.prog 86 := aL Tryz.func86 (by kernel_rfl) (by kernel_rfl)
theorem en_87 : aV Tryz.prog 87 := aL Tryz.func87 (by kernel_rfl) (by kernel_rfl)
theorem en_88 : aV Tryz.prog 88 := aL Tryz.func88 (by kernel_rfl) (by kernel_rfl)
theorem en_89 : aV Tryz.prog 89 := aL Tryz.func89 (by kernel_rfl) (by kernel_rfl)
theorem xA : bC Tryz.prog 156 1 = some 1 := by kernel_rfl
theorem inf_176 : (Tryz.prog.info? 176).map (fun i => (i.zero, i.size, i.bytes)) = some (some ((.int .i64 0)), 1, 8) := by kernel_rfl
theorem iz_174 : (Tryz.prog.info? 174).map (·.size) = some 1 := by kernel_rfl
structure GuardSt.Sane (g : GuardSt) : Prop where
 posts : ∀ x ∈ g.posts, 0 ≤ x.second ∧ x.second ≤ 100000
 cars : ∀ c ∈ g.cars, 0 ≤ c.second ∧ c.second ≤ 100000
def aG2 (g : GuardSt) (t : Int) (x : Latest) : Bool := !x.heard || decide (g.plan.silence < t - x.second)
def aG3 (g : GuardSt) (c : GState) : Bool := !c.safe && decide (c.post < g.plan.clear - 1)
def xB (g : GuardSt) (t : Int) (c : GState) : Bool := !c.safe && !c.found && decide (c.post < g.plan.posts - 1) && decide (g.plan.missing < t - c.second)
def tL (g : GuardSt) (t : Int) (c : GState) : Bool := decide (t - g.plan.interval < c.second)
def GuardSt.forbids (g : GuardSt) (car : Nat) (t : Int) : Nat → Bool
 | 0 => !g.opened.value
 | 1 => g.red.any (·.value)
 | 2 => g.posts.any (aG2 g t)
 | 3 => !g.covered.value
 | 4 => g.cars.any fun c => c.started && aG3 g c
 | 5 => g.cars.any fun c => c.started && xB g t c
 | 6 => g.cars.any fun c => c.started && tL g t c
 | _ => (g.cars.drop car).any (·.started)
def GuardSt.may (g : GuardSt) (car : Nat) (t : Int) : List Int := ((List.range 8).filter (g.forbids car t)).map fun i : Nat => (1 + (i : Int))
def encI (i : Int) : List Value := [.int .i64 i]
def tM : List Value → Latest
 | [.bool a, .int _ s, .bool h] => ⟨a, s, h⟩
 | _ => ⟨false, 0, false⟩
def decG : List Value → GState
 | [.bool a, .int _ s, .int _ p, .bool b, .bool c] => ⟨a, s, p, b, c⟩
 | _ => ⟨false, 0, 0, false, false⟩
@[simp] theorem decLatest_cells (x : Latest) : tM x.cells = x := rfl
@[simp] theorem decG_cells (x : GState) : decG x.cells = x := rfl
section
variable {w0 : World} {M : List Ent}
theorem yZ (x : Latest) : ∀ w, Ok w0 M w → Calls Tryz.prog 137 #[.agg x.cells.toArray] w (fun e w' => e = .returned (.bool (x.value)) ∧ Ok w0 M w') := by
 refine enter (vs := [_]) Tryz.func137 rfl Tryz.ntmps137 rfl (aE (aA (te (cH rfl rfl fun b1 => (tv (aD rfl) (aF ?_))))))
 refine Tr.keep (env' := [(1, _)]) ⟨rfl, trivial⟩ (aB (aE (aA (tv (aI rZ rfl) (tv (aG pK rfl (aK (.head _) rfl)) ?_)))))
 refine tv (aD rfl) (aF (Tr.keep (env' := [(2, _)]) ⟨rfl, trivial⟩ (aB (aQ (aW rfl rfl (fun w hw => ?_))))))
 exact ⟨rfl, Ok.sub hw (List.sublist_cons_self _ _)⟩
theorem xC (x : GState) : ∀ w, Ok w0 M w → Calls Tryz.prog 144 #[.agg x.cells.toArray] w (fun e w' => e = .returned (.bool (x.started)) ∧ Ok w0 M w') := by
 refine enter (vs := [_]) Tryz.func144 rfl Tryz.ntmps144 rfl (aE (aA (te (cH rfl rfl fun b1 => (tv (aD rfl) (aF ?_))))))
 refine Tr.keep (env' := [(1, _)]) ⟨rfl, trivial⟩ (aB (aE (aA (tv (aI rD rfl) (tv (aG pK rfl (aK (.head _) rfl)) ?_)))))
 refine tv (aD rfl) (aF (Tr.keep (env' := [(2, _)]) ⟨rfl, trivial⟩ (aB (aQ (aW rfl rfl (fun w hw => ?_))))))
 exact ⟨rfl, Ok.sub hw (List.sublist_cons_self _ _)⟩
theorem uU {g : GuardSt} {l : GAt} {bg bt : Nat} {t : Int} (hg : g.eg l ∈ M) (hb : cel bg 68 [.pointer (some ⟨l.g, 0, none⟩)] ∈ M) (ht : cel bt 3 [.int .i64 t] ∈ M) (hf : g.Fine) (htt : 0 ≤ t ∧ t ≤ 100000) (x : Latest) (hx : 0 ≤ x.second ∧ x.second ≤ 100000) : ∀ w, Ok w0 M w → Calls Tryz.prog 138 #[.agg x.cells.toArray, .pointer (some ⟨bt, 0, none⟩), .pointer (some ⟨bg, 0, none⟩)] w (fun e w' => e = .returned (.bool (aG2 g t x)) ∧ Ok w0 M w') := by
 refine enter (vs := [_, _, _]) Tryz.func138 rfl Tryz.ntmps138 rfl (aE (aA (te (cH rfl rfl fun b3 => (tv (aD rfl) (aF ?_))))))
 refine Tr.keep (env' := [(1, _), (2, _), (3, _)]) ⟨rfl, rfl, rfl, trivial⟩ (aB (aE (Tr.keep (env' := [(1, _), (2, _), (3, _)]) ⟨rfl, rfl, rfl, trivial⟩ ?_)))
 refine mG [(4, .bool (!x.heard || decide (g.plan.silence < t - x.second)))] (fun K hK => ?_) ?_
 ·skip
  refine cI cK rfl (dv 0 rfl (.refl _) (aI sB rfl) (dv 1 rfl (.refl _) (aG pK rfl (aK (.head _) rfl)) (dv 2 rfl (.refl _) (bF rfl) (dv 3 rfl (.refl _) (aC rfl) ?_))))
  refine dN (s := 8) rfl (fun hd1 => ?_) (fun hd1 => ?_)
  ·skip
   refine dR 4 hd1 rfl (.refl _) rfl rfl (dR 5 hd1 rfl (.refl _) rfl rfl (dR 6 hd1 rfl (.refl _) rfl rfl (dR 7 hd1 rfl (.refl _) rfl rfl (dR 8 hd1 rfl (.refl _) rfl rfl (dR 9 hd1 rfl (.refl _) rfl rfl ?_)))))
   refine dR 10 hd1 rfl (.refl _) rfl rfl (dR 11 hd1 rfl (.refl _) rfl rfl (dR 12 hd1 rfl (.refl _) rfl rfl (dR 13 hd1 rfl (.refl _) rfl rfl (dv 14 rfl (.refl _) (bV hd1 rfl rfl) (dv 15 rfl (.refl _) (aD rfl) ?_)))))
   refine bQ (by kernel_rfl) ?_
   exact dF hK ⟨(by first | (simp [dM.get, hd1]; done) | exact absurd hd1 (by decide) | (simp_all [dM.get]; done)), rfl, rfl, rfl, trivial⟩ (.refl _)
  ·skip
   refine dS 4 hd1 rfl (.refl _) rfl rfl (aG bB rfl (aK (.tail _ ht) rfl)) (dS 5 hd1 rfl (.refl _) rfl rfl (aI mE rfl) (dS 6 hd1 rfl (.refl _) rfl rfl (aG bB rfl (aK (.head _) rfl)) (dS 7 hd1 rfl (.refl _) rfl rfl (cP rfl rfl (by omega)) (dS 8 hd1 rfl (.refl _) rfl rfl (aG fE rfl (aK (.tail _ hb) rfl)) (dS 9 hd1 rfl (.refl _) rfl rfl (aM rfl) ?_)))))
   refine dS 10 hd1 rfl (.refl _) rfl rfl (aI kP rfl) (dS 11 hd1 rfl (.refl _) rfl rfl (aI vM rfl) (dS 12 hd1 rfl (.refl _) rfl rfl (aG bB rfl (aK (.tail _ hg) rfl)) (dS 13 hd1 rfl (.refl _) rfl rfl (fC rfl rfl) (dv 14 rfl (.refl _) (bW hd1 rfl rfl) (dv 15 rfl (.refl _) (aD rfl) ?_)))))
   refine bQ (by kernel_rfl) ?_
   exact dF hK ⟨(by first | (simp [dM.get, hd1]; done) | exact absurd hd1 (by decide) | (simp_all [dM.get]; done)), rfl, rfl, rfl, trivial⟩ (.refl _)
 refine Tr.keep (env' := [(4, _)]) ⟨rfl, trivial⟩ (aB (aQ (aW rfl rfl (fun w hw => ?_))))
 exact ⟨rfl, Ok.sub hw (List.sublist_cons_self _ _)⟩
theorem uV {g : GuardSt} {l : GAt} {bg bt : Nat} {t : Int} (hg : g.eg l ∈ M) (hb : cel bg 68 [.pointer (some ⟨l.g, 0, none⟩)] ∈ M) (hf : g.Fine) (x : GState) : ∀ w, Ok w0 M w → Calls Tryz.prog 140 #[.agg x.cells.toArray, .pointer (some ⟨bg, 0, none⟩)] w (fun e w' => e = .returned (.bool (aG3 g x)) ∧ Ok w0 M w') := by
 have hcl := hf.cle; have h2 := hf.posts; have h3 := hf.np
 refine enter (vs := [_, _]) Tryz.func140 rfl Tryz.ntmps140 rfl (aE (aA (te (cH rfl rfl fun b2 => (tv (aD rfl) (aF ?_))))))
 refine Tr.keep (env' := [(1, _), (2, _)]) ⟨rfl, rfl, trivial⟩ (aB (aE (Tr.keep (env' := [(1, _), (2, _)]) ⟨rfl, rfl, trivial⟩ ?_)))
 refine mG [(3, .bool (!x.safe && decide (x.post < g.plan.clear - 1)))] (fun K hK => ?_) ?_
 ·skip
  refine cI cK rfl (dv 0 rfl (.refl _) (aI aJ6 rfl) (dv 1 rfl (.refl _) (aG pK rfl (aK (.head _) rfl)) (dv 2 rfl (.refl _) (bF rfl) (dv 3 rfl (.refl _) (aC rfl) ?_))))
  refine dN (s := 7) rfl (fun hd1 => ?_) (fun hd1 => ?_)
  ·skip
   refine dS 4 hd1 rfl (.refl _) rfl rfl (aI mV rfl) (dS 5 hd1 rfl (.refl _) rfl rfl (aG bB rfl (aK (.head _) rfl)) (dS 6 hd1 rfl (.refl _) rfl rfl (aG fE rfl (aK (.tail _ hb) rfl)) (dS 7 hd1 rfl (.refl _) rfl rfl (aM rfl) (dS 8 hd1 rfl (.refl _) rfl rfl (aI kP rfl) (dS 9 hd1 rfl (.refl _) rfl rfl (aI vN rfl) ?_)))))
   refine dS 10 hd1 rfl (.refl _) rfl rfl (aG bB rfl (aK (.tail _ hg) rfl)) (dS 11 hd1 rfl (.refl _) rfl rfl (cP rfl rfl (by omega)) (dS 12 hd1 rfl (.refl _) rfl rfl (dI rfl rfl) (dv 13 rfl (.refl _) (bV hd1 rfl rfl) (dv 14 rfl (.refl _) (aD rfl) (bQ (by kernel_rfl) ?_)))))
   exact dF hK ⟨(by first | (simp [dM.get, hd1]; done) | exact absurd hd1 (by decide) | (simp_all [dM.get]; done)), rfl, rfl, trivial⟩ (.refl _)
  ·skip
   refine dR 4 hd1 rfl (.refl _) rfl rfl (dR 5 hd1 rfl (.refl _) rfl rfl (dR 6 hd1 rfl (.refl _) rfl rfl (dR 7 hd1 rfl (.refl _) rfl rfl (dR 8 hd1 rfl (.refl _) rfl rfl (dR 9 hd1 rfl (.refl _) rfl rfl ?_)))))
   refine dR 10 hd1 rfl (.refl _) rfl rfl (dR 11 hd1 rfl (.refl _) rfl rfl (dR 12 hd1 rfl (.refl _) rfl rfl (dv 13 rfl (.refl _) (bW hd1 rfl rfl) (dv 14 rfl (.refl _) (aD rfl) (bQ (by kernel_rfl) ?_)))))
   exact dF hK ⟨(by first | (simp [dM.get, hd1]; done) | exact absurd hd1 (by decide) | (simp_all [dM.get]; done)), rfl, rfl, trivial⟩ (.refl _)
 refine Tr.keep (env' := [(3, _)]) ⟨rfl, trivial⟩ (aB (aQ (aW rfl rfl (fun w hw => ?_))))
 exact ⟨rfl, Ok.sub hw (List.sublist_cons_self _ _)⟩
theorem tN {g : GuardSt} {l : GAt} {bg bt : Nat} {t : Int} (hg : g.eg l ∈ M) (hb : cel bg 68 [.pointer (some ⟨l.g, 0, none⟩)] ∈ M) (ht : cel bt 3 [.int .i64 t] ∈ M) (hf : g.Fine) (htt : 0 ≤ t ∧ t ≤ 100000) (x : GState) (hx : 0 ≤ x.second ∧ x.second ≤ 100000) : ∀ w, Ok w0 M w → Calls Tryz.prog 141 #[.agg x.cells.toArray, .pointer (some ⟨bg, 0, none⟩), .pointer (some ⟨bt, 0, none⟩)] w (fun e w' => e = .returned (.bool (xB g t x)) ∧ Ok w0 M w') := by
 have hcl := hf.cle; have h2 := hf.posts; have h3 := hf.np
 refine enter (vs := [_, _, _]) Tryz.func141 rfl Tryz.ntmps141 rfl (aE (aA (te (cH rfl rfl fun b3 => (tv (aD rfl) (aF ?_))))))
 refine Tr.keep (env' := [(1, _), (2, _), (3, _)]) ⟨rfl, rfl, rfl, trivial⟩ (aB (aE (Tr.keep (env' := [(1, _), (2, _), (3, _)]) ⟨rfl, rfl, rfl, trivial⟩ ?_)))
 refine mG [(4, .bool (!x.safe && !x.found && decide (x.post < g.plan.posts - 1) && decide (g.plan.missing < t - x.second)))] (fun K hK => ?_) ?_
 ·skip
  refine cI cK rfl (dv 0 rfl (.refl _) (aI aJ6 rfl) (dv 1 rfl (.refl _) (aG pK rfl (aK (.head _) rfl)) (dv 2 rfl (.refl _) (bF rfl) (dv 3 rfl (.refl _) (aC rfl) ?_))))
  refine dN (s := 8) rfl (fun hd1 => ?_) (fun hd1 => ?_)
  ·skip
   refine dS 4 hd1 rfl (.refl _) rfl rfl (aI bC4 rfl) (dS 5 hd1 rfl (.refl _) rfl rfl (aG pK rfl (aK (.head _) rfl)) (dS 6 hd1 rfl (.refl _) rfl rfl (bF rfl) (dv 7 rfl (.refl _) (bV hd1 rfl rfl) (dv 8 rfl (.refl _) (aC rfl) ?_))))
   refine dN (s := 13) rfl (fun hd2 => ?_) (fun hd2 => ?_)
   ·skip
    refine dS 9 hd2 rfl (.refl _) rfl rfl (aI mV rfl) (dS 10 hd2 rfl (.refl _) rfl rfl (aG bB rfl (aK (.head _) rfl)) (dS 11 hd2 rfl (.refl _) rfl rfl (aG fE rfl (aK (.tail _ hb) rfl)) (dS 12 hd2 rfl (.refl _) rfl rfl (aM rfl) (dS 13 hd2 rfl (.refl _) rfl rfl (aI kP rfl) (dS 14 hd2 rfl (.refl _) rfl rfl (aI iL rfl) ?_)))))
    refine dS 15 hd2 rfl (.refl _) rfl rfl (aG bB rfl (aK (.tail _ hg) rfl)) (dS 16 hd2 rfl (.refl _) rfl rfl (cP rfl rfl (by omega)) (dS 17 hd2 rfl (.refl _) rfl rfl (dI rfl rfl) (dv 18 rfl (.refl _) (bV hd2 rfl rfl) (dv 19 rfl (.refl _) (aC rfl) ?_))))
    refine dN (s := 24) rfl (fun hd3 => ?_) (fun hd3 => ?_)
    ·skip
     refine dS 20 hd3 rfl (.refl _) rfl rfl (aG bB rfl (aK (.tail _ ht) rfl)) (dS 21 hd3 rfl (.refl _) rfl rfl (aI xA rfl) (dS 22 hd3 rfl (.refl _) rfl rfl (aG bB rfl (aK (.head _) rfl)) (dS 23 hd3 rfl (.refl _) rfl rfl (cP rfl rfl (by omega)) (dS 24 hd3 rfl (.refl _) rfl rfl (aG fE rfl (aK (.tail _ hb) rfl)) (dS 25 hd3 rfl (.refl _) rfl rfl (aM rfl) ?_)))))
     refine dS 26 hd3 rfl (.refl _) rfl rfl (aI kP rfl) (dS 27 hd3 rfl (.refl _) rfl rfl (aI vP rfl) (dS 28 hd3 rfl (.refl _) rfl rfl (aG bB rfl (aK (.tail _ hg) rfl)) (dS 29 hd3 rfl (.refl _) rfl rfl (fC rfl rfl) (dv 30 rfl (.refl _) (bV hd3 rfl rfl) (dv 31 rfl (.refl _) (aD rfl) ?_)))))
     refine bQ (by kernel_rfl) ?_
     exact dF hK ⟨(by first | (simp [dM.get, hd1, hd2, hd3]; done) | exact absurd hd1 (by decide) | exact absurd hd2 (by decide) | exact absurd hd3 (by decide) | (simp_all [dM.get]; done)), rfl, rfl, rfl, trivial⟩ (.refl _)
    ·skip
     refine dR 20 hd3 rfl (.refl _) rfl rfl (dR 21 hd3 rfl (.refl _) rfl rfl (dR 22 hd3 rfl (.refl _) rfl rfl (dR 23 hd3 rfl (.refl _) rfl rfl (dR 24 hd3 rfl (.refl _) rfl rfl (dR 25 hd3 rfl (.refl _) rfl rfl ?_)))))
     refine dR 26 hd3 rfl (.refl _) rfl rfl (dR 27 hd3 rfl (.refl _) rfl rfl (dR 28 hd3 rfl (.refl _) rfl rfl (dR 29 hd3 rfl (.refl _) rfl rfl (dv 30 rfl (.refl _) (bW hd3 rfl rfl) (dv 31 rfl (.refl _) (aD rfl) ?_)))))
     refine bQ (by kernel_rfl) ?_
     exact dF hK ⟨(by first | (simp [dM.get, hd1, hd2, hd3]; done) | exact absurd hd1 (by decide) | exact absurd hd2 (by decide) | exact absurd hd3 (by decide) | (simp_all [dM.get]; done)), rfl, rfl, rfl, trivial⟩ (.refl _)
   ·skip
    refine dR 9 hd2 rfl (.refl _) rfl rfl (dR 10 hd2 rfl (.refl _) rfl rfl (dR 11 hd2 rfl (.refl _) rfl rfl (dR 12 hd2 rfl (.refl _) rfl rfl (dR 13 hd2 rfl (.refl _) rfl rfl (dR 14 hd2 rfl (.refl _) rfl rfl ?_)))))
    refine dR 15 hd2 rfl (.refl _) rfl rfl (dR 16 hd2 rfl (.refl _) rfl rfl (dR 17 hd2 rfl (.refl _) rfl rfl (dv 18 rfl (.refl _) (bW hd2 rfl rfl) (dv 19 rfl (.refl _) (aC rfl) (iJ 20 rfl (.refl _) rfl rfl ?_)))))
    refine iJ 21 rfl (.refl _) rfl rfl (iJ 22 rfl (.refl _) rfl rfl (iJ 23 rfl (.refl _) rfl rfl (iJ 24 rfl (.refl _) rfl rfl (iJ 25 rfl (.refl _) rfl rfl (iJ 26 rfl (.refl _) rfl rfl ?_)))))
    refine iJ 27 rfl (.refl _) rfl rfl (iJ 28 rfl (.refl _) rfl rfl (iJ 29 rfl (.refl _) rfl rfl (dv 30 rfl (.refl _) (bS rfl rfl) (dv 31 rfl (.refl _) (aD rfl) (bQ (by kernel_rfl) ?_)))))
    exact dF hK ⟨(by first | (simp [dM.get, hd1, hd2]; done) | exact absurd hd1 (by decide) | exact absurd hd2 (by decide) | (simp_all [dM.get]; done)), rfl, rfl, rfl, trivial⟩ (.refl _)
  ·skip
   refine dR 4 hd1 rfl (.refl _) rfl rfl (dR 5 hd1 rfl (.refl _) rfl rfl (dR 6 hd1 rfl (.refl _) rfl rfl (dv 7 rfl (.refl _) (bW hd1 rfl rfl) (dv 8 rfl (.refl _) (aC rfl) (iJ 9 rfl (.refl _) rfl rfl ?_)))))
   refine iJ 10 rfl (.refl _) rfl rfl (iJ 11 rfl (.refl _) rfl rfl (iJ 12 rfl (.refl _) rfl rfl (iJ 13 rfl (.refl _) rfl rfl (iJ 14 rfl (.refl _) rfl rfl (iJ 15 rfl (.refl _) rfl rfl ?_)))))
   refine iJ 16 rfl (.refl _) rfl rfl (iJ 17 rfl (.refl _) rfl rfl (dv 18 rfl (.refl _) (bS rfl rfl) (dv 19 rfl (.refl _) (aC rfl) (iJ 20 rfl (.refl _) rfl rfl (iJ 21 rfl (.refl _) rfl rfl ?_)))))
   refine iJ 22 rfl (.refl _) rfl rfl (iJ 23 rfl (.refl _) rfl rfl (iJ 24 rfl (.refl _) rfl rfl (iJ 25 rfl (.refl _) rfl rfl (iJ 26 rfl (.refl _) rfl rfl (iJ 27 rfl (.refl _) rfl rfl ?_)))))
   refine iJ 28 rfl (.refl _) rfl rfl (iJ 29 rfl (.refl _) rfl rfl (dv 30 rfl (.refl _) (bS rfl rfl) (dv 31 rfl (.refl _) (aD rfl) (bQ (by kernel_rfl) ?_))))
   exact dF hK ⟨(by first | (simp [dM.get, hd1]; done) | exact absurd hd1 (by decide) | (simp_all [dM.get]; done)), rfl, rfl, rfl, trivial⟩ (.refl _)
 refine Tr.keep (env' := [(4, _)]) ⟨rfl, trivial⟩ (aB (aQ (aW rfl rfl (fun w hw => ?_))))
 exact ⟨rfl, Ok.sub hw (List.sublist_cons_self _ _)⟩
theorem sD {g : GuardSt} {l : GAt} {bg bt : Nat} {t : Int} (hg : g.eg l ∈ M) (hb : cel bg 68 [.pointer (some ⟨l.g, 0, none⟩)] ∈ M) (ht : cel bt 3 [.int .i64 t] ∈ M) (hf : g.Fine) (htt : 0 ≤ t ∧ t ≤ 100000) (x : GState) : ∀ w, Ok w0 M w → Calls Tryz.prog 142 #[.agg x.cells.toArray, .pointer (some ⟨bt, 0, none⟩), .pointer (some ⟨bg, 0, none⟩)] w (fun e w' => e = .returned (.bool (tL g t x)) ∧ Ok w0 M w') := by
 have hin := hf.int
 refine enter (vs := [_, _, _]) Tryz.func142 rfl Tryz.ntmps142 rfl (aE (aA (te (cH rfl rfl fun b3 => (tv (aD rfl) (aF ?_))))))
 refine Tr.keep (env' := [(1, _), (2, _), (3, _)]) ⟨rfl, rfl, rfl, trivial⟩ (aB (aE (cI cK rfl (dv 0 rfl (.refl _) (aI xA rfl) (dv 1 rfl (.refl _) (aG bB rfl (aK (.head _) rfl)) ?_)))))
 refine dv 2 rfl (.refl _) (aG bB rfl (aK (.tail _ ht) rfl)) (dv 3 rfl (.refl _) (aG fE rfl (aK (.tail _ hb) rfl)) (dv 4 rfl (.refl _) (aM rfl) (dv 5 rfl (.refl _) (aI kP rfl) (dv 6 rfl (.refl _) (aI vO rfl) (dv 7 rfl (.refl _) (aG bB rfl (aK (.tail _ hg) rfl)) ?_)))))
 refine dv 8 rfl (.refl _) (cP rfl rfl (by omega)) (dv 9 rfl (.refl _) (fC rfl rfl) (dv 10 rfl (.refl _) (aD rfl) (bQ (by kernel_rfl) (Tr.keep (env' := [(4, _)]) ⟨rfl, trivial⟩ (aB ?_)))))
 refine aQ (aW rfl rfl (fun w hw => ?_))
 exact ⟨rfl, Ok.sub hw (List.sublist_cons_self _ _)⟩
theorem tO {F : FuncId} {fst cap : Array Value} {bh : Nat} (he : aV Tryz.prog F) (hh : cel bh 250 [.func (.func F) fst cap] ∈ M) (q : GState → Bool) (x : GState)
  (hq : ∀ M', M.Sublist M' → ∀ w, Ok w0 M' w → Calls Tryz.prog F (fst ++ #[.agg x.cells.toArray] ++ cap) w (fun e w' => e = .returned (.bool (q x)) ∧ Ok w0 M' w')) :
  ∀ w, Ok w0 M w → Calls Tryz.prog 204 #[.agg x.cells.toArray, .pointer (some ⟨bh, 0, none⟩)] w (fun e w' => e = .returned (.bool (x.started && q x)) ∧ Ok w0 M w') := by
 refine enter (vs := [_, _]) Tryz.func204 rfl Tryz.ntmps204 rfl (aE (aA (te (cH rfl rfl fun b2 => (tv (aD rfl) (aF ?_))))))
 refine Tr.keep (env' := [(1, _), (2, _)]) ⟨rfl, rfl, trivial⟩ (aB (aE (aA (tv (aI rD rfl) (tv (aG pK rfl (aK (.head _) rfl)) ?_)))))
 refine tv (aC rfl) ?_
 apply bH 4 (s := 6) (d := 10) rfl
 ·intro hg1 K hK
  refine bE hg1 rfl rfl (aG ca_250 rfl (aK (.tail _ hh) rfl)) (bE hg1 rfl rfl (aY bH1 rfl (bL (n := 5) (vs := [_, _, _, _, _]) (.head _) rfl) rfl) (dB hg1 rfl rfl (aJ he rfl rfl rfl rfl (hq _ (List.sublist_cons_self _ _)) (tv (bV hg1 rfl rfl) ?_))))
  iterate 3 refine Tr.weak2 rfl ?_
  exact hK _ (dT hg1)
 ·intro hg1 K hK
  refine aH hg1 rfl rfl rfl rfl (aH hg1 rfl rfl rfl rfl (aH hg1 rfl rfl rfl rfl (tv (bW hg1 rfl rfl) ?_)))
  iterate 3 refine Tr.weak2 rfl ?_
  exact hK _ (dU hg1)
 refine tv (aD rfl) (aF (Tr.keep (env' := [(3, _)]) ⟨rfl, trivial⟩ (aB (aQ (aW rfl rfl (fun w hw => ?_))))))
 exact ⟨rfl, Ok.sub hw (List.sublist_cons_self _ _)⟩
theorem kW {g : GuardSt} {l : GAt} {F : FuncId} {fst cap : Array Value} (hg : g.eg l ∈ M) (hc : g.ec l ∈ M) (hf : g.Fine) (he : aV Tryz.prog F) (q : GState → Bool)
  (hq : ∀ x ∈ g.cars, ∀ M', M.Sublist M' → ∀ w, Ok w0 M' w → Calls Tryz.prog F (fst ++ #[.agg x.cells.toArray] ++ cap) w (fun e w' => e = .returned (.bool (q x)) ∧ Ok w0 M' w')) :
  ∀ w, Ok w0 M w → Calls Tryz.prog 139 #[.pointer (some ⟨l.g, 0, none⟩), .func (.func F) fst cap] w (fun e w' => e = .returned (.bool (g.cars.any fun c => c.started && q c)) ∧ Ok w0 M w') := by
 refine enter (vs := [_, _]) Tryz.func139 rfl Tryz.ntmps139 rfl (aE (aA (te (eL rfl rfl rfl fun b3 => (tv (aD rfl) (aF ?_))))))
 refine Tr.keep (env' := [(0, _), (3, _)]) ⟨rfl, rfl, trivial⟩ (aB (aE (aA (tv (aC rfl) (tv (aM rfl) ?_)))))
 refine tv (aI iG rfl) (tv (aG kV rfl (aK (.tail _ hg) rfl)) (tv (bG rfl rfl) ?_))
 refine xM rfl (aJ bH5 rfl rfl rfl rfl (jZ (fun y => (decG y).started && q (decG y)) en_204 (SlRd.of_list GState.cells aB2 (.tail _ hc) rfl (by have := hf.nc; omega)) (by
    intro y hy; obtain ⟨x, hx, rfl⟩ := List.mem_map.1 hy
    exact tO he (.head _) q x fun M' hs => hq x hx M' ((List.sublist_cons_self _ _).trans hs))) ?_)
 refine tv (aD rfl) (aF (Tr.keep (env' := [(4, _)]) ⟨rfl, trivial⟩ (aB (aQ (aW rfl rfl (fun w hw => ?_))))))
 refine ⟨?_, Ok.sub hw (List.sublist_cons_self _ _)⟩
 simp [List.any_map, Function.comp_def]
theorem xD {g : GuardSt} {l : GAt} (car : Nat) (t : Int) (hg : g.eg l ∈ M) : ∀ w, Ok w0 M w → Calls Tryz.prog 82 #[.pointer (some ⟨l.g, 0, none⟩), .int .i64 car, .int .i64 t] w (fun e w' => e = .returned (.bool (!g.opened.value)) ∧ Ok w0 M w') := by
 refine enter (vs := [_, _, _]) Tryz.func82 rfl Tryz.ntmps82 rfl (aE (aA (tv (aD rfl) (aF (Tr.keep (env' := [(0, _)]) ⟨rfl, trivial⟩ ?_)))))
 refine aB (aE (aA (tv (aC rfl) (tv (aM rfl) (tv (aI rF rfl) ?_)))))
 refine tv (xQ (j := 0) Tryz.underlying167 tJ rfl rfl rfl (by decide)) (tv (aI rZ rfl) (tv (aG pK rfl (aK hg rfl)) (tv (bF rfl) (tv (aD rfl) (aF ?_)))))
 refine Tr.keep (env' := [(6, _)]) ⟨rfl, trivial⟩ (aB (aQ (aW rfl rfl (fun w hw => ?_))))
 exact ⟨rfl, hw⟩
theorem sF {g : GuardSt} {l : GAt} (car : Nat) (t : Int) (hg : g.eg l ∈ M) : ∀ w, Ok w0 M w → Calls Tryz.prog 85 #[.pointer (some ⟨l.g, 0, none⟩), .int .i64 car, .int .i64 t] w (fun e w' => e = .returned (.bool (!g.covered.value)) ∧ Ok w0 M w') := by
 refine enter (vs := [_, _, _]) Tryz.func85 rfl Tryz.ntmps85 rfl (aE (aA (tv (aD rfl) (aF (Tr.keep (env' := [(0, _)]) ⟨rfl, trivial⟩ ?_)))))
 refine aB (aE (aA (tv (aC rfl) (tv (aM rfl) (tv (aI rF rfl) ?_)))))
 refine tv (xQ (j := 1) Tryz.underlying167 tJ rfl rfl rfl (by decide)) (tv (aI rZ rfl) (tv (aG pK rfl (aK hg rfl)) (tv (bF rfl) (tv (aD rfl) (aF ?_)))))
 refine Tr.keep (env' := [(6, _)]) ⟨rfl, trivial⟩ (aB (aQ (aW rfl rfl (fun w hw => ?_))))
 exact ⟨rfl, hw⟩
theorem aG4 {g : GuardSt} {l : GAt} (car : Nat) (t : Int) (hg : g.eg l ∈ M) (hr : g.er l ∈ M) (hp : g.ep l ∈ M) (hc : g.ec l ∈ M) (hf : g.Fine) (hs : g.Sane) (hcar : car ≤ g.cars.length) (htt : 0 ≤ t ∧ t ≤ 100000) : ∀ w, Ok w0 M w → Calls Tryz.prog 83 #[.pointer (some ⟨l.g, 0, none⟩), .int .i64 car, .int .i64 t] w (fun e w' => e = .returned (.bool (g.forbids car t 1)) ∧ Ok w0 M w') := by
 refine enter (vs := [_, _, _]) Tryz.func83 rfl Tryz.ntmps83 rfl (aE (aA (tv (aD rfl) (aF (Tr.keep (env' := [(0, _)]) ⟨rfl, trivial⟩ ?_)))))
 refine aB (aE (aA (tv (aC rfl) (tv (aM rfl) (tv (aI bC5 rfl) ?_)))))
 refine tv (aG aO7 rfl (aK hg rfl)) ?_
 refine xM rfl (aJ bH4 rfl rfl rfl rfl (jY (fun y => (tM y).value) en_137 (SlRd.of_list Latest.cells aO8 hr rfl (by have h1 := hf.posts; have h2 := hf.reds; have h3 := hf.np; omega)) (by
    intro y hy; obtain ⟨x, hx, rfl⟩ := List.mem_map.1 hy
    exact yZ x)) ?_)
 refine tv (aD rfl) (aF (Tr.keep (env' := [(6, _)]) ⟨rfl, trivial⟩ (aB (aQ (aW rfl rfl (fun w hw => ?_))))))
 refine ⟨?_, hw⟩
 simp [GuardSt.forbids, List.any_map, Function.comp_def]
theorem xF {g : GuardSt} {l : GAt} (car : Nat) (t : Int) (hg : g.eg l ∈ M) (hr : g.er l ∈ M) (hp : g.ep l ∈ M) (hc : g.ec l ∈ M) (hf : g.Fine) (hs : g.Sane) (hcar : car ≤ g.cars.length) (htt : 0 ≤ t ∧ t ≤ 100000) : ∀ w, Ok w0 M w → Calls Tryz.prog 84 #[.pointer (some ⟨l.g, 0, none⟩), .int .i64 car, .int .i64 t] w (fun e w' => e = .returned (.bool (g.forbids car t 2)) ∧ Ok w0 M w') := by
 refine enter (vs := [_, _, _]) Tryz.func84 rfl Tryz.ntmps84 rfl (aE (aA (te (eL rfl rfl rfl fun b3 => (te (eL rfl rfl rfl fun b5 => (tv (aD rfl) ?_)))))))
 refine aF (Tr.keep (env' := [(3, _), (5, _)]) ⟨rfl, rfl, trivial⟩ (aB (aE (aA (tv (aG fE rfl (aK (.tail _ (.head _)) rfl)) ?_)))))
 refine tv (aM rfl) (tv (aI aJ7 rfl) (tv (aG aO7 rfl (aK (.tail _ (.tail _ hg)) rfl)) (tv (bG rfl rfl) ?_)))
 refine xM rfl (aJ bH4 rfl rfl rfl rfl (jY (fun y => aG2 g t (tM y)) en_138 (SlRd.of_list Latest.cells aO8 (.tail _ (.tail _ hp)) rfl (by have h1 := hf.posts; have h2 := hf.reds; have h3 := hf.np; omega)) (by
    intro y hy; obtain ⟨x, hx, rfl⟩ := List.mem_map.1 hy
    exact uU (.tail _ (.tail _ hg)) (.tail _ (.head _)) (.head _) hf htt x (hs.posts x hx))) ?_)
 refine tv (aD rfl) (aF (Tr.keep (env' := [(6, _)]) ⟨rfl, trivial⟩ (aB (aQ (aW rfl rfl (fun w hw => ?_))))))
 refine ⟨?_, Ok.sub hw (.cons _ (.cons _ (.refl _)))⟩
 simp [GuardSt.forbids, List.any_map, Function.comp_def]
theorem xG {g : GuardSt} {l : GAt} (car : Nat) (t : Int) (hg : g.eg l ∈ M) (hr : g.er l ∈ M) (hp : g.ep l ∈ M) (hc : g.ec l ∈ M) (hf : g.Fine) (hs : g.Sane) (hcar : car ≤ g.cars.length) (htt : 0 ≤ t ∧ t ≤ 100000) : ∀ w, Ok w0 M w → Calls Tryz.prog 86 #[.pointer (some ⟨l.g, 0, none⟩), .int .i64 car, .int .i64 t] w (fun e w' => e = .returned (.bool (g.forbids car t 4)) ∧ Ok w0 M w') := by
 refine enter (vs := [_, _, _]) Tryz.func86 rfl Tryz.ntmps86 rfl (aE (aA (te (eL rfl rfl rfl fun b3 => (tv (aD rfl) (aF ?_))))))
 refine Tr.keep (env' := [(3, _)]) ⟨rfl, trivial⟩ (aB (aE (aA (tv (aG fE rfl (aK (.head _) rfl)) (tv (bG rfl rfl) ?_)))))
 refine te (aJ aR3 rfl rfl rfl rfl (kW (.tail _ hg) (.tail _ hc) hf en_140 (aG3 g) (fun x hx M' hsub => uV (t := t) (bt := 0) (hsub.subset (.tail _ hg)) (hsub.subset (.head _)) hf x)) (tv (aD rfl) (aF (Tr.keep (env' := [(6, _)]) ⟨rfl, trivial⟩ (aB (aQ ?_))))))
 refine aW rfl rfl (fun w hw => ?_)
 exact ⟨rfl, Ok.sub hw (.cons _ (.refl _))⟩
theorem uW {g : GuardSt} {l : GAt} (car : Nat) (t : Int) (hg : g.eg l ∈ M) (hr : g.er l ∈ M) (hp : g.ep l ∈ M) (hc : g.ec l ∈ M) (hf : g.Fine) (hs : g.Sane) (hcar : car ≤ g.cars.length) (htt : 0 ≤ t ∧ t ≤ 100000) : ∀ w, Ok w0 M w → Calls Tryz.prog 87 #[.pointer (some ⟨l.g, 0, none⟩), .int .i64 car, .int .i64 t] w (fun e w' => e = .returned (.bool (g.forbids car t 5)) ∧ Ok w0 M w') := by
 refine enter (vs := [_, _, _]) Tryz.func87 rfl Tryz.ntmps87 rfl (aE (aA (te (eL rfl rfl rfl fun b3 => (te (eL rfl rfl rfl fun b5 => (tv (aD rfl) ?_)))))))
 refine aF (Tr.keep (env' := [(3, _), (5, _)]) ⟨rfl, rfl, trivial⟩ (aB (aE (aA (tv (aG fE rfl (aK (.tail _ (.head _)) rfl)) ?_)))))
 refine tv (bG rfl rfl) (te (aJ aR3 rfl rfl rfl rfl (kW (.tail _ (.tail _ hg)) (.tail _ (.tail _ hc)) hf en_141 (xB g t) (fun x hx M' hsub => tN (hsub.subset (.tail _ (.tail _ hg))) (hsub.subset (.tail _ (.head _))) (hsub.subset (.head _)) hf htt x (hs.cars x hx))) (tv (aD rfl) (aF (Tr.keep (env' := [(6, _)]) ⟨rfl, trivial⟩ (aB ?_))))))
 refine aQ (aW rfl rfl (fun w hw => ?_))
 exact ⟨rfl, Ok.sub hw (.cons _ (.cons _ (.refl _)))⟩
theorem tP {g : GuardSt} {l : GAt} (car : Nat) (t : Int) (hg : g.eg l ∈ M) (hr : g.er l ∈ M) (hp : g.ep l ∈ M) (hc : g.ec l ∈ M) (hf : g.Fine) (hs : g.Sane) (hcar : car ≤ g.cars.length) (htt : 0 ≤ t ∧ t ≤ 100000) : ∀ w, Ok w0 M w → Calls Tryz.prog 88 #[.pointer (some ⟨l.g, 0, none⟩), .int .i64 car, .int .i64 t] w (fun e w' => e = .returned (.bool (g.forbids car t 6)) ∧ Ok w0 M w') := by
 refine enter (vs := [_, _, _]) Tryz.func88 rfl Tryz.ntmps88 rfl (aE (aA (te (eL rfl rfl rfl fun b3 => (te (eL rfl rfl rfl fun b5 => (tv (aD rfl) ?_)))))))
 refine aF (Tr.keep (env' := [(3, _), (5, _)]) ⟨rfl, rfl, trivial⟩ (aB (aE (aA (tv (aG fE rfl (aK (.tail _ (.head _)) rfl)) ?_)))))
 refine tv (bG rfl rfl) (te (aJ aR3 rfl rfl rfl rfl (kW (.tail _ (.tail _ hg)) (.tail _ (.tail _ hc)) hf en_142 (tL g t) (fun x hx M' hsub => sD (hsub.subset (.tail _ (.tail _ hg))) (hsub.subset (.tail _ (.head _))) (hsub.subset (.head _)) hf htt x)) (tv (aD rfl) (aF (Tr.keep (env' := [(6, _)]) ⟨rfl, trivial⟩ (aB ?_))))))
 refine aQ (aW rfl rfl (fun w hw => ?_))
 exact ⟨rfl, Ok.sub hw (.cons _ (.cons _ (.refl _)))⟩
theorem zB {g : GuardSt} {l : GAt} (car : Nat) (t : Int) (hg : g.eg l ∈ M) (hr : g.er l ∈ M) (hp : g.ep l ∈ M) (hc : g.ec l ∈ M) (hf : g.Fine) (hs : g.Sane) (hcar : car ≤ g.cars.length) (htt : 0 ≤ t ∧ t ≤ 100000) : ∀ w, Ok w0 M w → Calls Tryz.prog 89 #[.pointer (some ⟨l.g, 0, none⟩), .int .i64 car, .int .i64 t] w (fun e w' => e = .returned (.bool (g.forbids car t 7)) ∧ Ok w0 M w') := by
 obtain ⟨A', hcv, hsl⟩ := (SlRd.of_list (w0 := w0) (M := M) GState.cells aB2 hc rfl (by have := hf.nc; omega)).cut car hcar (Nat.le_refl g.cars.length)
 refine enter (vs := [_, _, _]) Tryz.func89 rfl Tryz.ntmps89 rfl (aE (aA (tv (aD rfl) (aF (Tr.keep (env' := [(0, _), (1, _)]) ⟨rfl, rfl, trivial⟩ ?_)))))
 refine aB (aE (aA (tv (aC rfl) (tv (aM rfl) (tv (aI iG rfl) ?_)))))
 refine tv (aG kV rfl (aK hg rfl)) (tv (aC rfl) (tv (fF (aS1 car Tryz.underlying158 mS rfl rfl rfl hcar) hcv) ?_))
 refine xM rfl (aJ bH5 rfl rfl rfl rfl (jZ (fun y => (decG y).started) en_144 hsl (by
    intro y hy; obtain ⟨x, hx, rfl⟩ := List.mem_map.1 (List.mem_of_mem_drop hy)
    exact xC x)) ?_)
 refine tv (aD rfl) (aF (Tr.keep (env' := [(6, _)]) ⟨rfl, trivial⟩ (aB (aQ (aW rfl rfl (fun w hw => ?_))))))
 refine ⟨?_, hw⟩
 rw [← List.map_drop, List.any_map]
 rfl
abbrev vQ (l : GAt) : List Value := [.func (.func 82) #[.pointer (some ⟨l.g, 0, none⟩)] #[], .func (.func 83) #[.pointer (some ⟨l.g, 0, none⟩)] #[], .func (.func 84) #[.pointer (some ⟨l.g, 0, none⟩)] #[], .func (.func 85) #[.pointer (some ⟨l.g, 0, none⟩)] #[], .func (.func 86) #[.pointer (some ⟨l.g, 0, none⟩)] #[], .func (.func 87) #[.pointer (some ⟨l.g, 0, none⟩)] #[], .func (.func 88) #[.pointer (some ⟨l.g, 0, none⟩)] #[], .func (.func 89) #[.pointer (some ⟨l.g, 0, none⟩)] #[]]
theorem aG5 {g : GuardSt} {l : GAt} {car : Nat} {t : Int} (hg : g.eg l ∈ M) (hr : g.er l ∈ M) (hp : g.ep l ∈ M) (hc : g.ec l ∈ M) (hf : g.Fine) (hs : g.Sane) (hcar : car ≤ g.cars.length) (htt : 0 ≤ t ∧ t ≤ 100000) (k : Nat) (hk : k < 8) : ∃ f, (vQ l)[k]? = some (.func (.func f) #[.pointer (some ⟨l.g, 0, none⟩)] #[]) ∧ aV Tryz.prog f ∧
  ∀ w, Ok w0 M w → Calls Tryz.prog f #[.pointer (some ⟨l.g, 0, none⟩), .int .i64 car, .int .i64 t] w (fun e w' => e = .returned (.bool (g.forbids car t k)) ∧ Ok w0 M w') := by
 match k, hk with
 | 0, _ => exact ⟨_, rfl, en_82, xD car t hg⟩
 | 1, _ => exact ⟨_, rfl, en_83, aG4 car t hg hr hp hc hf hs hcar htt⟩
 | 2, _ => exact ⟨_, rfl, en_84, xF car t hg hr hp hc hf hs hcar htt⟩
 | 3, _ => exact ⟨_, rfl, en_85, sF car t hg⟩
 | 4, _ => exact ⟨_, rfl, en_86, xG car t hg hr hp hc hf hs hcar htt⟩
 | 5, _ => exact ⟨_, rfl, en_87, uW car t hg hr hp hc hf hs hcar htt⟩
 | 6, _ => exact ⟨_, rfl, en_88, tP car t hg hr hp hc hf hs hcar htt⟩
 | 7, _ => exact ⟨_, rfl, en_89, zB car t hg hr hp hc hf hs hcar htt⟩
theorem xH (g : GuardSt) (car : Nat) (t : Int) (k : Nat) : ((List.range (k + 1)).filter (g.forbids car t)).map (fun i : Nat => encI (1 + (i : Int))) =
  ((List.range k).filter (g.forbids car t)).map (fun i : Nat => encI (1 + (i : Int))) ++ (if g.forbids car t k then [encI (1 + (k : Int))] else []) := by
 rw [List.range_succ, List.filter_append, List.map_append]
 congr 1
 by_cases h : g.forbids car t k = true <;> simp [h]
theorem aW2 (g : GuardSt) (car : Nat) (t : Int) (k : Nat) : (((List.range k).filter (g.forbids car t)).map (fun i : Nat => encI (1 + (i : Int)))).length ≤ k := by
 have := List.length_filter_le (g.forbids car t) (List.range k)
 simpa using this
theorem uM {g : GuardSt} {l : GAt} {car : Nat} {t : Int} (hg : g.eg l ∈ M) (hr : g.er l ∈ M) (hp : g.ep l ∈ M) (hc : g.ec l ∈ M) (hf : g.Fine) (hsn : g.Sane) (hcar : car ≤ g.cars.length) (htt : 0 ≤ t ∧ t ≤ 100000) (hcar' : car < g.cars.length) : ∀ w, Ok w0 M w → Calls Tryz.prog 30 #[.pointer (some ⟨l.g, 0, none⟩), .int .i64 car, .int .i64 t] w
  (fun e w' => ∃ x : Value × List Ent, e = .returned (.tuple #[x.1, .int .i64 0]) ∧ Own 176 1 x.1 ((g.may car t).map encI) x.2 ∧ Ok w0 (x.2 ++ M) w') := by
 have h3 := hf.cars; have h4 := hf.nc
 refine enter (vs := [_, _, _]) Tryz.func30 rfl Tryz.ntmps30 rfl (aE (aA (tv (aD rfl) (tv (aD rfl) (aF ?_)))))
 refine Tr.keep (env' := [(0, _), (1, _), (2, _)]) ⟨rfl, rfl, rfl, trivial⟩ (aB (aE (aE (aA (tv (aC rfl) ?_)))))
 refine te (aJ zQ rfl rfl rfl rfl (hP hg) (tv (bF rfl) (aF (Tr.keep (env' := [(0, _), (1, _), (2, _), (14, _)]) ⟨rfl, rfl, rfl, rfl, trivial⟩ (aB ?_)))))
 refine bD rfl (fun hr1 => ?_) (fun hr1 => ?_)
 ·have h9 : decide (0 < (g.cars.length : Int)) = true := decide_eq_true (by omega)
  rw [h9] at hr1; exact absurd hr1 (by decide)
 ·skip
  refine aO (aB (aE (aE (aA (tv (aC rfl) ?_)))))
  refine tv (aC rfl) (tv (aM rfl) (tv (aI kP rfl) (tv (aI jK rfl) (tv (aG bB rfl (aK hg rfl)) (tv (cP rfl rfl (by omega)) ?_)))))
  refine te (aJ kO rfl rfl rfl rfl (cS _ _ _) (tv (bF rfl) (tv (aC rfl) ?_)))
  apply aZ 4 (s := 24) (d := 28) rfl
  ·intro hg2 K hK
   refine bE hg2 rfl rfl (aC rfl) (dB hg2 rfl rfl (aJ kO rfl rfl rfl rfl (cS _ _ _) (bE hg2 rfl rfl (bF rfl) (tv (bW hg2 rfl rfl) ?_))))
   iterate 3 refine Tr.weak2 rfl ?_
   exact hK _ (dJ hg2)
  ·intro hg2 K hK
   refine aH hg2 rfl rfl rfl rfl (aH hg2 rfl rfl rfl rfl (aH hg2 rfl rfl rfl rfl (tv (bV hg2 rfl rfl) ?_)))
   iterate 3 refine Tr.weak2 rfl ?_
   exact hK _ (dK hg2)
  refine aF (Tr.keep (env' := [(0, _), (1, _), (2, _), (28, _)]) ⟨rfl, rfl, rfl, rfl, trivial⟩ (aB ?_))
  refine bD rfl (fun hw1 => ?_) (fun hw1 => ?_)
  ·have e1 : eK (car : Int) 0 (g.plan.cars - 1) = true := rG.2 (by omega)
   have e2 : eK t 0 100000 = true := rG.2 (by omega)
   rw [e1, e2] at hw1
   exact absurd hw1 (by decide)
  ·skip
   refine aO (aB (aE (aA (tv (aD rfl) (aF ?_)))))
   refine Tr.keep (env' := [(0, _), (1, _), (2, _), (8, _)]) ⟨rfl, rfl, rfl, rfl, trivial⟩ (aB (aE (aA (tv (aC rfl) (tv (bG rfl rfl) ?_)))))
   refine tv (aC rfl) (tv (bG rfl rfl) (tv (aC rfl) (tv (bG rfl rfl) (tv (aC rfl) (tv (bG rfl rfl) ?_)))))
   refine tv (aC rfl) (tv (bG rfl rfl) (tv (aC rfl) (tv (bG rfl rfl) (tv (aC rfl) (tv (bG rfl rfl) ?_)))))
   refine tv (aC rfl) (tv (bG rfl rfl) (te (bN (E := 174) (l := vQ l) rfl (fun w => by kernel_rfl) rfl fun b45 => (tv (aD rfl) (aF (Tr.keep (env' := [(1, _), (2, _), (8, _), (9, _)]) ⟨rfl, rfl, rfl, rfl, trivial⟩ ?_))))))
   refine aB (aE (aE (aA (tv (aC rfl) (tv (aP Tryz.underlying175 rfl) ?_)))))
   refine tv (aC rfl) (aF (Tr.keep (env' := [(1, _), (2, _), (8, _), (46, _), (47, _), (48, _)]) ⟨rfl, rfl, rfl, rfl, rfl, rfl, trivial⟩ (aB (aX (dW (fun s : Nat × Value × List Ent => [(1, .int .i64 car), (2, .int .i64 t), (8, s.2.1), (46, .slice (some ⟨b45, 0, none⟩) 8 8), (47, .int .i64 8), (48, .int .i64 (s.1 : Int))]) (fun s : Nat × Value × List Ent => s.2.2 ++ (cel b45 174 (vQ l) :: M)) (fun s : Nat × Value × List Ent => s.1 ≤ 8 ∧ Own 176 1 s.2.1 (((List.range s.1).filter (g.forbids car t)).map (fun i : Nat => encI (1 + (i : Int)))) s.2.2) (fun s : Nat × Value × List Ent => 8 - s.1) (0, .slice none 0 0, []) ⟨by omega, Own.nil _ _⟩ ⟨rfl, rfl, rfl, rfl, rfl, rfl, trivial⟩ (.refl _) ?_)))))
   intro K ⟨k, v, E⟩ ⟨hk, hO⟩ IH
   dsimp only at hk hO IH ⊢
   refine aE (aA (tv (dI rfl rfl) (aF (Tr.keep (env' := [(1, _), (2, _), (8, _), (46, _), (47, _), (48, _), (49, _)]) ⟨rfl, rfl, rfl, rfl, rfl, rfl, rfl, trivial⟩ (aB ?_)))))
   refine aE ?_
   refine bD rfl (fun hc1 => ?_) (fun hc1 => ?_)
   ·have hlt : k < 8 := by have := of_decide_eq_true hc1; omega
    obtain ⟨f, hfk, hen, hcall⟩ := aG5 (w0 := w0) (M := E ++ (cel b45 174 (vQ l) :: M)) (l := l) (List.mem_append_right _ (.tail _ hg)) (List.mem_append_right _ (.tail _ hr)) (List.mem_append_right _ (.tail _ hp)) (List.mem_append_right _ (.tail _ hc)) hf hsn hcar htt k hlt
    refine aO (aB (aE (aX (aE (aA ?_)))))
    refine tv (aC rfl) (tv (dE (j := k) Tryz.underlying175 iz_174 rfl rfl rfl hlt) (tv (aG ca_174 rfl (aK (List.mem_append_right _ (.head _)) (by rw [Nat.zero_add, Nat.mul_one]; exact hfk))) (tv (aD rfl) (tv (aD rfl) (aF ?_)))))
    refine Tr.keep (env' := [(1, _), (2, _), (8, _), (10, _), (11, _), (46, _), (47, _), (48, _)]) ⟨rfl, rfl, rfl, rfl, rfl, rfl, rfl, rfl, trivial⟩ (aB (aE (aA (tv (aC rfl) (tv (aC rfl) ?_)))))
    refine tv (aC rfl) (te (aJ hen rfl rfl rfl rfl hcall (aF (Tr.keep (env' := [(1, _), (2, _), (8, _), (10, _), (46, _), (47, _), (48, _), (56, _)]) ⟨rfl, rfl, rfl, rfl, rfl, rfl, rfl, rfl, trivial⟩ (aB ?_)))))
    refine bD rfl (fun hc2 => ?_) (fun hc2 => ?_)
    ·skip
     refine aA (tv (aC rfl) (tv (aC rfl) (tv (cC rfl rfl (by omega)) (te (bN (E := 176) (l := encI (1 + (k : Int))) rfl (fun w => by kernel_rfl) rfl fun b60 => (te (fN Tryz.underlying83 inf_176 rfl (by decide) rfl rfl hO (pk .here (mH .here (.refl _))) rfl (by simp [encI, Value.oneCell']) (by have := aW2 g car t k; omega) (by have := aW2 g car t k; unfold maxLen; omega) rfl fun v2 E2 hO2 => ?_)))))))
     refine tv (aD rfl) (aF (Tr.keep (env' := [(1, _), (2, _), (8, _), (46, _), (47, _), (48, _)]) ⟨rfl, rfl, rfl, rfl, rfl, rfl, trivial⟩ (cX (aB (aA ?_)))))
     refine tv (cC rfl rfl (by omega)) (tv (aC rfl) (aF (Tr.keep (env' := [(1, _), (2, _), (8, _), (46, _), (47, _), (48, _)]) ⟨rfl, rfl, rfl, rfl, rfl, rfl, trivial⟩ (aB ?_))))
     refine nD (IH (k + 1, _, _) ⟨by omega, by first | exact hO2 | (rw [xH, hc2]; exact hO2)⟩ (by dsimp only; omega)) ⟨rfl, rfl, rfl, rfl, rfl, rfl, trivial⟩ (.refl _)
    ·have hO2 : Own 176 1 v (((List.range (k + 1)).filter (g.forbids car t)).map (fun i : Nat => encI (1 + (i : Int)))) E := by rw [xH, hc2]; simpa using hO
     refine aO (cX (aB (aA (tv (cC rfl rfl (by omega)) (tv (aC rfl) ?_)))))
     refine aF (Tr.keep (env' := [(1, _), (2, _), (8, _), (46, _), (47, _), (48, _)]) ⟨rfl, rfl, rfl, rfl, rfl, rfl, trivial⟩ (aB ?_))
     refine nD (IH (k + 1, _, _) ⟨by omega, by first | exact hO2 | (rw [xH, hc2]; exact hO2)⟩ (by dsimp only; omega)) ⟨rfl, rfl, rfl, rfl, rfl, rfl, trivial⟩ (.refl _)
   ·have h9 : ¬ k < 8 := by have := of_decide_eq_false hc1; omega
    have hge : k = 8 := by omega
    subst hge
    refine cY (aS (aS (bX (aB (aE ?_)))))
    refine aA (tv (aC rfl) (tv (aD rfl) (tv (aD rfl) (aF (Tr.keep (env' := [(6, _), (7, _)]) ⟨rfl, rfl, trivial⟩ ?_)))))
    refine aB (aQ (gG rfl rfl rfl (fun w hw => (⟨(v, E), rfl, ?_, Ok.sub hw (List.Sublist.append (.refl _) (.cons _ (.refl _)))⟩))))
    simpa [GuardSt.may, Function.comp_def] using hO
end
end Go.Proofs.W
set_option linter.unusedVariables false
set_option linter.unusedSimpArgs false
set_option linter.unusedSectionVars false
set_option maxRecDepth 100000
namespace Go.Proofs.W
open Go Go.Sl Go.RowKit Go.Proofs
attribute [local irreducible] Go.Sl.Eff
theorem en_30 : aV Tryz.prog 30 := aL Tryz.func30 (by kernel_rfl) (by kernel_rfl)
def GuardSt.start (g : GuardSt) (car : Nat) (t : Int) : GuardSt :=
 match g.cars[car]? with
 | none => g
 | some x => { g with cars := g.cars.set car { x with started := true, second := t } }
section
variable {w0 : World} {M : List Ent}
theorem xI {g : GuardSt} {l : GAt} {Fr : List Ent} {car : Nat} {t : Int} (hf : g.Fine) (hsn : g.Sane) (hcar : car < g.cars.length) (htt : 0 ≤ t ∧ t ≤ 100000) (hm : g.may car t ≠ []) : ∀ w, Ok w0 (g.eg l :: g.er l :: g.ep l :: g.ec l :: Fr) w → Calls Tryz.prog 27 #[.pointer (some ⟨l.g, 0, none⟩), .int .i64 car, .int .i64 t] w
  (fun e w' => e = .returned (.int .i64 7) ∧ Ok w0 (g.eg l :: g.er l :: g.ep l :: g.ec l :: Fr) w') := by
 refine enter (vs := [_, _, _]) Tryz.func27 rfl Tryz.ntmps27 rfl (aE (aA (tv (aD rfl) (aF (Tr.keep (env' := [(0, _), (1, _), (2, _)]) ⟨rfl, rfl, rfl, trivial⟩ ?_)))))
 refine aB (aE (aA (tv (aC rfl) (tv (aC rfl) (tv (aC rfl) ?_)))))
 refine te (bP en_30 rfl rfl rfl rfl (uM (.head _) (.tail _ (.head _)) (.tail _ (.tail _ (.head _))) (.tail _ (.tail _ (.tail _ (.head _)))) hf hsn (by omega) htt hcar) fun x hO => ?_)
 obtain ⟨v, E⟩ := x
 obtain ⟨A, c, hv, hlen⟩ := Own.len hO
 dsimp only at hv hO ⊢
 subst hv
 refine tv (aC rfl) (tv (bA rfl rfl) (tv (bA rfl rfl) (tv (aD rfl) (tv (aD rfl) (aF ?_)))))
 refine Tr.keep (env' := [(0, _), (1, _), (2, _), (7, _), (8, _)]) ⟨rfl, rfl, rfl, rfl, rfl, trivial⟩ (aB (aE (aE (aA (tv (aC rfl) ?_)))))
 refine tv (eF rfl rfl) (aF (Tr.keep (env' := [(0, _), (1, _), (2, _), (7, _), (8, _), (17, _)]) ⟨rfl, rfl, rfl, rfl, rfl, rfl, trivial⟩ (aB ?_)))
 refine bD rfl (fun he => ?_) (fun he => ?_)
 ·exact absurd he (by decide)
 ·skip
  refine aO (aB (aE (aE (aA (tv (aC rfl) ?_)))))
  refine tv (aP Tryz.underlying83 rfl) (tv (fC rfl rfl) (aF (Tr.keep (env' := [(0, _), (1, _), (2, _), (21, _)]) ⟨rfl, rfl, rfl, rfl, trivial⟩ (aB ?_))))
  refine bD rfl (fun hl => ?_) (fun hl => ?_)
  ·skip
   refine aE (aA (tv (aD rfl) (aF (Tr.keep (env' := [(6, _)]) ⟨rfl, trivial⟩ (aB ?_)))))
   refine aQ (aN (aW rfl rfl (fun w hw => ?_)))
   exact ⟨rfl, Ok.sub hw (List.sublist_append_right _ _)⟩
  ·have : 0 < (g.may car t).length := List.length_pos_iff.2 hm
   rw [List.length_map] at hl
   have := of_decide_eq_false hl
   omega
theorem uX {g : GuardSt} {l : GAt} {Fr : List Ent} {car : Nat} {t : Int} (hf : g.Fine) (hsn : g.Sane) (hcar : car < g.cars.length) (htt : 0 ≤ t ∧ t ≤ 100000) (hm : g.may car t = []) : ∀ w, Ok w0 (g.eg l :: g.er l :: g.ep l :: g.ec l :: Fr) w → Calls Tryz.prog 27 #[.pointer (some ⟨l.g, 0, none⟩), .int .i64 car, .int .i64 t] w
  (fun e w' => e = .returned (.int .i64 0) ∧ Ok w0 ((g.start car t).eg l :: (g.start car t).er l :: (g.start car t).ep l :: (g.start car t).ec l :: Fr) w') := by
 obtain ⟨z, hz⟩ : ∃ z, g.cars[car]? = some z := ⟨_, List.getElem?_eq_getElem hcar⟩
 have hsp := fun z' => qU GState.cells g.cars car z z' hz
 have hpl := kD GState.cells 5 aB2 g.cars car (by omega)
 generalize bT ((g.cars.take car).map GState.cells) = pre at hsp hpl
 generalize bT ((g.cars.drop (car + 1)).map GState.cells) = post at hsp
 refine enter (vs := [_, _, _]) Tryz.func27 rfl Tryz.ntmps27 rfl (aE (aA (tv (aD rfl) (aF (Tr.keep (env' := [(0, _), (1, _), (2, _)]) ⟨rfl, rfl, rfl, trivial⟩ ?_)))))
 refine aB (aE (aA (tv (aC rfl) (tv (aC rfl) (tv (aC rfl) ?_)))))
 refine te (bP en_30 rfl rfl rfl rfl (uM (.head _) (.tail _ (.head _)) (.tail _ (.tail _ (.head _))) (.tail _ (.tail _ (.tail _ (.head _)))) hf hsn (by omega) htt hcar) fun x hO => ?_)
 obtain ⟨v, E⟩ := x
 obtain ⟨A, c, hv, hlen⟩ := Own.len hO
 dsimp only at hv hO ⊢
 subst hv
 refine tv (aC rfl) (tv (bA rfl rfl) (tv (bA rfl rfl) (tv (aD rfl) (tv (aD rfl) (aF ?_)))))
 refine Tr.keep (env' := [(0, _), (1, _), (2, _), (7, _), (8, _)]) ⟨rfl, rfl, rfl, rfl, rfl, trivial⟩ (aB (aE (aE (aA (tv (aC rfl) ?_)))))
 refine tv (eF rfl rfl) (aF (Tr.keep (env' := [(0, _), (1, _), (2, _), (7, _), (8, _), (17, _)]) ⟨rfl, rfl, rfl, rfl, rfl, rfl, trivial⟩ (aB ?_)))
 refine bD rfl (fun he => ?_) (fun he => ?_)
 ·exact absurd he (by decide)
 ·skip
  refine aO (aB (aE (aE (aA (tv (aC rfl) ?_)))))
  refine tv (aP Tryz.underlying83 rfl) (tv (fC rfl rfl) (aF (Tr.keep (env' := [(0, _), (1, _), (2, _), (21, _)]) ⟨rfl, rfl, rfl, rfl, trivial⟩ (aB ?_))))
  refine bD rfl (fun hl => ?_) (fun hl => ?_)
  ·rw [hm] at hl; exact absurd hl (by decide)
  ·simp only [GuardSt.ec]
   rw [(hsp z).1]
   refine aO (aB (aE (dV (List.Sublist.append (.refl _) (.cons_cons _ (.cons_cons _ (.cons_cons _ (.cons _ (.refl _)))))) cK rfl (dv 0 rfl (List.Sublist.append (.refl _) (.cons_cons _ (.cons_cons _ (.cons_cons _ (.cons _ (.refl _)))))) (aC rfl) (dv 1 rfl (List.Sublist.append (.refl _) (.cons_cons _ (.cons_cons _ (.cons_cons _ (.cons _ (.refl _)))))) (aM rfl) ?_)))))
   refine dv 2 rfl (List.Sublist.append (.refl _) (.cons_cons _ (.cons_cons _ (.cons_cons _ (.cons _ (.refl _)))))) (aI iG rfl) (dv 3 rfl (List.Sublist.append (.refl _) (.cons_cons _ (.cons_cons _ (.cons_cons _ (.cons _ (.refl _)))))) (aG kV rfl (aK (List.mem_append_right _ (.head _)) rfl)) (dv 4 rfl (List.Sublist.append (.refl _) (.cons_cons _ (.cons_cons _ (.cons_cons _ (.cons _ (.refl _)))))) (aC rfl) (dv 5 rfl (List.Sublist.append (.refl _) (.cons_cons _ (.cons_cons _ (.cons_cons _ (.cons _ (.refl _)))))) (aC rfl) (dv 6 rfl (List.Sublist.append (.refl _) (.cons_cons _ (.cons_cons _ (.cons_cons _ (.cons _ (.refl _)))))) (aM rfl) (dv 7 rfl (List.Sublist.append (.refl _) (.cons_cons _ (.cons_cons _ (.cons_cons _ (.cons _ (.refl _)))))) (aI iG rfl) ?_)))))
   refine dv 8 rfl (List.Sublist.append (.refl _) (.cons_cons _ (.cons_cons _ (.cons_cons _ (.cons _ (.refl _)))))) (aG kV rfl (aK (List.mem_append_right _ (.head _)) rfl)) (dv 9 rfl (List.Sublist.append (.refl _) (.cons_cons _ (.cons_cons _ (.cons_cons _ (.cons _ (.refl _)))))) (aC rfl) (dv 10 rfl (List.Sublist.append (.refl _) (.cons_cons _ (.cons_cons _ (.cons_cons _ (.cons _ (.refl _)))))) (aC rfl) (dv 11 rfl (List.Sublist.append (.refl _) (.cons_cons _ (.cons_cons _ (.cons_cons _ (.cons _ (.refl _)))))) (nT car pre.length Tryz.underlying158 mS rfl rfl rfl rfl hcar (by rw [Nat.zero_add, hpl])) (dv 12 rfl (List.Sublist.append (.refl _) (.cons_cons _ (.cons_cons _ (.cons_cons _ (.cons _ (.refl _)))))) (aI rD rfl) (de 13 rfl (bR iz_4 rfl rfl rfl (.app .zero) (.right (.there (.there (.there .here)))) ?_))))))
   refine aU (List.Sublist.append (.refl _) (.cons_cons _ (.cons_cons _ (.cons_cons _ (.cons _ (.refl _)))))) (dv 14 rfl (List.Sublist.append (.refl _) (.cons_cons _ (.cons_cons _ (.cons_cons _ (.cons _ (.refl _)))))) (nT car pre.length Tryz.underlying158 mS rfl rfl rfl rfl hcar (by rw [Nat.zero_add, hpl])) (dv 15 rfl (List.Sublist.append (.refl _) (.cons_cons _ (.cons_cons _ (.cons_cons _ (.cons _ (.refl _)))))) (aI xA rfl) (de 16 rfl (bR eR rfl rfl rfl (.app (.succ .zero)) (.right (.there (.there (.there .here)))) (aU (List.Sublist.append (.refl _) (.cons_cons _ (.cons_cons _ (.cons_cons _ (.cons _ (.refl _)))))) (bQ (by kernel_rfl) ?_))))))
   refine Tr.keep (env' := []) trivial (aB (aE (aA (tv (aD rfl) (aF ?_)))))
   refine Tr.keep (env' := [(6, _)]) ⟨rfl, trivial⟩ (aB (aQ (aW rfl rfl (fun w hw => (⟨rfl, ?_⟩)))))
   have e1 : g.start car t = { g with cars := g.cars.set car { z with started := true, second := t } } := by simp [GuardSt.start, hz]
   rw [e1]
   have h := Ok.sub hw (List.sublist_append_right _ _)
   simp only [GuardSt.eg, GuardSt.er, GuardSt.ep, GuardSt.ec, GuardSt.cells, List.length_set] at h ⊢
   rw [(hsp _).2]
   exact h
end
end Go.Proofs.W
set_option linter.unusedVariables false
set_option linter.unusedSimpArgs false
set_option linter.unusedSectionVars false
set_option maxRecDepth 100000
namespace Go.Proofs.W
open Go Go.Sl Go.RowKit Go.Proofs
attribute [local irreducible] Go.Sl.Eff
theorem dQ : bY Tryz.prog 24 = some (none) := by kernel_rfl
theorem sG : bY Tryz.prog 26 = some (some 3) := by kernel_rfl
theorem aM7 : bY Tryz.prog 80 = some (none) := by kernel_rfl
theorem jG : aV Tryz.prog 147 := aL Tryz.func147 (by kernel_rfl) (by kernel_rfl)
theorem bH6 : aV Tryz.prog 148 := aL Tryz.func148 (by kernel_rfl) (by kernel_rfl)
theorem en_149 : aV Tryz.prog 149 := aL Tryz.func149 (by kernel_rfl) (by kernel_rfl)
theorem en_150 : aV Tryz.prog 150 := aL Tryz.func150 (by kernel_rfl) (by kernel_rfl)
theorem en_151 : aV Tryz.prog 151 := aL Tryz.func151 (by kernel_rfl) (by kernel_rfl)
theorem en_92 : aV Tryz.prog 92 := aL Tryz.func92 (by kernel_rfl) (by kernel_rfl)
theorem pR : aV Tryz.prog 93 := aL Tryz.func93 (by kernel_rfl) (by kernel_rfl)
theorem aW3 : aV Tryz.prog 94 := aL Tryz.func94 (by kernel_rfl) (by kernel_rfl)
theorem gM : bC Tryz.prog 26 0 = some 0 := by kernel_rfl
theorem kM : bC Tryz.prog 26 1 = some 1 := by kernel_rfl
theorem jB : bC Tryz.prog 26 2 = some 2 := by kernel_rfl
theorem sH : bC Tryz.prog 82 0 = some 0 := by kernel_rfl
theorem aW4 : bC Tryz.prog 82 1 = some 1 := by kernel_rfl
theorem pH : (Tryz.prog.info? 104).map (fun i => (i.zero, i.size, i.bytes)) = some (some (.agg #[.int .i64 0, .int .i64 0, .int .i64 0, .bool false]), 4, 32) := by kernel_rfl
theorem eU : (Tryz.prog.info? 114).map (fun i => (i.zero, i.size, i.bytes)) = some (some (.agg #[.int .i64 0, .int .i64 0, .bool false, .int .i64 0]), 4, 32) := by kernel_rfl
theorem sJ : (Tryz.prog.info? 201).map (fun i => (i.zero, i.size, i.bytes)) = some (some (.agg #[.int .i64 0, .int .i64 0, .int .i64 0, .int .i64 0]), 4, 32) := by kernel_rfl
theorem eQ : (Tryz.prog.info? 3).map (fun i => (i.zero, i.size, i.bytes)) = some (some ((.int .i64 0)), 1, 8) := by kernel_rfl
theorem inf_82 : (Tryz.prog.info? 82).map (fun i => (i.zero, i.size, i.bytes)) = some (some (.agg #[.int .i64 0, .int .i64 0]), 2, 16) := by kernel_rfl
theorem lG : (Tryz.prog.info? 24).map (·.size) = some 1 := by kernel_rfl
section
variable {w0 : World} {M : List Ent}
theorem fS {A : Option Addr} {n c : Nat} {xs : List (List Value)} (hrd : SlRd w0 M 1 A n xs) (h1 : ∀ x ∈ xs, ∀ u ∈ x, u.oneCell' = true) (hnil : A = none → n = 0 ∧ c = 0) (hn : n ≤ 1000000) :
  ∀ w, Ok w0 M w → Calls Tryz.prog 93 #[.slice A n c] w (fun e w' => ∃ x : Value × List Ent, e = .returned x.1 ∧ (Own 3 1 x.1 xs x.2 ∧ (x.1 = .slice none 0 0 ↔ A = none)) ∧ Ok w0 (x.2 ++ M) w') := by
 refine enter (vs := [_]) Tryz.func93 rfl Tryz.ntmps93 rfl (aE (aA (tv (aD rfl) (aF (Tr.keep (env' := [(0, _)]) ⟨rfl, trivial⟩ ?_)))))
 refine aB (aE (aE (aA (tv (aC rfl) (tv (hZ Tryz.underlying24 rfl rfl) ?_)))))
 refine aF (Tr.keep (env' := [(0, _), (4, _)]) ⟨rfl, rfl, trivial⟩ (aB ?_))
 refine bD rfl (fun hnl => ?_) (fun hnl => ?_)
 ·obtain rfl : A = none := by simpa using hnl
  obtain ⟨rfl, rfl⟩ := hnil rfl
  obtain rfl : xs = [] := List.length_eq_zero_iff.1 hrd.len
  refine aE (aA (tv (aD rfl) (aF (Tr.keep (env' := [(2, _)]) ⟨rfl, trivial⟩ (aB ?_)))))
  refine aQ (aN (aW rfl rfl (fun w hw => ?_)))
  exact ⟨(_, []), rfl, ⟨Own.nil _ _, by simp⟩, hw⟩
 ·obtain ⟨a, rfl⟩ : ∃ a, A = some a := by cases A <;> simp_all
  refine aO (aB (aE (aA (te (bN (E := 3) (l := []) rfl (fun w => by kernel_rfl) rfl fun b5 => (tv (aC rfl) ?_))))))
  refine te (lS Tryz.underlying24 eQ rfl (by decide) rfl rfl (Own.made (xs := []) (n := 0) (by simp) rfl (by decide)) (.refl _) hrd.cons h1 (by simp; omega) (by simp [maxLen]; omega) rfl (by simp) fun v E hO hne => (tv (aD rfl) (aF (Tr.keep (env' := [(2, _)]) ⟨rfl, trivial⟩ (aB (aQ ?_))))))
  refine aW rfl rfl (fun w hw => ?_)
  exact ⟨(v, E), rfl, ⟨by simpa using hO, by simp [hne]⟩, hw⟩
theorem jT {A : Option Addr} {n c : Nat} {xs : List (List Value)} (hrd : SlRd w0 M 2 A n xs) (h1 : ∀ x ∈ xs, ∀ u ∈ x, u.oneCell' = true) (hnil : A = none → n = 0 ∧ c = 0) (hn : n ≤ 1000000) :
  ∀ w, Ok w0 M w → Calls Tryz.prog 94 #[.slice A n c] w (fun e w' => ∃ x : Value × List Ent, e = .returned x.1 ∧ (Own 82 2 x.1 xs x.2 ∧ (x.1 = .slice none 0 0 ↔ A = none)) ∧ Ok w0 (x.2 ++ M) w') := by
 refine enter (vs := [_]) Tryz.func94 rfl Tryz.ntmps94 rfl (aE (aA (tv (aD rfl) (aF (Tr.keep (env' := [(0, _)]) ⟨rfl, trivial⟩ ?_)))))
 refine aB (aE (aE (aA (tv (aC rfl) (tv (hZ Tryz.underlying27 rfl rfl) ?_)))))
 refine aF (Tr.keep (env' := [(0, _), (4, _)]) ⟨rfl, rfl, trivial⟩ (aB ?_))
 refine bD rfl (fun hnl => ?_) (fun hnl => ?_)
 ·obtain rfl : A = none := by simpa using hnl
  obtain ⟨rfl, rfl⟩ := hnil rfl
  obtain rfl : xs = [] := List.length_eq_zero_iff.1 hrd.len
  refine aE (aA (tv (aD rfl) (aF (Tr.keep (env' := [(2, _)]) ⟨rfl, trivial⟩ (aB ?_)))))
  refine aQ (aN (aW rfl rfl (fun w hw => ?_)))
  exact ⟨(_, []), rfl, ⟨Own.nil _ _, by simp⟩, hw⟩
 ·obtain ⟨a, rfl⟩ : ∃ a, A = some a := by cases A <;> simp_all
  refine aO (aB (aE (aA (te (bN (E := 82) (l := []) rfl (fun w => by kernel_rfl) rfl fun b5 => (tv (aC rfl) ?_))))))
  refine te (lS Tryz.underlying27 inf_82 rfl (by decide) rfl rfl (Own.made (xs := []) (n := 0) (by simp) rfl (by decide)) (.refl _) hrd.cons h1 (by simp; omega) (by simp [maxLen]; omega) rfl (by simp) fun v E hO hne => (tv (aD rfl) (aF (Tr.keep (env' := [(2, _)]) ⟨rfl, trivial⟩ (aB (aQ ?_))))))
  refine aW rfl rfl (fun w hw => ?_)
  exact ⟨(v, E), rfl, ⟨by simpa using hO, by simp [hne]⟩, hw⟩
theorem jC {A : Option Addr} {n c : Nat} {xs : List (List Value)} (hrd : SlRd w0 M 4 A n xs) (h1 : ∀ x ∈ xs, ∀ u ∈ x, u.oneCell' = true) (hnil : A = none → n = 0 ∧ c = 0) (hn : n ≤ 1000000) :
  ∀ w, Ok w0 M w → Calls Tryz.prog 117 #[.slice A n c] w (fun e w' => ∃ x : Value × List Ent, e = .returned x.1 ∧ (Own 201 4 x.1 xs x.2 ∧ (x.1 = .slice none 0 0 ↔ A = none)) ∧ Ok w0 (x.2 ++ M) w') := by
 refine enter (vs := [_]) Tryz.func117 rfl Tryz.ntmps117 rfl (aE (aA (tv (aD rfl) (aF (Tr.keep (env' := [(0, _)]) ⟨rfl, trivial⟩ ?_)))))
 refine aB (aE (aE (aA (tv (aC rfl) (tv (hZ Tryz.underlying34 rfl rfl) ?_)))))
 refine aF (Tr.keep (env' := [(0, _), (4, _)]) ⟨rfl, rfl, trivial⟩ (aB ?_))
 refine bD rfl (fun hnl => ?_) (fun hnl => ?_)
 ·obtain rfl : A = none := by simpa using hnl
  obtain ⟨rfl, rfl⟩ := hnil rfl
  obtain rfl : xs = [] := List.length_eq_zero_iff.1 hrd.len
  refine aE (aA (tv (aD rfl) (aF (Tr.keep (env' := [(2, _)]) ⟨rfl, trivial⟩ (aB ?_)))))
  refine aQ (aN (aW rfl rfl (fun w hw => ?_)))
  exact ⟨(_, []), rfl, ⟨Own.nil _ _, by simp⟩, hw⟩
 ·obtain ⟨a, rfl⟩ : ∃ a, A = some a := by cases A <;> simp_all
  refine aO (aB (aE (aA (te (bN (E := 201) (l := []) rfl (fun w => by kernel_rfl) rfl fun b5 => (tv (aC rfl) ?_))))))
  refine te (lS Tryz.underlying34 sJ rfl (by decide) rfl rfl (Own.made (xs := []) (n := 0) (by simp) rfl (by decide)) (.refl _) hrd.cons h1 (by simp; omega) (by simp [maxLen]; omega) rfl (by simp) fun v E hO hne => (tv (aD rfl) (aF (Tr.keep (env' := [(2, _)]) ⟨rfl, trivial⟩ (aB (aQ ?_))))))
  refine aW rfl rfl (fun w hw => ?_)
  exact ⟨(v, E), rfl, ⟨by simpa using hO, by simp [hne]⟩, hw⟩
theorem sK {A : Option Addr} {n c : Nat} {xs : List (List Value)} (hrd : SlRd w0 M 4 A n xs) (h1 : ∀ x ∈ xs, ∀ u ∈ x, u.oneCell' = true) (hnil : A = none → n = 0 ∧ c = 0) (hn : n ≤ 1000000) :
  ∀ w, Ok w0 M w → Calls Tryz.prog 116 #[.slice A n c] w (fun e w' => ∃ x : Value × List Ent, e = .returned x.1 ∧ (Own 104 4 x.1 xs x.2 ∧ (x.1 = .slice none 0 0 ↔ A = none)) ∧ Ok w0 (x.2 ++ M) w') := by
 refine enter (vs := [_]) Tryz.func116 rfl Tryz.ntmps116 rfl (aE (aA (tv (aD rfl) (aF (Tr.keep (env' := [(0, _)]) ⟨rfl, trivial⟩ ?_)))))
 refine aB (aE (aE (aA (tv (aC rfl) (tv (hZ Tryz.underlying28 rfl rfl) ?_)))))
 refine aF (Tr.keep (env' := [(0, _), (4, _)]) ⟨rfl, rfl, trivial⟩ (aB ?_))
 refine bD rfl (fun hnl => ?_) (fun hnl => ?_)
 ·obtain rfl : A = none := by simpa using hnl
  obtain ⟨rfl, rfl⟩ := hnil rfl
  obtain rfl : xs = [] := List.length_eq_zero_iff.1 hrd.len
  refine aE (aA (tv (aD rfl) (aF (Tr.keep (env' := [(2, _)]) ⟨rfl, trivial⟩ (aB ?_)))))
  refine aQ (aN (aW rfl rfl (fun w hw => ?_)))
  exact ⟨(_, []), rfl, ⟨Own.nil _ _, by simp⟩, hw⟩
 ·obtain ⟨a, rfl⟩ : ∃ a, A = some a := by cases A <;> simp_all
  refine aO (aB (aE (aA (te (bN (E := 104) (l := []) rfl (fun w => by kernel_rfl) rfl fun b5 => (tv (aC rfl) ?_))))))
  refine te (lS Tryz.underlying28 pH rfl (by decide) rfl rfl (Own.made (xs := []) (n := 0) (by simp) rfl (by decide)) (.refl _) hrd.cons h1 (by simp; omega) (by simp [maxLen]; omega) rfl (by simp) fun v E hO hne => (tv (aD rfl) (aF (Tr.keep (env' := [(2, _)]) ⟨rfl, trivial⟩ (aB (aQ ?_))))))
  refine aW rfl rfl (fun w hw => ?_)
  exact ⟨(v, E), rfl, ⟨by simpa using hO, by simp [hne]⟩, hw⟩
theorem aG6 {A : Option Addr} {n c : Nat} {xs : List (List Value)} (hrd : SlRd w0 M 4 A n xs) (h1 : ∀ x ∈ xs, ∀ u ∈ x, u.oneCell' = true) (hnil : A = none → n = 0 ∧ c = 0) (hn : n ≤ 1000000) :
  ∀ w, Ok w0 M w → Calls Tryz.prog 124 #[.slice A n c] w (fun e w' => ∃ x : Value × List Ent, e = .returned x.1 ∧ (Own 114 4 x.1 xs x.2 ∧ (x.1 = .slice none 0 0 ↔ A = none)) ∧ Ok w0 (x.2 ++ M) w') := by
 refine enter (vs := [_]) Tryz.func124 rfl Tryz.ntmps124 rfl (aE (aA (tv (aD rfl) (aF (Tr.keep (env' := [(0, _)]) ⟨rfl, trivial⟩ ?_)))))
 refine aB (aE (aE (aA (tv (aC rfl) (tv (hZ Tryz.underlying109 rfl rfl) ?_)))))
 refine aF (Tr.keep (env' := [(0, _), (4, _)]) ⟨rfl, rfl, trivial⟩ (aB ?_))
 refine bD rfl (fun hnl => ?_) (fun hnl => ?_)
 ·obtain rfl : A = none := by simpa using hnl
  obtain ⟨rfl, rfl⟩ := hnil rfl
  obtain rfl : xs = [] := List.length_eq_zero_iff.1 hrd.len
  refine aE (aA (tv (aD rfl) (aF (Tr.keep (env' := [(2, _)]) ⟨rfl, trivial⟩ (aB ?_)))))
  refine aQ (aN (aW rfl rfl (fun w hw => ?_)))
  exact ⟨(_, []), rfl, ⟨Own.nil _ _, by simp⟩, hw⟩
 ·obtain ⟨a, rfl⟩ : ∃ a, A = some a := by cases A <;> simp_all
  refine aO (aB (aE (aA (te (bN (E := 114) (l := []) rfl (fun w => by kernel_rfl) rfl fun b5 => (tv (aC rfl) ?_))))))
  refine te (lS Tryz.underlying109 eU rfl (by decide) rfl rfl (Own.made (xs := []) (n := 0) (by simp) rfl (by decide)) (.refl _) hrd.cons h1 (by simp; omega) (by simp [maxLen]; omega) rfl (by simp) fun v E hO hne => (tv (aD rfl) (aF (Tr.keep (env' := [(2, _)]) ⟨rfl, trivial⟩ (aB (aQ ?_))))))
  refine aW rfl rfl (fun w hw => ?_)
  exact ⟨(v, E), rfl, ⟨by simpa using hO, by simp [hne]⟩, hw⟩
structure Src where
 kind : Int
 error : Int
def Src.cells (s : Src) : List Value := [.int .i64 s.kind, .int .i64 s.error]
def Src.bad (s : Src) : Bool := decide (s.kind < 1) || decide (3 < s.kind) || !eK s.error 0 10000000
theorem aZ3 (s : Src) : s.cells.length = 2 := rfl
def bH7 : List Value → Src
 | [.int _ a, .int _ b] => ⟨a, b⟩
 | _ => ⟨0, 0⟩
@[simp] theorem decSrc_cells (s : Src) : bH7 s.cells = s := rfl
theorem mZ (i : Int) : (encI i).length = 1 := rfl
def decI : List Value → Int
 | [.int _ a] => a
 | _ => 0
@[simp] theorem decI_enc (i : Int) : decI (encI i) = i := rfl
def fR (cars places : Int) (least : List Int) (srcs : List Src) : Bool :=
 !(!eK cars 1 200 || !eK places 2 30 || ((least.length : Int) != places - 1) || decide (50 < (srcs.length : Int))) && (!(least.any fun n => !eK n 0 100000000) && !(srcs.any Src.bad))
theorem aR4 (n : Int) : ∀ w, Ok w0 M w → Calls Tryz.prog 149 #[.int .i64 n] w (fun e w' => e = .returned (.bool (!eK n 0 100000000)) ∧ Ok w0 M w') := by
 refine enter (vs := [_]) Tryz.func149 rfl Tryz.ntmps149 rfl (aE (aA (tv (aD rfl) (aF (Tr.keep (env' := [(0, _)]) ⟨rfl, trivial⟩ ?_)))))
 refine aB (aE (aA (tv (aC rfl) (te (aJ jG rfl rfl rfl rfl (dH _ _ _) (tv (bF rfl) ?_))))))
 refine tv (aD rfl) (aF (Tr.keep (env' := [(2, _)]) ⟨rfl, trivial⟩ (aB (aQ (aW rfl rfl (fun w hw => ?_))))))
 exact ⟨rfl, hw⟩
theorem aR5 (s : Src) : ∀ w, Ok w0 M w → Calls Tryz.prog 151 #[.agg s.cells.toArray] w (fun e w' => e = .returned (.bool s.bad) ∧ Ok w0 M w') := by
 refine enter (vs := [_]) Tryz.func151 rfl Tryz.ntmps151 rfl (aE (aA (te (cH rfl rfl fun b1 => (tv (aD rfl) (aF ?_))))))
 refine Tr.keep (env' := [(1, _)]) ⟨rfl, trivial⟩ (aB (aE (aA (tv (aI sH rfl) (tv (aG aM7 rfl (aK (.head _) rfl)) ?_)))))
 refine tv (dI rfl rfl) (tv (aC rfl) ?_)
 apply aZ 4 (s := 6) (d := 10) rfl
 ·intro hg1 K hK
  refine bE hg1 rfl rfl (aI sH rfl) (bE hg1 rfl rfl (aG aM7 rfl (aK (.head _) rfl)) (bE hg1 rfl rfl (fC rfl rfl) (tv (bW hg1 rfl rfl) ?_)))
  iterate 3 refine Tr.weak2 rfl ?_
  exact hK _ (dJ hg1)
 ·intro hg1 K hK
  refine aH hg1 rfl rfl rfl rfl (aH hg1 rfl rfl rfl rfl (aH hg1 rfl rfl rfl rfl (tv (bV hg1 rfl rfl) ?_)))
  iterate 3 refine Tr.weak2 rfl ?_
  exact hK _ (dK hg1)
 refine tv (aC rfl) ?_
 apply aZ 5 (s := 11) (d := 16) rfl
 ·intro hg2 K hK
  refine bE hg2 rfl rfl (aI aW4 rfl) (bE hg2 rfl rfl (aG bB rfl (aK (.head _) rfl)) (dB hg2 rfl rfl (aJ jG rfl rfl rfl rfl (dH _ _ _) (bE hg2 rfl rfl (bF rfl) (tv (bW hg2 rfl rfl) ?_)))))
  iterate 4 refine Tr.weak2 rfl ?_
  exact hK _ (dJ hg2)
 ·intro hg2 K hK
  refine aH hg2 rfl rfl rfl rfl (aH hg2 rfl rfl rfl rfl (aH hg2 rfl rfl rfl rfl (aH hg2 rfl rfl rfl rfl (tv (bV hg2 rfl rfl) ?_))))
  iterate 4 refine Tr.weak2 rfl ?_
  exact hK _ (dK hg2)
 refine tv (aD rfl) (aF (Tr.keep (env' := [(2, _)]) ⟨rfl, trivial⟩ (aB (aQ (aW rfl rfl (fun w hw => ?_))))))
 exact ⟨rfl, Ok.sub hw (List.sublist_cons_self _ _)⟩
theorem zY {A B : Option Addr} {cA cB nA nB : Nat} {cars places : Int} {least : List Int} {srcs : List Src} (hA : SlRd w0 M 1 A nA (least.map encI)) (hB : SlRd w0 M 2 B nB (srcs.map Src.cells)) :
 ∀ w, Ok w0 M w → Calls Tryz.prog 92 #[.agg #[.int .i64 cars, .int .i64 places, .slice A nA cA], .slice B nB cB] w (fun e w' => e = .returned (.bool (fR cars places least srcs)) ∧ Ok w0 M w') := by
 have hnA : nA = least.length := by have := hA.len; simpa using this.symm
 have hnB : nB = srcs.length := by have := hB.len; simpa using this.symm
 subst hnA hnB
 have b1 := hA.big
 refine enter (vs := [_, _]) Tryz.func92 rfl Tryz.ntmps92 rfl (aE (aA (te (cH rfl rfl fun b2 => (tv (aD rfl) (aF ?_))))))
 refine Tr.keep (env' := [(1, _), (2, _)]) ⟨rfl, rfl, trivial⟩ (aB (aE (aE (aA (tv (aI gM rfl) ?_)))))
 refine tv (aG bB rfl (aK (.head _) rfl)) (te (aJ jG rfl rfl rfl rfl (dH _ _ _) (tv (bF rfl) (tv (aC rfl) ?_))))
 apply aZ 5 (s := 9) (d := 14) rfl
 ·intro hg1 K hK
  refine bE hg1 rfl rfl (aI kM rfl) (bE hg1 rfl rfl (aG bB rfl (aK (.head _) rfl)) (dB hg1 rfl rfl (aJ jG rfl rfl rfl rfl (dH _ _ _) (bE hg1 rfl rfl (bF rfl) (tv (bW hg1 rfl rfl) ?_)))))
  iterate 4 refine Tr.weak2 rfl ?_
  exact hK _ (dJ hg1)
 ·intro hg1 K hK
  refine aH hg1 rfl rfl rfl rfl (aH hg1 rfl rfl rfl rfl (aH hg1 rfl rfl rfl rfl (aH hg1 rfl rfl rfl rfl (tv (bV hg1 rfl rfl) ?_))))
  iterate 4 refine Tr.weak2 rfl ?_
  exact hK _ (dK hg1)
 refine tv (aC rfl) ?_
 apply aZ 8 (s := 15) (d := 23) rfl
 ·intro hg2 K hK
  refine bE hg2 rfl rfl (aI jB rfl) (bE hg2 rfl rfl (aG dQ rfl (aK (.head _) rfl)) (bE hg2 rfl rfl (aP Tryz.underlying24 rfl) (bE hg2 rfl rfl (aI kM rfl) (bE hg2 rfl rfl (aG bB rfl (aK (.head _) rfl)) (bE hg2 rfl rfl (cP rfl rfl (by have h9 := hg2; simp [eK] at h9; omega)) ?_)))))
  refine bE hg2 rfl rfl (eF rfl rfl) (tv (bW hg2 rfl rfl) ?_)
  iterate 7 refine Tr.weak2 rfl ?_
  exact hK _ (dJ hg2)
 ·intro hg2 K hK
  refine aH hg2 rfl rfl rfl rfl (aH hg2 rfl rfl rfl rfl (aH hg2 rfl rfl rfl rfl (aH hg2 rfl rfl rfl rfl (aH hg2 rfl rfl rfl rfl (aH hg2 rfl rfl rfl rfl ?_)))))
  refine aH hg2 rfl rfl rfl rfl (tv (bV hg2 rfl rfl) ?_)
  iterate 7 refine Tr.weak2 rfl ?_
  exact hK _ (dK hg2)
 refine tv (aC rfl) ?_
 apply aZ 4 (s := 24) (d := 28) rfl
 ·intro hg3 K hK
  refine bE hg3 rfl rfl (aC rfl) (bE hg3 rfl rfl (aP Tryz.underlying27 rfl) (bE hg3 rfl rfl (fC rfl rfl) (tv (bW hg3 rfl rfl) ?_)))
  iterate 3 refine Tr.weak2 rfl ?_
  exact hK _ (dJ hg3)
 ·intro hg3 K hK
  refine aH hg3 rfl rfl rfl rfl (aH hg3 rfl rfl rfl rfl (aH hg3 rfl rfl rfl rfl (tv (bV hg3 rfl rfl) ?_)))
  iterate 3 refine Tr.weak2 rfl ?_
  exact hK _ (dK hg3)
 refine aF (Tr.keep (env' := [(1, _), (2, _), (28, _)]) ⟨rfl, rfl, rfl, trivial⟩ (aB ?_))
 refine bD rfl (fun hv => ?_) (fun hv => ?_)
 ·skip
  refine aE (aA (tv (aD rfl) (aF (Tr.keep (env' := [(4, _)]) ⟨rfl, trivial⟩ (aB ?_)))))
  refine aQ (aN (aW rfl rfl (fun w hw => (⟨?_, Ok.sub hw (List.sublist_cons_self _ _)⟩))))
  unfold fR; rw [hv]; rfl
 ·skip
  refine aO (aB (aE (aA (tv (aI jB rfl) (tv (aG dQ rfl (aK (.head _) rfl)) ?_)))))
  refine xM rfl (aJ bH6 rfl rfl rfl rfl (mD (fun y => !eK (decI y) 0 100000000) en_149 hA.cons (by
     intro y hy v hv; obtain ⟨x, hx, rfl⟩ := List.mem_map.1 hy
     obtain rfl : v = .int .i64 x := by simpa [encI] using hv.symm
     exact aR4 x)) ?_)
  refine tv (bF rfl) (tv (aC rfl) ?_)
  apply bH 4 (s := 33) (d := 37) rfl
  ·intro hg5 K hK
   refine bE hg5 rfl rfl (aC rfl) ?_
   refine dB hg5 rfl rfl (aJ en_150 rfl rfl rfl rfl (oH (fun y => (bH7 y).bad) en_151 hB.cons (by
      intro y hy; obtain ⟨x, hx, rfl⟩ := List.mem_map.1 hy
      exact aR5 x)) ?_)
   refine bE hg5 rfl rfl (bF rfl) (tv (bV hg5 rfl rfl) ?_)
   iterate 3 refine Tr.weak2 rfl ?_
   exact hK _ (dT hg5)
  ·intro hg5 K hK
   refine aH hg5 rfl rfl rfl rfl (aH hg5 rfl rfl rfl rfl (aH hg5 rfl rfl rfl rfl (tv (bW hg5 rfl rfl) ?_)))
   iterate 3 refine Tr.weak2 rfl ?_
   exact hK _ (dU hg5)
  refine tv (aD rfl) (aF (Tr.keep (env' := [(4, _)]) ⟨rfl, trivial⟩ (aB (aQ (aW rfl rfl (fun w hw => ?_))))))
  refine ⟨?_, Ok.sub hw (List.sublist_cons_self _ _)⟩
  unfold fR; rw [hv]; simp [List.any_map, Function.comp_def]
structure Rep where
 source : Int
 number : Int
 kind : Int
 car : Int
 place : Int
 time : Int
 deriving DecidableEq
def Rep.ints (r : Rep) : List Int := [r.source, r.number, r.kind, r.car, r.place, r.time, 0]
def Rep.cellsAt (r : Rep) (t : Int) : List Value := [.int .i64 r.source, .int .i64 r.number, .int .i64 r.kind, .int .i64 r.car, .int .i64 r.place, .int .i64 r.time, .int .i64 t]
abbrev Rep.enc (r : Rep) : Value := .agg (gI r.ints).toArray
theorem Rep.inj (a b : Rep) (h : a.ints = b.ints) : a = b := by
 cases a; cases b; simp [Rep.ints] at h; simp [h]
theorem bH8 : KeyK Tryz.prog 100 Rep.enc := KeyK.ints Rep.ints Tryz.underlying100 (by kernel_rfl) (by
 intro j f h
 match j, h with
 | 0, h => cases h; exact ⟨by decide, rfl, Tryz.underlying3⟩
 | 1, h => cases h; exact ⟨by decide, rfl, Tryz.underlying3⟩
 | 2, h => cases h; exact ⟨by decide, rfl, Tryz.underlying98⟩
 | 3, h => cases h; exact ⟨by decide, rfl, Tryz.underlying3⟩
 | 4, h => cases h; exact ⟨by decide, rfl, Tryz.underlying3⟩
 | 5, h => cases h; exact ⟨by decide, rfl, Tryz.underlying3⟩
 | 6, h => cases h; exact ⟨by decide, rfl, Tryz.underlying3⟩
 | j + 7, h => simp at h) (fun _ => rfl) Rep.inj
structure WLog where
 cars : Int
 places : Int
 least : List Int
 srcs : List Src
 kv : List (Rep × Int)
structure WAt where
 b : Nat
 lv : Value
 lE : List Ent
 sv : Value
 sE : List Ent
 mb : Nat
def WLog.cells (g : WLog) (l : WAt) : List Value := [.int .i64 g.cars, .int .i64 g.places, l.lv, l.sv, .map (some l.mb)]
def encT (t : Int) : Value := .int .i64 t
abbrev kvs (l : List (Rep × Int)) : List (Rep × Value) := l.map fun p => (p.1, encT p.2)
abbrev WLog.eb (g : WLog) (l : WAt) : Ent := cel l.b 184 (g.cells l)
abbrev WLog.em (g : WLog) (l : WAt) : Ent := kE l.mb Rep.enc (kvs g.kv)
structure WLog.Lies (g : WLog) (l : WAt) : Prop where
 least : Own 3 1 l.lv (g.least.map encI) l.lE
 srcs : Own 82 2 l.sv (g.srcs.map Src.cells) l.sE
theorem aM8 {A B : Option Addr} {cA cB nA nB : Nat} {cars places : Int} {least : List Int} {srcs : List Src} (hA : SlRd w0 M 1 A nA (least.map encI)) (hB : SlRd w0 M 2 B nB (srcs.map Src.cells)) (hno : fR cars places least srcs = false) :
 ∀ w, Ok w0 M w → Calls Tryz.prog 35 #[.agg #[.int .i64 cars, .int .i64 places, .slice A nA cA], .slice B nB cB] w (fun e w' => e = .returned (.tuple #[.pointer none, .int .i64 2]) ∧ Ok w0 M w') := by
 refine enter (vs := [_, _]) Tryz.func35 rfl Tryz.ntmps35 rfl (aE (aA (te (cH rfl rfl fun b2 => (tv (aD rfl) (tv (aD rfl) ?_))))))
 refine aF (Tr.keep (env' := [(1, _), (2, _)]) ⟨rfl, rfl, trivial⟩ (aB (aE (aE (aA ?_)))))
 refine tv (aY sG rfl (bL (n := 3) (vs := [_, _, _]) (.head _) rfl) rfl) (tv (aC rfl) (te (aJ en_92 rfl rfl rfl rfl (zY hA.cons hB.cons) (tv (bF rfl) (aF (Tr.keep (env' := [(1, _), (2, _), (9, _)]) ⟨rfl, rfl, rfl, trivial⟩ ?_))))))
 refine aB ?_
 refine bD rfl (fun hv => ?_) (fun hv => ?_)
 ·skip
  refine aE (aA (tv (aD rfl) (tv (aD rfl) (aF (Tr.keep (env' := [(4, _), (5, _)]) ⟨rfl, rfl, trivial⟩ ?_)))))
  refine aB (aQ (aN (gG rfl rfl rfl (fun w hw => ?_))))
  exact ⟨rfl, Ok.sub hw (List.sublist_cons_self _ _)⟩
 ·rw [hno] at hv; exact absurd hv (by decide)
theorem lL {A B : Option Addr} {cA cB nA nB : Nat} {cars places : Int} {least : List Int} {srcs : List Src} (hA : SlRd w0 M 1 A nA (least.map encI)) (hB : SlRd w0 M 2 B nB (srcs.map Src.cells)) (hyes : fR cars places least srcs = true)
  (hnA : A = none → nA = 0 ∧ cA = 0) (hnB : B = none → nB = 0 ∧ cB = 0) (hln : nA ≤ 1000000) (hsn : nB ≤ 1000000) :
 ∀ w, Ok w0 M w → Calls Tryz.prog 35 #[.agg #[.int .i64 cars, .int .i64 places, .slice A nA cA], .slice B nB cB] w (fun e w' => ∃ l : WAt, e = .returned (.tuple #[.pointer (some ⟨l.b, 0, none⟩), .int .i64 0]) ∧ (⟨cars, places, least, srcs, []⟩ : WLog).Lies l ∧
  Ok w0 ((⟨cars, places, least, srcs, []⟩ : WLog).eb l :: (⟨cars, places, least, srcs, []⟩ : WLog).em l :: (l.lE ++ (l.sE ++ M))) w') := by
 refine enter (vs := [_, _]) Tryz.func35 rfl Tryz.ntmps35 rfl (aE (aA (te (cH rfl rfl fun b2 => (tv (aD rfl) (tv (aD rfl) ?_))))))
 refine aF (Tr.keep (env' := [(1, _), (2, _)]) ⟨rfl, rfl, trivial⟩ (aB (aE (aE (aA ?_)))))
 refine tv (aY sG rfl (bL (n := 3) (vs := [_, _, _]) (.head _) rfl) rfl) (tv (aC rfl) (te (aJ en_92 rfl rfl rfl rfl (zY hA.cons hB.cons) (tv (bF rfl) (aF (Tr.keep (env' := [(1, _), (2, _), (9, _)]) ⟨rfl, rfl, rfl, trivial⟩ ?_))))))
 refine aB ?_
 refine bD rfl (fun hv => ?_) (fun hv => ?_)
 ·rw [hyes] at hv; exact absurd hv (by decide)
 ·skip
  refine aO (aB (aE (aA (tv (aI jB rfl) (tv (aG dQ rfl (aK (.head _) rfl)) ?_)))))
  refine te (bP pR rfl rfl rfl rfl (fS hA.cons (by intro x hx; obtain ⟨y, _, rfl⟩ := List.mem_map.1 hx; simp [encI, Value.oneCell']) hnA hln) fun x hx => ?_)
  obtain ⟨lv, lE⟩ := x
  obtain ⟨hlO, hlnil⟩ := hx
  dsimp only at hlO hlnil ⊢
  refine tv (aI jB rfl) (te (bR lG rfl rfl (Own.one hlO) (.succ (.succ .zero)) (.right .here) (aF (Tr.keep (env' := [(1, _), (2, _)]) ⟨rfl, rfl, trivial⟩ (aB (aE ?_))))))
  refine Tr.keep (env' := [(1, _), (2, _)]) ⟨rfl, rfl, trivial⟩ ?_
  refine aS0 (α := WAt) (fun l => [(4, .pointer (some ⟨l.b, 0, none⟩)), (5, .int .i64 0)]) (fun l => (⟨cars, places, least, srcs, []⟩ : WLog).eb l :: (⟨cars, places, least, srcs, []⟩ : WLog).em l :: (l.lE ++ (l.sE ++ M))) (fun l => (⟨cars, places, least, srcs, []⟩ : WLog).Lies l) ?_ ?_
  ·intro K hK
   refine cI cK rfl (dv 0 rfl (.refl _) (aY sG rfl (bL (n := 3) (vs := [_, _, _]) (List.mem_append_right _ (.head _)) rfl) rfl) (dv 1 rfl (.refl _) (aC rfl) ?_))
   refine gP 2 3 rfl rfl  rfl rfl  (by kernel_rfl) ?_ ?_
   ·refine (bP aW3 rfl rfl rfl rfl (jT (hB.sub (List.Sublist.trans (.cons _ (.refl _)) (List.sublist_append_right _ _))) (by intro x hx; obtain ⟨y, _, rfl⟩ := List.mem_map.1 hx; simp [Src.cells, Value.oneCell']) hnB hsn) fun x hx => ?_)
    obtain ⟨sv, sE⟩ := x
    obtain ⟨hsO, hsnil⟩ := hx
    dsimp only at hsO hsnil ⊢
    obtain ⟨sA, sc, hsv, _⟩ := Own.len hsO
    subst hsv
    refine aU (List.Sublist.trans (.refl _) (List.sublist_append_right _ _)) (de 3 rfl (gQ (Rep.enc) rfl fun b17 => (aU (.cons _ (List.Sublist.trans (.refl _) (List.sublist_append_right _ _))) (dv 4 rfl (.cons _ (List.Sublist.trans (.refl _) (List.sublist_append_right _ _))) (bU rfl (v := .agg #[.int .i64 cars, .int .i64 places, lv, .slice sA (srcs.map Src.cells).length sc, .map (some b17)]) (fun w => by kernel_rfl)) (de 5 rfl (cH rfl rfl fun b19 => (aU (.cons _ (.cons _ (List.Sublist.trans (.refl _) (List.sublist_append_right _ _)))) ?_)))))))
    refine dv 6 rfl (.cons _ (.cons _ (List.Sublist.trans (.refl _) (List.sublist_append_right _ _)))) (aD rfl) (dv 7 rfl (.cons _ (.cons _ (List.Sublist.trans (.refl _) (List.sublist_append_right _ _)))) (aD rfl) (bQ (by kernel_rfl) ?_))
    exact dO (hK ⟨b19, lv, lE, _, sE, b17⟩ ⟨hlO, hsO⟩) ⟨rfl, rfl, trivial⟩ (pk .here (pk .here (mH (.right .here) (mH .here (.refl _))))) (.cons_cons _ (.cons_cons _ (List.Sublist.append (.refl _) (List.Sublist.append (.refl _) (.cons _ (.refl _))))))
   ·refine (gQ (Rep.enc) rfl fun b17 => (aU (.cons _ (.refl _)) (de 2 rfl (bP aW3 rfl rfl rfl rfl (jT (hB.sub (.cons _ (List.Sublist.trans (.cons _ (.refl _)) (List.sublist_append_right _ _)))) (by intro x hx; obtain ⟨y, _, rfl⟩ := List.mem_map.1 hx; simp [Src.cells, Value.oneCell']) hnB hsn) fun x hx => ?_))))
    obtain ⟨sv, sE⟩ := x
    obtain ⟨hsO, hsnil⟩ := hx
    dsimp only at hsO hsnil ⊢
    obtain ⟨sA, sc, hsv, _⟩ := Own.len hsO
    subst hsv
    refine aU (List.Sublist.trans (.cons _ (.refl _)) (List.sublist_append_right _ _)) (dv 4 rfl (List.Sublist.trans (.cons _ (.refl _)) (List.sublist_append_right _ _)) (bU rfl (v := .agg #[.int .i64 cars, .int .i64 places, lv, .slice sA (srcs.map Src.cells).length sc, .map (some b17)]) (fun w => by kernel_rfl)) (de 5 rfl (cH rfl rfl fun b19 => (aU (.cons _ (List.Sublist.trans (.cons _ (.refl _)) (List.sublist_append_right _ _))) (dv 6 rfl (.cons _ (List.Sublist.trans (.cons _ (.refl _)) (List.sublist_append_right _ _))) (aD rfl) (dv 7 rfl (.cons _ (List.Sublist.trans (.cons _ (.refl _)) (List.sublist_append_right _ _))) (aD rfl) ?_))))))
    refine bQ (by kernel_rfl) ?_
    exact dO (hK ⟨b19, lv, lE, _, sE, b17⟩ ⟨hlO, hsO⟩) ⟨rfl, rfl, trivial⟩ (pk .here (pk (.right .here) (mH (.right .here) (mH .here (.refl _))))) (.cons_cons _ (.cons_cons _ (List.Sublist.append (.refl _) (List.Sublist.append (.refl _) (.cons _ (.refl _))))))
  intro l hl
  refine Tr.keep (env' := [(4, _), (5, _)]) ⟨rfl, rfl, trivial⟩ (aB (aQ (gG rfl rfl rfl (fun w hw => ?_))))
  exact ⟨l, rfl, hl, hw⟩
end
end Go.Proofs.W
