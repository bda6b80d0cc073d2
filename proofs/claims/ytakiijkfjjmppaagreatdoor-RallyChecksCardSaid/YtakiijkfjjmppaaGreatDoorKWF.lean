/-
 What functions of the program that RallyChecks reaches do, one contract each, part 6.
-/
import Derived.Test.YtakiijkfjjmppaaGreatDoorKWE
import Derived.Test.YtakiijkfjjmppaaGreatDoorKSlB
set_option linter.unusedVariables false
set_option linter.unusedSimpArgs false
set_option linter.unusedSectionVars false
set_option maxRecDepth 100000
set_option maxHeartbeats 1000000
namespace Go.Proofs.W
open Go Go.Sl Go.RowKit Go.Proofs
attribute [local irreducible] Go.Sl.Eff
theorem zT : bY Tryz.prog 29 = some (none) := by kernel_rfl
theorem bD9 : bY Tryz.prog 31 = some (some 12) := by kernel_rfl
theorem lX : bC Tryz.prog 104 2 = some 2 := by kernel_rfl
theorem wE : bC Tryz.prog 104 3 = some 3 := by kernel_rfl
theorem aC8 : bC Tryz.prog 31 0 = some 0 := by kernel_rfl
theorem aC9 : bC Tryz.prog 31 1 = some 1 := by kernel_rfl
theorem kQ : bC Tryz.prog 31 10 = some 10 := by kernel_rfl
theorem kR : bC Tryz.prog 31 11 = some 11 := by kernel_rfl
theorem aD0 : bC Tryz.prog 31 2 = some 2 := by kernel_rfl
theorem aD1 : bC Tryz.prog 31 3 = some 3 := by kernel_rfl
theorem mJ : bC Tryz.prog 31 4 = some 4 := by kernel_rfl
theorem aD2 : bC Tryz.prog 31 6 = some 6 := by kernel_rfl
theorem pC : bC Tryz.prog 31 7 = some 7 := by kernel_rfl
theorem aD3 : bC Tryz.prog 31 8 = some 8 := by kernel_rfl
theorem lI : bC Tryz.prog 31 9 = some 9 := by kernel_rfl
theorem mK : bC Tryz.prog 33 2 = some 2 := by kernel_rfl
theorem aP3 : (Tryz.prog.info? 31).map (fun i => (i.zero, i.size, i.bytes)) = some (some (.agg #[.int .i64 0, .int .i64 0, .int .i64 0, .int .i64 0, .slice none 0 0, .bool false, .int .i64 0, .int .i64 0, .int .i64 0, .int .i64 0, .slice none 0 0, .slice none 0 0]), 12, 144) := by kernel_rfl
theorem bE0 : (Tryz.prog.info? 31).map (·.size) = some 12 := by kernel_rfl
structure Sl3 where
 b : Nat
 c : Nat
 sp : List Value
abbrev Sl3.v (s : Sl3) (n : Nat) : Value := .slice (some ⟨s.b, 0, none⟩) n s.c
structure SAt where
 items : Sl3
 jumps : Sl3
 points : Sl3
 extra : Sl3
 least : Sl3
 srcs : Sl3
 arts : Sl3
abbrev SAt.plan (a : SAt) : List Value := [a.items.v 3, .int .i64 1, .int .i64 10000, .int .i64 60000, .int .i64 15, .int .i64 30, a.jumps.v 2, .bool false, .int .i64 0, .int .i64 1, .int .i64 100, .int .i64 1, a.points.v 2, a.extra.v 1]
abbrev SAt.guard : List Value := [.int .i64 2, .int .i64 60, .int .i64 1, .int .i64 0, .int .i64 600, .int .i64 1]
abbrev SAt.code (a : SAt) : List Value := [.int .i64 1, a.arts.v 1, .int .i64 30, .int .i64 60, .int .i64 0, .int .i64 0]
abbrev SAt.setup (a : SAt) : List Value := [.int .i64 2, .int .i64 60, .int .i64 1, .int .i64 0, .int .i64 600, .int .i64 1, .int .i64 1, .int .i64 2, a.least.v 1, a.srcs.v 1,
 a.items.v 3, .int .i64 1, .int .i64 10000, .int .i64 60000, .int .i64 15, .int .i64 30, a.jumps.v 2, .bool false, .int .i64 0, .int .i64 1, .int .i64 100, .int .i64 1, a.points.v 2, a.extra.v 1,
 .int .i64 1, a.arts.v 1, .int .i64 30, .int .i64 60, .int .i64 0, .int .i64 0]
abbrev SAt.eItems (a : SAt) : Ent := cel a.items.b 104 (.int .i64 1 :: .int .i64 0 :: .int .i64 30 :: .bool false :: .int .i64 2 :: .int .i64 0 :: .int .i64 0 :: .bool false :: .int .i64 1 :: .int .i64 0 :: .int .i64 60 :: .bool false :: a.items.sp)
abbrev SAt.eJumps (a : SAt) : Ent := cel a.jumps.b 3 (.int .i64 10000 :: .int .i64 60000 :: a.jumps.sp)
abbrev SAt.ePoints (a : SAt) : Ent := cel a.points.b 3 (.int .i64 10 :: .int .i64 6 :: a.points.sp)
abbrev SAt.eExtra (a : SAt) : Ent := cel a.extra.b 3 (.int .i64 3 :: a.extra.sp)
abbrev SAt.eLeast (a : SAt) : Ent := cel a.least.b 3 (.int .i64 1000 :: a.least.sp)
abbrev SAt.eSrcs (a : SAt) : Ent := cel a.srcs.b 82 (.int .i64 1 :: .int .i64 0 :: a.srcs.sp)
abbrev SAt.eArts (a : SAt) : Ent := cel a.arts.b 201 (.int .i64 1 :: .int .i64 0 :: .int .i64 0 :: .int .i64 1000 :: a.arts.sp)
structure SAt.In (a : SAt) (M : List Ent) : Prop where
 items : a.eItems ∈ M
 jumps : a.eJumps ∈ M
 points : a.ePoints ∈ M
 extra : a.eExtra ∈ M
 least : a.eLeast ∈ M
 srcs : a.eSrcs ∈ M
 arts : a.eArts ∈ M
theorem SAt.In.sub {a : SAt} {M M' : List Ent} (h : a.In M) (hs : M.Sublist M') : a.In M' :=
 ⟨hs.subset h.items, hs.subset h.jumps, hs.subset h.points, hs.subset h.extra, hs.subset h.least, hs.subset h.srcs, hs.subset h.arts⟩
section
variable {w0 : World} {M : List Ent}
theorem rP {a : SAt} (h : a.In M) : ∀ w, Ok w0 M w → Calls Tryz.prog 52 #[.agg a.plan.toArray] w (fun e w' => e = .returned (.int .i64 0) ∧ Ok w0 M w') := by
 refine enter (vs := [_]) Tryz.func52 rfl Tryz.ntmps52 rfl (aE (aA (te (cH rfl rfl fun b1 => (tv (aD rfl) (aF ?_))))))
 refine Tr.keep (env' := [(1, _)]) ⟨rfl, trivial⟩ (aB (aE (aE (aA (tv (aI cQ rfl) ?_)))))
 refine tv (aG eJ rfl (aK (.head _) rfl)) (tv (aP Tryz.underlying28 rfl) (te (aJ gX rfl rfl rfl rfl (cO _ _ _) (tv (bF rfl) (tv (aC rfl) (cV rfl rfl (aI vK rfl) ?_))))))
 refine cV rfl rfl (aG bB rfl (aK (.head _) rfl)) (gB rfl rfl (aJ gX rfl rfl rfl rfl (cO _ _ _) (cV rfl rfl (bF rfl) (tv (bS rfl rfl) (tv (aC rfl) (cV rfl rfl (aI cQ rfl) ?_))))))
 refine cV rfl rfl (aG eJ rfl (aK (.head _) rfl)) (cV rfl rfl (dE (j := 0) Tryz.underlying28 eT rfl rfl rfl (by decide)) (cV rfl rfl (aI eC rfl) (cV rfl rfl (aG bB rfl (aK (.tail _ h.items) rfl)) (cV rfl rfl (eF rfl rfl) (tv (bS rfl rfl) ?_)))))
 refine aF (Tr.keep (env' := [(1, _), (24, _)]) ⟨rfl, rfl, trivial⟩ (aB (aR rfl (aO (aB ?_)))))
 refine aE (aE (aA (tv (aI cQ rfl) (tv (aG eJ rfl (aK (.head _) rfl)) (tv (aP Tryz.underlying28 rfl) ?_)))))
 refine tv (aC rfl) (aF (Tr.keep (env' := [(1, _), (26, _), (27, _), (28, _)]) ⟨rfl, rfl, rfl, rfl, trivial⟩ (aB (aX (eN ?_)))))
 refine cR (aE (aA (tv (dI rfl rfl) (aF (Tr.keep (env' := [(1, _), (26, _), (27, _), (28, _), (29, _)]) ⟨rfl, rfl, rfl, rfl, rfl, trivial⟩ ?_)))))
 refine aB (aE (bI rfl (aO (aB (aE ?_)))))
 refine aX (aE (aA (tv (aC rfl) (tv (dE (j := 0) Tryz.underlying28 eT rfl rfl rfl (by decide)) (tv (aY qK rfl (bL (n := 4) (vs := [_, _, _, _]) (.tail _ h.items) rfl) rfl) ?_)))))
 refine te (bO pH (l := [.int .i64 0, .int .i64 0, .int .i64 0, .bool false]) rfl rfl fun b4 => (tv (aD rfl) (te (bJ eT rfl rfl (vs := [_, _, _, _]) rfl rfl (by simp [Value.oneCell']) (.cons .zero (.cons (.succ .zero) (.cons (.succ (.succ .zero)) (.cons (.succ (.succ (.succ .zero))) .nil)))) .here (aF (Tr.keep (env' := [(1, _), (3, _), (4, _), (26, _), (27, _), (28, _)]) ⟨rfl, rfl, rfl, rfl, rfl, rfl, trivial⟩ (aB ?_)))))))
 refine aE (aE (cI cK rfl (dv 0 rfl (.refl _) (aC rfl) (dv 1 rfl (.refl _) (fC rfl rfl) (dv 2 rfl (.refl _) (aC rfl) ?_)))))
 refine iJ 3 rfl (.refl _) rfl rfl (iJ 4 rfl (.refl _) rfl rfl (iJ 5 rfl (.refl _) rfl rfl (iJ 6 rfl (.refl _) rfl rfl (iJ 7 rfl (.refl _) rfl rfl (iJ 8 rfl (.refl _) rfl rfl ?_)))))
 refine iJ 9 rfl (.refl _) rfl rfl (iJ 10 rfl (.refl _) rfl rfl (iJ 11 rfl (.refl _) rfl rfl (iJ 12 rfl (.refl _) rfl rfl (iJ 13 rfl (.refl _) rfl rfl (iJ 14 rfl (.refl _) rfl rfl ?_)))))
 refine dv 15 rfl (.refl _) (bS rfl rfl) (dv 16 rfl (.refl _) (aC rfl) (eI 17 rfl (.refl _) rfl rfl (aI eC rfl) (eI 18 rfl (.refl _) rfl rfl (aG bB rfl (aK (.head _) rfl)) (eI 19 rfl (.refl _) rfl rfl (fI rfl rfl) (dv 20 rfl (.refl _) (bS rfl rfl) ?_)))))
 refine bQ (by kernel_rfl) (Tr.keep (env' := [(1, _), (4, _), (26, _), (27, _), (28, _), (53, _)]) ⟨rfl, rfl, rfl, rfl, rfl, rfl, trivial⟩ (aB (aR rfl (aO (aB ?_)))))
 refine aE (aA (tv (aI gC rfl) (tv (aG jR rfl (aK (.head _) rfl)) (aF (Tr.keep (env' := [(1, _), (4, _), (26, _), (27, _), (28, _), (55, _)]) ⟨rfl, rfl, rfl, rfl, rfl, rfl, trivial⟩ ?_)))))
 refine aB (aX (aE (aA (tv (cW rfl rfl) (tv (aD rfl) ?_)))))
 refine aF (Tr.keep (env' := [(1, _), (4, _), (26, _), (27, _), (28, _), (55, _), (56, _)]) ⟨rfl, rfl, rfl, rfl, rfl, rfl, rfl, trivial⟩ (aB (bI rfl (aE (aA ?_)))))
 refine tv (aI lX rfl) (tv (aG bB rfl (aK (.head _) rfl)) (te (aJ gX rfl rfl rfl rfl (cO _ _ _) (tv (bF rfl) (aF (Tr.keep (env' := [(1, _), (26, _), (27, _), (28, _), (61, _)]) ⟨rfl, rfl, rfl, rfl, rfl, trivial⟩ ?_))))))
 refine aB (aR rfl (aO (cX (cX (aB ?_)))))
 refine aA (tv (cC rfl rfl (by omega)) (tv (aC rfl) (aF (Tr.keep (env' := [(1, _), (26, _), (27, _), (28, _)]) ⟨rfl, rfl, rfl, rfl, trivial⟩ (aB ?_)))))
 refine cR (aE (aA (tv (dI rfl rfl) (aF (Tr.keep (env' := [(1, _), (26, _), (27, _), (28, _), (29, _)]) ⟨rfl, rfl, rfl, rfl, rfl, trivial⟩ ?_)))))
 refine aB (aE (bI rfl (aO (aB (aE ?_)))))
 refine aX (aE (aA (tv (aC rfl) (tv (dE (j := 1) Tryz.underlying28 eT rfl rfl rfl (by decide)) (tv (aY qK rfl (bL (n := 4) (vs := [_, _, _, _]) (.tail _ (.tail _ h.items)) rfl) rfl) ?_)))))
 refine te (bO pH (l := [.int .i64 0, .int .i64 0, .int .i64 0, .bool false]) rfl rfl fun b4 => (tv (aD rfl) (te (bJ eT rfl rfl (vs := [_, _, _, _]) rfl rfl (by simp [Value.oneCell']) (.cons .zero (.cons (.succ .zero) (.cons (.succ (.succ .zero)) (.cons (.succ (.succ (.succ .zero))) .nil)))) .here (aF (Tr.keep (env' := [(1, _), (3, _), (4, _), (26, _), (27, _), (28, _)]) ⟨rfl, rfl, rfl, rfl, rfl, rfl, trivial⟩ (aB ?_)))))))
 refine aE (aE (cI cK rfl (dv 0 rfl (.refl _) (aC rfl) (dv 1 rfl (.refl _) (fC rfl rfl) (dv 2 rfl (.refl _) (aC rfl) ?_)))))
 refine eI 3 rfl (.refl _) rfl rfl (aI eC rfl) (eI 4 rfl (.refl _) rfl rfl (aG bB rfl (aK (.head _) rfl)) (eI 5 rfl (.refl _) rfl rfl (aI cQ rfl) (eI 6 rfl (.refl _) rfl rfl (aG eJ rfl (aK (.tail _ (.tail _ (.head _))) rfl)) (eI 7 rfl (.refl _) rfl rfl (aC rfl) (eI 8 rfl (.refl _) rfl rfl (cP rfl rfl (by omega)) ?_)))))
 refine eI 9 rfl (.refl _) rfl rfl (dE (j := 0) Tryz.underlying28 eT rfl rfl rfl (by decide)) (eI 10 rfl (.refl _) rfl rfl (aI eC rfl) (eI 11 rfl (.refl _) rfl rfl (aG bB rfl (aK (.tail _ (.tail _ (.tail _ h.items))) rfl)) (eI 12 rfl (.refl _) rfl rfl (cP rfl rfl (by omega)) (jU 13 rfl (by kernel_rfl) rfl rfl (aJ gX rfl rfl rfl rfl (cO _ _ _) (aU (.refl _) ?_))))))
 refine eI 14 rfl (.refl _) rfl rfl (bF rfl) (dv 15 rfl (.refl _) (cG rfl rfl) (dv 16 rfl (.refl _) (aC rfl) (eI 17 rfl (.refl _) rfl rfl (aI eC rfl) (eI 18 rfl (.refl _) rfl rfl (aG bB rfl (aK (.head _) rfl)) (eI 19 rfl (.refl _) rfl rfl (fI rfl rfl) ?_)))))
 refine dv 20 rfl (.refl _) (bS rfl rfl) (bQ (by kernel_rfl) (Tr.keep (env' := [(1, _), (4, _), (26, _), (27, _), (28, _), (53, _)]) ⟨rfl, rfl, rfl, rfl, rfl, rfl, trivial⟩ (aB (aR rfl (aO ?_)))))
 refine aB (aE (aA (tv (aI gC rfl) (tv (aG jR rfl (aK (.head _) rfl)) (aF ?_)))))
 refine Tr.keep (env' := [(1, _), (4, _), (26, _), (27, _), (28, _), (55, _)]) ⟨rfl, rfl, rfl, rfl, rfl, rfl, trivial⟩ (aB (aX (aE (aA (tv (cW rfl rfl) ?_)))))
 refine tv (aD rfl) (aF (Tr.keep (env' := [(1, _), (4, _), (26, _), (27, _), (28, _), (55, _), (56, _)]) ⟨rfl, rfl, rfl, rfl, rfl, rfl, rfl, trivial⟩ (aB (aR rfl (aE ?_)))))
 refine aA (tv (cW rfl rfl) (tv (aD rfl) (aF (Tr.keep (env' := [(1, _), (4, _), (26, _), (27, _), (28, _), (62, _)]) ⟨rfl, rfl, rfl, rfl, rfl, rfl, trivial⟩ (aB ?_)))))
 refine bI rfl (aE (aA (tv (aI lX rfl) (tv (aG bB rfl (aK (.head _) rfl)) (tv (eF rfl rfl) ?_)))))
 refine tv (aC rfl) (cV rfl rfl (aI wE rfl) (cV rfl rfl (aG pK rfl (aK (.head _) rfl)) (tv (bS rfl rfl) (aF (Tr.keep (env' := [(1, _), (26, _), (27, _), (28, _), (70, _)]) ⟨rfl, rfl, rfl, rfl, rfl, trivial⟩ ?_)))))
 refine aB (aR rfl (aO (cX (cX (aB ?_)))))
 refine aA (tv (cC rfl rfl (by omega)) (tv (aC rfl) (aF (Tr.keep (env' := [(1, _), (26, _), (27, _), (28, _)]) ⟨rfl, rfl, rfl, rfl, trivial⟩ (aB ?_)))))
 refine cR (aE (aA (tv (dI rfl rfl) (aF (Tr.keep (env' := [(1, _), (26, _), (27, _), (28, _), (29, _)]) ⟨rfl, rfl, rfl, rfl, rfl, trivial⟩ ?_)))))
 refine aB (aE (bI rfl (aO (aB (aE ?_)))))
 refine aX (aE (aA (tv (aC rfl) (tv (dE (j := 2) Tryz.underlying28 eT rfl rfl rfl (by decide)) (tv (aY qK rfl (bL (n := 4) (vs := [_, _, _, _]) (.tail _ (.tail _ (.tail _ h.items))) rfl) rfl) ?_)))))
 refine te (bO pH (l := [.int .i64 0, .int .i64 0, .int .i64 0, .bool false]) rfl rfl fun b4 => (tv (aD rfl) (te (bJ eT rfl rfl (vs := [_, _, _, _]) rfl rfl (by simp [Value.oneCell']) (.cons .zero (.cons (.succ .zero) (.cons (.succ (.succ .zero)) (.cons (.succ (.succ (.succ .zero))) .nil)))) .here (aF (Tr.keep (env' := [(1, _), (3, _), (4, _), (26, _), (27, _), (28, _)]) ⟨rfl, rfl, rfl, rfl, rfl, rfl, trivial⟩ (aB ?_)))))))
 refine aE (aE (cI cK rfl (dv 0 rfl (.refl _) (aC rfl) (dv 1 rfl (.refl _) (fC rfl rfl) (dv 2 rfl (.refl _) (aC rfl) ?_)))))
 refine eI 3 rfl (.refl _) rfl rfl (aI eC rfl) (eI 4 rfl (.refl _) rfl rfl (aG bB rfl (aK (.head _) rfl)) (eI 5 rfl (.refl _) rfl rfl (aI cQ rfl) (eI 6 rfl (.refl _) rfl rfl (aG eJ rfl (aK (.tail _ (.tail _ (.tail _ (.head _)))) rfl)) (eI 7 rfl (.refl _) rfl rfl (aC rfl) (eI 8 rfl (.refl _) rfl rfl (cP rfl rfl (by omega)) ?_)))))
 refine eI 9 rfl (.refl _) rfl rfl (dE (j := 1) Tryz.underlying28 eT rfl rfl rfl (by decide)) (eI 10 rfl (.refl _) rfl rfl (aI eC rfl) (eI 11 rfl (.refl _) rfl rfl (aG bB rfl (aK (.tail _ (.tail _ (.tail _ (.tail _ h.items)))) rfl)) (eI 12 rfl (.refl _) rfl rfl (cP rfl rfl (by omega)) (jU 13 rfl (by kernel_rfl) rfl rfl (aJ gX rfl rfl rfl rfl (cO _ _ _) (aU (.refl _) ?_))))))
 refine eI 14 rfl (.refl _) rfl rfl (bF rfl) (dv 15 rfl (.refl _) (cG rfl rfl) (dv 16 rfl (.refl _) (aC rfl) (eI 17 rfl (.refl _) rfl rfl (aI eC rfl) (eI 18 rfl (.refl _) rfl rfl (aG bB rfl (aK (.head _) rfl)) (eI 19 rfl (.refl _) rfl rfl (fI rfl rfl) ?_)))))
 refine dv 20 rfl (.refl _) (bS rfl rfl) (bQ (by kernel_rfl) (Tr.keep (env' := [(1, _), (4, _), (26, _), (27, _), (28, _), (53, _)]) ⟨rfl, rfl, rfl, rfl, rfl, rfl, trivial⟩ (aB (aR rfl (aO ?_)))))
 refine aB (aE (aA (tv (aI gC rfl) (tv (aG jR rfl (aK (.head _) rfl)) (aF ?_)))))
 refine Tr.keep (env' := [(1, _), (4, _), (26, _), (27, _), (28, _), (55, _)]) ⟨rfl, rfl, rfl, rfl, rfl, rfl, trivial⟩ (aB (aX (aE (aA (tv (cW rfl rfl) ?_)))))
 refine tv (aD rfl) (aF (Tr.keep (env' := [(1, _), (4, _), (26, _), (27, _), (28, _), (55, _), (56, _)]) ⟨rfl, rfl, rfl, rfl, rfl, rfl, rfl, trivial⟩ (aB (bI rfl (aE ?_)))))
 refine aA (tv (aI lX rfl) (tv (aG bB rfl (aK (.head _) rfl)) (te (aJ gX rfl rfl rfl rfl (cO _ _ _) (tv (bF rfl) (aF ?_))))))
 refine Tr.keep (env' := [(1, _), (26, _), (27, _), (28, _), (61, _)]) ⟨rfl, rfl, rfl, rfl, rfl, trivial⟩ (aB (aR rfl (aO (cX (cX ?_)))))
 refine aB (aA (tv (cC rfl rfl (by omega)) (tv (aC rfl) (aF (Tr.keep (env' := [(1, _), (26, _), (27, _), (28, _)]) ⟨rfl, rfl, rfl, rfl, trivial⟩ ?_)))))
 refine aB (cR (aE (aA (tv (dI rfl rfl) (aF ?_)))))
 refine Tr.keep (env' := [(1, _), (26, _), (27, _), (28, _), (29, _)]) ⟨rfl, rfl, rfl, rfl, rfl, trivial⟩ (aB (aE (aR rfl (cY (aS ?_)))))
 refine aS (bX (aB (aE (aA (tv (aI mK rfl) ?_)))))
 refine tv (aY bD9 rfl (bL (n := 12) (vs := [_, _, _, _, _, _, _, _, _, _, _, _]) (.tail _ (.tail _ (.tail _ (.head _)))) rfl) rfl) (te (bO aP3 (l := [.int .i64 0, .int .i64 0, .int .i64 0, .int .i64 0, .slice none 0 0, .bool false, .int .i64 0, .int .i64 0, .int .i64 0, .int .i64 0, .slice none 0 0, .slice none 0 0]) rfl rfl fun b5 => (te (bJ bE0 rfl rfl (vs := [_, _, _, _, _, _, _, _, _, _, _, _]) rfl rfl (by simp [Value.oneCell']) (.cons .zero (.cons (.succ .zero) (.cons (.succ (.succ .zero)) (.cons (.succ (.succ (.succ .zero))) (.cons (.succ (.succ (.succ (.succ .zero)))) (.cons (.succ (.succ (.succ (.succ (.succ .zero))))) (.cons (.succ (.succ (.succ (.succ (.succ (.succ .zero)))))) (.cons (.succ (.succ (.succ (.succ (.succ (.succ (.succ .zero))))))) (.cons (.succ (.succ (.succ (.succ (.succ (.succ (.succ (.succ .zero)))))))) (.cons (.succ (.succ (.succ (.succ (.succ (.succ (.succ (.succ (.succ .zero))))))))) (.cons (.succ (.succ (.succ (.succ (.succ (.succ (.succ (.succ (.succ (.succ .zero)))))))))) (.cons (.succ (.succ (.succ (.succ (.succ (.succ (.succ (.succ (.succ (.succ (.succ .zero))))))))))) .nil)))))))))))) .here (aF (Tr.keep (env' := [(1, _), (5, _)]) ⟨rfl, rfl, trivial⟩ (aB ?_)))))))
 refine aE (aE (aA (tv (aI aC8 rfl) (tv (aG bB rfl (aK (.head _) rfl)) (tv (aI aC9 rfl) ?_)))))
 refine tv (aG bB rfl (aK (.head _) rfl)) (tv (aI aD2 rfl) (tv (aG bB rfl (aK (.head _) rfl)) (te (bN (E := 3) (l := bT ([10000, 60000, 0].map encI)) rfl (fun w => by kernel_rfl) rfl fun b80 => (te (aJ mC rfl rfl rfl rfl (jS (xs := [10000, 60000, 0]) (SlRd.of_list encI mZ (xs := [10000, 60000, 0]) (.head _) rfl (by decide)) _ _ _) (tv (bF rfl) ?_)))))))
 refine tv (aC rfl) (cV rfl rfl (aI aD0 rfl) (cV rfl rfl (aG bB rfl (aK (.tail _ (.head _)) rfl)) (cV rfl rfl (aI aD1 rfl) (cV rfl rfl (aG bB rfl (aK (.tail _ (.head _)) rfl)) (gB rfl rfl (bN (E := 3) (l := bT ([15, 30].map encI)) rfl (fun w => by kernel_rfl) rfl fun b88 => ?_))))))
 refine gB rfl rfl (aJ mC rfl rfl rfl rfl (jS (xs := [15, 30]) (SlRd.of_list encI mZ (xs := [15, 30]) (.head _) rfl (by decide)) _ _ _) (cV rfl rfl (bF rfl) (tv (bS rfl rfl) (tv (aC rfl) (cV rfl rfl (aI mJ rfl) (cV rfl rfl (aG dQ rfl (aK (.tail _ (.tail _ (.head _))) rfl)) ?_))))))
 refine gB rfl rfl (aJ mC rfl rfl rfl rfl (jS (xs := [10000, 60000]) (SlRd.of_cel (T := 3) (xs := [10000, 60000].map encI) (sp := a.jumps.sp) (.tail _ (.tail _ (.tail _ (.tail _ (.tail _ (.tail _ (.tail _ h.jumps))))))) rfl (by simp [encI]) (by decide)) _ _ _) (cV rfl rfl (bF rfl) (tv (bS rfl rfl) (aF (Tr.keep (env' := [(1, _), (5, _), (97, _)]) ⟨rfl, rfl, rfl, trivial⟩ (aB ?_))))))
 refine aR rfl (aO (aB (aE (aE (aA ?_)))))
 refine tv (aI pC rfl) (tv (aG zT rfl (aK (.tail _ (.tail _ (.head _))) rfl)) (tv (dI rfl rfl) (tv (aC rfl) (cV rfl rfl (aI pC rfl) (cV rfl rfl (aG zT rfl (aK (.tail _ (.tail _ (.head _))) rfl)) ?_)))))
 refine cV rfl rfl (fC rfl rfl) (tv (bS rfl rfl) (tv (aC rfl) (cV rfl rfl (aI aD3 rfl) (cV rfl rfl (aG bB rfl (aK (.tail _ (.tail _ (.head _))) rfl)) (gB rfl rfl (aJ gX rfl rfl rfl rfl (cO _ _ _) ?_))))))
 refine cV rfl rfl (bF rfl) (tv (bS rfl rfl) (tv (aC rfl) (cV rfl rfl (aI kQ rfl) (cV rfl rfl (aG dQ rfl (aK (.tail _ (.tail _ (.head _))) rfl)) (gB rfl rfl (aJ mC rfl rfl rfl rfl (jS (xs := [10, 6]) (SlRd.of_cel (T := 3) (xs := [10, 6].map encI) (sp := a.points.sp) (.tail _ (.tail _ (.tail _ (.tail _ (.tail _ (.tail _ (.tail _ h.points))))))) rfl (by simp [encI]) (by decide)) _ _ _) ?_))))))
 refine cV rfl rfl (bF rfl) (tv (bS rfl rfl) (tv (aC rfl) (cV rfl rfl (aI kR rfl) (cV rfl rfl (aG dQ rfl (aK (.tail _ (.tail _ (.head _))) rfl)) (gB rfl rfl (aJ mC rfl rfl rfl rfl (jS (xs := [3]) (SlRd.of_cel (T := 3) (xs := [3].map encI) (sp := a.extra.sp) (.tail _ (.tail _ (.tail _ (.tail _ (.tail _ (.tail _ (.tail _ h.extra))))))) rfl (by simp [encI]) (by decide)) _ _ _) ?_))))))
 refine cV rfl rfl (bF rfl) (tv (bS rfl rfl) (aF (Tr.keep (env' := [(1, _), (5, _), (123, _)]) ⟨rfl, rfl, rfl, trivial⟩ (aB (aR rfl ?_)))))
 refine aO (aB (aE (aE (aA (tv (aI lI rfl) ?_)))))
 refine tv (aG bB rfl (aK (.tail _ (.tail _ (.head _))) rfl)) (tv (aI cQ rfl) (tv (aG eJ rfl (aK (.tail _ (.tail _ (.tail _ (.tail _ (.tail _ (.tail _ (.head _))))))) rfl)) (tv (aP Tryz.underlying28 rfl) (tv (cP rfl rfl (by omega)) (te (aJ gX rfl rfl rfl rfl (cO _ _ _) ?_))))))
 refine tv (bF rfl) (tv (aC rfl) (cV rfl rfl (aI lI rfl) (cV rfl rfl (aG bB rfl (aK (.tail _ (.tail _ (.head _))) rfl)) (cV rfl rfl (fI rfl rfl) (cV rfl rfl (aC rfl) ?_)))))
 refine cV rfl rfl (aI cQ rfl) (cV rfl rfl (aG eJ rfl (aK (.tail _ (.tail _ (.tail _ (.tail _ (.tail _ (.tail _ (.head _))))))) rfl)) (cV rfl rfl (aI lI rfl) (cV rfl rfl (aG bB rfl (aK (.tail _ (.tail _ (.head _))) rfl)) (cV rfl rfl (dE (j := 1) Tryz.underlying28 eT rfl rfl rfl (by decide)) (cV rfl rfl (aI gC rfl) ?_)))))
 refine cV rfl rfl (aG jR rfl (aK (.tail _ (.tail _ (.tail _ (.tail _ (.tail _ (.tail _ (.tail _ h.items))))))) rfl)) (cV rfl rfl (eF rfl rfl) (cV rfl rfl (cG rfl rfl) (tv (bS rfl rfl) (aF (Tr.keep (env' := [(146, _)]) ⟨rfl, trivial⟩ ?_)))))
 refine aB (aR rfl (aO (aB (aE (aA ?_)))))
 refine tv (aD rfl) (aF (Tr.keep (env' := [(2, _)]) ⟨rfl, trivial⟩ (aB (aQ (aW rfl rfl (fun w hw => ?_))))))
 exact ⟨rfl, Ok.sub hw (.cons _ (.cons _ (.cons _ (.cons _ (.cons _ (.cons _ (.cons _ (.refl _))))))))⟩
end
end Go.Proofs.W
set_option linter.unusedVariables false
set_option linter.unusedSimpArgs false
set_option linter.unusedSectionVars false
set_option maxRecDepth 100000
namespace Go.Proofs.W
open Go Go.Sl Go.RowKit Go.Proofs
attribute [local irreducible] Go.Sl.Eff
theorem aD4 : bY Tryz.prog 201 = some (some 4) := by kernel_rfl
theorem lC : bY Tryz.prog 34 = some (none) := by kernel_rfl
theorem rQ : bY Tryz.prog 36 = some (some 6) := by kernel_rfl
theorem iB : aV Tryz.prog 120 := aL Tryz.func120 (by kernel_rfl) (by kernel_rfl)
theorem zU : aV Tryz.prog 25 := aL Tryz.func25 (by kernel_rfl) (by kernel_rfl)
theorem aK3 : aV Tryz.prog 35 := aL Tryz.func35 (by kernel_rfl) (by kernel_rfl)
theorem aV3 : aV Tryz.prog 53 := aL Tryz.func53 (by kernel_rfl) (by kernel_rfl)
theorem en_54 : aV Tryz.prog 54 := aL Tryz.func54 (by kernel_rfl) (by kernel_rfl)
theorem en_55 : aV Tryz.prog 55 := aL Tryz.func55 (by kernel_rfl) (by kernel_rfl)
theorem jO : bC Tryz.prog 201 0 = some 0 := by kernel_rfl
theorem lY : bC Tryz.prog 201 1 = some 1 := by kernel_rfl
theorem wF : bC Tryz.prog 201 2 = some 2 := by kernel_rfl
theorem mX : bC Tryz.prog 201 3 = some 3 := by kernel_rfl
theorem pD : bC Tryz.prog 36 0 = some 0 := by kernel_rfl
theorem fJ : bC Tryz.prog 36 1 = some 1 := by kernel_rfl
theorem aD5 : bC Tryz.prog 36 2 = some 2 := by kernel_rfl
theorem aD6 : bC Tryz.prog 36 3 = some 3 := by kernel_rfl
theorem aD7 : bC Tryz.prog 36 4 = some 4 := by kernel_rfl
theorem aD8 : bC Tryz.prog 36 5 = some 5 := by kernel_rfl
theorem iD : bC Tryz.prog 38 0 = some 0 := by kernel_rfl
theorem eG : bC Tryz.prog 38 1 = some 6 := by kernel_rfl
theorem iZ : bC Tryz.prog 38 2 = some 9 := by kernel_rfl
theorem eA : bC Tryz.prog 38 3 = some 10 := by kernel_rfl
theorem iM : bC Tryz.prog 38 4 = some 24 := by kernel_rfl
theorem lZ : (Tryz.prog.info? 201).map (·.size) = some 4 := by kernel_rfl
def vF : List Value → SItem
 | [.int _ a, .int _ b, .int _ c, .bool d] => ⟨a, b, c, d⟩
 | _ => ⟨0, 0, 0, false⟩
@[simp] theorem decItem_cells (s : SItem) : vF s.cells = s := rfl
abbrev vG : List SItem := [⟨1, 0, 30, false⟩, ⟨2, 0, 0, false⟩, ⟨1, 0, 60, false⟩]
abbrev nM : GPlan := ⟨2, 60, 1, 0, 600, 1⟩
abbrev wG : List Src := [⟨1, 0⟩]
abbrev aV4 : WLog := ⟨1, 2, [1000], wG, []⟩
section
variable {w0 : World} {M : List Ent}
theorem SAt.In.rItems {a : SAt} (h : a.In M) : SlRd w0 M 4 (some ⟨a.items.b, 0, none⟩) 3 (vG.map SItem.cells) :=
 SlRd.of_cel (T := 104) (sp := a.items.sp) h.items rfl (by simp [aR1]) (by decide)
theorem SAt.In.rLeast {a : SAt} (h : a.In M) : SlRd w0 M 1 (some ⟨a.least.b, 0, none⟩) 1 (([1000] : List Int).map encI) :=
 SlRd.of_cel (T := 3) (sp := a.least.sp) h.least rfl (by simp [encI]) (by decide)
theorem SAt.In.rSrcs {a : SAt} (h : a.In M) : SlRd w0 M 2 (some ⟨a.srcs.b, 0, none⟩) 1 (wG.map Src.cells) :=
 SlRd.of_cel (T := 82) (sp := a.srcs.sp) h.srcs rfl (by simp [aZ3]) (by decide)
theorem pN {a : SAt} (h : a.In M) : ∀ w, Ok w0 M w → Calls Tryz.prog 53 #[.agg a.code.toArray] w (fun e w' => e = .returned (.int .i64 0) ∧ Ok w0 M w') := by
 refine enter (vs := [_]) Tryz.func53 rfl Tryz.ntmps53 rfl (aE (aA (te (cH rfl rfl fun b1 => (tv (aD rfl) (aF ?_))))))
 refine Tr.keep (env' := [(1, _)]) ⟨rfl, trivial⟩ (aB (aE (aE (aA (tv (aI pD rfl) ?_)))))
 refine tv (aG bB rfl (aK (.head _) rfl)) (te (aJ iB rfl rfl rfl rfl (cN _ _ _) (tv (bF rfl) (tv (aC rfl) (cV rfl rfl (aI fJ rfl) (cV rfl rfl (aG lC rfl (aK (.head _) rfl)) ?_))))))
 refine cV rfl rfl (aP Tryz.underlying34 rfl) (gB rfl rfl (aJ iB rfl rfl rfl rfl (cN _ _ _) (cV rfl rfl (bF rfl) (tv (bS rfl rfl) (tv (aC rfl) (cV rfl rfl (aI aD5 rfl) ?_))))))
 refine cV rfl rfl (aG bB rfl (aK (.head _) rfl)) (gB rfl rfl (aJ iB rfl rfl rfl rfl (cN _ _ _) (cV rfl rfl (bF rfl) (tv (bS rfl rfl) (tv (aC rfl) (cV rfl rfl (aI aD6 rfl) ?_))))))
 refine cV rfl rfl (aG bB rfl (aK (.head _) rfl)) (gB rfl rfl (aJ iB rfl rfl rfl rfl (cN _ _ _) (cV rfl rfl (bF rfl) (tv (bS rfl rfl) (tv (aC rfl) (cV rfl rfl (aI aD7 rfl) ?_))))))
 refine cV rfl rfl (aG bB rfl (aK (.head _) rfl)) (gB rfl rfl (aJ iB rfl rfl rfl rfl (cN _ _ _) (cV rfl rfl (bF rfl) (tv (bS rfl rfl) (tv (aC rfl) (cV rfl rfl (aI aD8 rfl) ?_))))))
 refine cV rfl rfl (aG bB rfl (aK (.head _) rfl)) (gB rfl rfl (aJ iB rfl rfl rfl rfl (cN _ _ _) (cV rfl rfl (bF rfl) (tv (bS rfl rfl) (aF (Tr.keep (env' := [(1, _), (40, _)]) ⟨rfl, rfl, trivial⟩ ?_))))))
 refine aB (aR rfl (aO (aB (aE (aE ?_)))))
 refine aA (tv (aI fJ rfl) (tv (aG lC rfl (aK (.head _) rfl)) (tv (aP Tryz.underlying34 rfl) (tv (aC rfl) (aF ?_)))))
 refine Tr.keep (env' := [(1, _), (42, _), (43, _), (44, _)]) ⟨rfl, rfl, rfl, rfl, trivial⟩ (aB (aX (eN (cR (aE ?_)))))
 refine aA (tv (dI rfl rfl) (aF (Tr.keep (env' := [(1, _), (42, _), (43, _), (44, _), (45, _)]) ⟨rfl, rfl, rfl, rfl, rfl, trivial⟩ (aB (aE ?_)))))
 refine bI rfl (aO (aB (aE (aX (aE ?_)))))
 refine aA (tv (aC rfl) (tv (dE (j := 0) Tryz.underlying34 lZ rfl rfl rfl (by decide)) (tv (aY aD4 rfl (bL (n := 4) (vs := [_, _, _, _]) (.tail _ h.arts) rfl) rfl) (te (bO sJ (l := [.int .i64 0, .int .i64 0, .int .i64 0, .int .i64 0]) rfl rfl fun b4 => (tv (aD rfl) ?_))))))
 refine te (bJ lZ rfl rfl (vs := [_, _, _, _]) rfl rfl (by simp [Value.oneCell']) (.cons .zero (.cons (.succ .zero) (.cons (.succ (.succ .zero)) (.cons (.succ (.succ (.succ .zero))) .nil)))) .here (aF (Tr.keep (env' := [(1, _), (3, _), (4, _), (42, _), (43, _), (44, _)]) ⟨rfl, rfl, rfl, rfl, rfl, rfl, trivial⟩ (aB (aE (aE ?_))))))
 refine aA (tv (aI jO rfl) (tv (aG bB rfl (aK (.head _) rfl)) (te (aJ iB rfl rfl rfl rfl (cN _ _ _) (tv (bF rfl) (tv (aC rfl) ?_))))))
 refine cV rfl rfl (aI lY rfl) (cV rfl rfl (aG bB rfl (aK (.head _) rfl)) (gB rfl rfl (aJ iB rfl rfl rfl rfl (cN _ _ _) (cV rfl rfl (bF rfl) (tv (bS rfl rfl) (tv (aC rfl) ?_))))))
 refine cV rfl rfl (aI wF rfl) (cV rfl rfl (aG bB rfl (aK (.head _) rfl)) (cV rfl rfl (aI mX rfl) (cV rfl rfl (aG bB rfl (aK (.head _) rfl)) (gB rfl rfl (aJ iB rfl rfl rfl rfl (cN _ _ _) (cV rfl rfl (bF rfl) ?_))))))
 refine tv (bS rfl rfl) (tv (aC rfl) (cV rfl rfl (aI mX rfl) (cV rfl rfl (aG bB rfl (aK (.head _) rfl)) (cV rfl rfl (fC rfl rfl) (tv (bS rfl rfl) ?_)))))
 refine aF (Tr.keep (env' := [(1, _), (3, _), (4, _), (42, _), (43, _), (44, _), (71, _)]) ⟨rfl, rfl, rfl, rfl, rfl, rfl, rfl, trivial⟩ (aB (aR rfl (aO (aB ?_)))))
 refine aE (aA (tv (aC rfl) (tv (fC rfl rfl) (aF (Tr.keep (env' := [(1, _), (3, _), (4, _), (42, _), (43, _), (44, _), (73, _)]) ⟨rfl, rfl, rfl, rfl, rfl, rfl, rfl, trivial⟩ ?_)))))
 refine aB (aR rfl (aO (cX (aB (aA ?_)))))
 refine tv (cC rfl rfl (by omega)) (tv (aC rfl) (aF (Tr.keep (env' := [(1, _), (42, _), (43, _), (44, _)]) ⟨rfl, rfl, rfl, rfl, trivial⟩ (aB (cR ?_)))))
 refine aE (aA (tv (dI rfl rfl) (aF (Tr.keep (env' := [(1, _), (42, _), (43, _), (44, _), (45, _)]) ⟨rfl, rfl, rfl, rfl, rfl, trivial⟩ (aB ?_)))))
 refine aE (aR rfl (cY (aS (aS (bX ?_)))))
 refine aB (aE (aA (tv (aD rfl) (aF (Tr.keep (env' := [(2, _)]) ⟨rfl, trivial⟩ ?_)))))
 refine aB (aQ (aW rfl rfl (fun w hw => ?_)))
 exact ⟨rfl, Ok.sub hw (.cons _ (.cons _ (.refl _)))⟩
theorem aK4 (x : SItem) : ∀ w, Ok w0 M w → Calls Tryz.prog 54 #[.agg x.cells.toArray] w (fun e w' => e = .returned (.bool (x.kind == 2)) ∧ Ok w0 M w') := by
 refine enter (vs := [_]) Tryz.func54 rfl Tryz.ntmps54 rfl (aE (aA (te (cH rfl rfl fun b1 => (tv (aD rfl) (aF ?_))))))
 refine Tr.keep (env' := [(1, _)]) ⟨rfl, trivial⟩ (aB (aE (aA (tv (aI gC rfl) (tv (aG jR rfl (aK (.head _) rfl)) ?_)))))
 refine tv (cW rfl rfl) (tv (aD rfl) (aF (Tr.keep (env' := [(2, _)]) ⟨rfl, trivial⟩ (aB (aQ ?_)))))
 refine aW rfl rfl (fun w hw => ?_)
 exact ⟨rfl, Ok.sub hw (List.sublist_cons_self _ _)⟩
theorem aD9 {a : SAt} (h : a.In M) : ∀ w, Ok w0 M w → Calls Tryz.prog 15 #[.agg a.setup.toArray] w (fun e w' => e = .returned (.int .i64 0) ∧ Ok w0 M w') := by
 refine enter (vs := [_]) Tryz.func15 rfl Tryz.ntmps15 rfl (aE (aA (te (cH rfl rfl fun b1 => (tv (aD rfl) (aF ?_))))))
 refine Tr.keep (env' := [(1, _)]) ⟨rfl, trivial⟩ (aB (aE (aE (aA (tv (aI iD rfl) ?_)))))
 refine tv (aY pQ rfl (bL (n := 6) (vs := [_, _, _, _, _, _]) (.head _) rfl) rfl) (te (bP zU rfl rfl rfl rfl (iX (p := nM) (by decide)) fun gl _ => (tv (aC rfl) (tv (bA rfl rfl) (tv (bA rfl rfl) (tv (aD rfl) ?_))))))
 refine tv (aD rfl) (aF (Tr.keep (env' := [(1, _), (4, _)]) ⟨rfl, rfl, trivial⟩ (aB (aE (aA ?_)))))
 refine tv (aC rfl) (tv (eF rfl rfl) (aF (Tr.keep (env' := [(1, _), (15, _)]) ⟨rfl, rfl, trivial⟩ (aB (aR rfl ?_)))))
 refine aO (aB (aE (aE (aA (tv (aI eG rfl) ?_)))))
 refine tv (aY sG rfl (bL (n := 3) (vs := [_, _, _]) (.tail _ (.tail _ (.tail _ (.tail _ (.head _))))) rfl) rfl) (tv (aI iZ rfl) (tv (aG oO rfl (aK (.tail _ (.tail _ (.tail _ (.tail _ (.head _))))) rfl)) (te (bP aK3 rfl rfl rfl rfl (lL (least := [1000]) (srcs := wG) (h.sub (.cons _ (.cons _ (.cons _ (.cons _ (.cons _ (.refl _))))))).rLeast (h.sub (.cons _ (.cons _ (.cons _ (.cons _ (.cons _ (.refl _))))))).rSrcs (by decide) (by intro h; cases h) (by intro h; cases h) (by decide) (by decide)) fun wl hwl => (tv (aC rfl) (tv (bA rfl rfl) ?_))))))
 refine tv (bA rfl rfl) (tv (aD rfl) (tv (aD rfl) (aF (Tr.keep (env' := [(1, _), (6, _)]) ⟨rfl, rfl, trivial⟩ (aB ?_)))))
 refine aE (aA (tv (aC rfl) (tv (eF rfl rfl) (aF (Tr.keep (env' := [(1, _), (25, _)]) ⟨rfl, rfl, trivial⟩ ?_)))))
 refine aB (aR rfl (aO (aB (aE (aE ?_)))))
 refine aA (tv (aI eA rfl) (tv (aY uL rfl (bL (n := 14) (vs := [_, _, _, _, _, _, _, _, _, _, _, _, _, _]) (.tail _ (.tail _ (List.mem_append_right _ (List.mem_append_right _ (.tail _ (.tail _ (.tail _ (.tail _ (.head _))))))))) rfl) rfl) (te (aJ bG9 rfl rfl rfl rfl (rP (h.sub (.cons _ (.cons _ (List.Sublist.trans (List.Sublist.trans (.cons _ (.cons _ (.cons _ (.cons _ (.cons _ (.refl _)))))) (List.sublist_append_right _ _)) (List.sublist_append_right _ _)))))) (tv (eF rfl rfl) (tv (aC rfl) ?_))))))
 refine cV rfl rfl (aI iM rfl) (cV rfl rfl (aY rQ rfl (bL (n := 6) (vs := [_, _, _, _, _, _]) (.tail _ (.tail _ (List.mem_append_right _ (List.mem_append_right _ (.tail _ (.tail _ (.tail _ (.tail _ (.head _))))))))) rfl) rfl) (gB rfl rfl (aJ aV3 rfl rfl rfl rfl (pN (h.sub (.cons _ (.cons _ (List.Sublist.trans (List.Sublist.trans (.cons _ (.cons _ (.cons _ (.cons _ (.cons _ (.refl _)))))) (List.sublist_append_right _ _)) (List.sublist_append_right _ _)))))) (cV rfl rfl (eF rfl rfl) (tv (bS rfl rfl) (aF ?_))))))
 refine Tr.keep (env' := [(1, _), (35, _)]) ⟨rfl, rfl, trivial⟩ (aB (aR rfl (aO (aB (aE ?_)))))
 refine aA (tv (aD rfl) (aF (Tr.keep (env' := [(1, _), (7, _)]) ⟨rfl, rfl, trivial⟩ (aB (aE ?_)))))
 refine aE (aA (tv (aI iD rfl) (tv (aI jK rfl) (tv (aG bB rfl (aK (.tail _ (.tail _ (List.mem_append_right _ (List.mem_append_right _ (.tail _ (.tail _ (.tail _ (.tail _ (.head _))))))))) rfl)) (tv (aI eG rfl) ?_)))))
 refine tv (aI gM rfl) (tv (aG bB rfl (aK (.tail _ (.tail _ (List.mem_append_right _ (List.mem_append_right _ (.tail _ (.tail _ (.tail _ (.tail _ (.head _))))))))) rfl)) (tv (eF rfl rfl) (tv (aC rfl) (cV rfl rfl (aI iM rfl) (cV rfl rfl (aI pD rfl) ?_)))))
 refine cV rfl rfl (aG bB rfl (aK (.tail _ (.tail _ (List.mem_append_right _ (List.mem_append_right _ (.tail _ (.tail _ (.tail _ (.tail _ (.head _))))))))) rfl)) (cV rfl rfl (aI eG rfl) (cV rfl rfl (aI gM rfl) (cV rfl rfl (aG bB rfl (aK (.tail _ (.tail _ (List.mem_append_right _ (List.mem_append_right _ (.tail _ (.tail _ (.tail _ (.tail _ (.head _))))))))) rfl)) (cV rfl rfl (eF rfl rfl) (tv (bS rfl rfl) ?_)))))
 refine tv (aC rfl) (cV rfl rfl (aI iD rfl) (cV rfl rfl (aI iL rfl) (cV rfl rfl (aG bB rfl (aK (.tail _ (.tail _ (List.mem_append_right _ (List.mem_append_right _ (.tail _ (.tail _ (.tail _ (.tail _ (.head _))))))))) rfl)) (cV rfl rfl (aI eG rfl) (cV rfl rfl (aI kM rfl) ?_)))))
 refine cV rfl rfl (aG bB rfl (aK (.tail _ (.tail _ (List.mem_append_right _ (List.mem_append_right _ (.tail _ (.tail _ (.tail _ (.tail _ (.head _))))))))) rfl)) (cV rfl rfl (eF rfl rfl) (tv (bS rfl rfl) (tv (aC rfl) (cV rfl rfl (aI eA rfl) (cV rfl rfl (aI cQ rfl) ?_)))))
 refine cV rfl rfl (aG eJ rfl (aK (.tail _ (.tail _ (List.mem_append_right _ (List.mem_append_right _ (.tail _ (.tail _ (.tail _ (.tail _ (.head _))))))))) rfl)) (cV rfl rfl (aC rfl) ?_)
 refine gB rfl rfl (aJ en_55 rfl rfl rfl rfl (lF (fun y => (vF y).kind == 2) en_54 (h.sub (.cons _ (.cons _ (List.Sublist.trans (List.Sublist.trans (.cons _ (.cons _ (.cons _ (.cons _ (.cons _ (.refl _)))))) (List.sublist_append_right _ _)) (List.sublist_append_right _ _))))).rItems (by
    intro y hy; obtain ⟨x, hx, rfl⟩ := List.mem_map.1 hy
    exact aK4 x)) ?_)
 refine cV rfl rfl (bF rfl) (tv (bS rfl rfl) (aF (Tr.keep (env' := [(68, _)]) ⟨rfl, trivial⟩ (aB (aR rfl ?_)))))
 refine aO (aB (aE (aA (tv (aD rfl) (aF ?_)))))
 refine Tr.keep (env' := [(2, _)]) ⟨rfl, trivial⟩ (aB (aQ (aW rfl rfl (fun w hw => ?_))))
 exact ⟨rfl, Ok.sub hw (.cons _ (.cons _ (List.Sublist.trans (List.Sublist.trans (.cons _ (.cons _ (.cons _ (.cons _ (.cons _ (.refl _)))))) (List.sublist_append_right _ _)) (List.sublist_append_right _ _))))⟩
end
end Go.Proofs.W
set_option linter.unusedVariables false
set_option linter.unusedSimpArgs false
set_option linter.unusedSectionVars false
set_option maxRecDepth 100000
namespace Go.Proofs.W
open Go Go.Sl Go.RowKit Go.Proofs
attribute [local irreducible] Go.Sl.Eff
theorem iH : bY Tryz.prog 38 = some (some 30) := by kernel_rfl
theorem bE1 : aV Tryz.prog 116 := aL Tryz.func116 (by kernel_rfl) (by kernel_rfl)
theorem aE0 : aV Tryz.prog 117 := aL Tryz.func117 (by kernel_rfl) (by kernel_rfl)
theorem aP4 : (Tryz.prog.info? 38).map (fun i => (i.zero, i.size, i.bytes)) = some (some (.agg #[.int .i64 0, .int .i64 0, .int .i64 0, .int .i64 0, .int .i64 0, .int .i64 0, .int .i64 0, .int .i64 0, .slice none 0 0, .slice none 0 0, .slice none 0 0, .int .i64 0, .int .i64 0, .int .i64 0, .int .i64 0, .int .i64 0, .slice none 0 0, .bool false, .int .i64 0, .int .i64 0, .int .i64 0, .int .i64 0, .slice none 0 0, .slice none 0 0, .int .i64 0, .slice none 0 0, .int .i64 0, .int .i64 0, .int .i64 0, .int .i64 0]), 30, 352) := by kernel_rfl
theorem iz_27 : (Tryz.prog.info? 27).map (·.size) = some 1 := by kernel_rfl
theorem iz_28 : (Tryz.prog.info? 28).map (·.size) = some 1 := by kernel_rfl
theorem aV5 : (Tryz.prog.info? 34).map (·.size) = some 1 := by kernel_rfl
theorem bE2 : (Tryz.prog.info? 38).map (·.size) = some 30 := by kernel_rfl
abbrev SAt.ents (a : SAt) : List Ent := [a.eItems, a.eJumps, a.ePoints, a.eExtra, a.eLeast, a.eSrcs, a.eArts]
theorem SAt.in_ents {a : SAt} {X : List Ent} : a.In (a.ents ++ X) := by constructor <;> simp
theorem gA {T : TypeId} {z n : Nat} {v : Value} {xs : List (List Value)} {E : List Ent} (h : Own T z v xs E) (hn : xs.length = n) (h0 : 0 < n) : ∃ s : Sl3, v = s.v n ∧ E = [cel s.b T (bT xs ++ s.sp)] := by
 subst hn
 rcases h.sh with ⟨_, rfl, _⟩ | ⟨b, c, l, rfl, rfl, h2, h3, h4, h5⟩
 ·simp at h0
 ·refine ⟨⟨b, c, l.drop (xs.length * z)⟩, rfl, ?_⟩
  rw [← h5, List.take_append_drop]
abbrev aP5 : List (List Value) := [[.int .i64 1, .int .i64 0, .int .i64 0, .int .i64 1000]]
section
variable {w0 : World} {M : List Ent}
theorem SAt.In.rInts {a : SAt} {s : Sl3} {T : TypeId} {xs : List Int} {n : Nat} (h : cel s.b 3 (bT (xs.map encI) ++ s.sp) ∈ M) (hn : xs.length = n) (hb : n ≤ 100) : SlRd w0 M 1 (some ⟨s.b, 0, none⟩) n (xs.map encI) :=
 SlRd.of_cel (T := 3) (sp := s.sp) h (by simpa using hn) (by simp [encI]) (by omega)
theorem SAt.In.rArts {a : SAt} (h : a.In M) : SlRd w0 M 4 (some ⟨a.arts.b, 0, none⟩) 1 aP5 :=
 SlRd.of_cel (T := 201) (sp := a.arts.sp) h.arts rfl (by simp) (by decide)
theorem owned_c {a : SAt} (h : a.In M) : ∀ w, Ok w0 M w → Calls Tryz.prog 50 #[.agg a.setup.toArray] w (fun e w' => ∃ a' : SAt, e = .returned (.agg a'.setup.toArray) ∧ True ∧ Ok w0 (a'.ents ++ M) w') := by
 refine enter (vs := [_]) Tryz.func50 rfl Tryz.ntmps50 rfl (aE (aA (te (cH rfl rfl fun b1 => (te (bO aP4 (l := [.int .i64 0, .int .i64 0, .int .i64 0, .int .i64 0, .int .i64 0, .int .i64 0, .int .i64 0, .int .i64 0, .slice none 0 0, .slice none 0 0, .slice none 0 0, .int .i64 0, .int .i64 0, .int .i64 0, .int .i64 0, .int .i64 0, .slice none 0 0, .bool false, .int .i64 0, .int .i64 0, .int .i64 0, .int .i64 0, .slice none 0 0, .slice none 0 0, .int .i64 0, .slice none 0 0, .int .i64 0, .int .i64 0, .int .i64 0, .int .i64 0]) rfl rfl fun b2 => (aF ?_)))))))
 refine Tr.keep (env' := [(1, _), (2, _)]) ⟨rfl, rfl, trivial⟩ (aB (aE (aA (tv (aI eG rfl) (tv (aI jB rfl) ?_)))))
 refine tv (aG dQ rfl (aK (.tail _ (.head _)) rfl)) (te (bP pR rfl rfl rfl rfl (fS ((h.sub (.cons _ (.cons _ (.refl _)))).rLeast) (by simp [encI, Value.oneCell']) (by intro h; cases h) (by decide)) fun x hx => ?_))
 obtain ⟨vNLE, ENLE⟩ := x
 obtain ⟨hONLE, _⟩ := hx
 obtain ⟨sNLE, hv, hE⟩ := gA hONLE rfl (by decide)
 dsimp only at hv hE ⊢
 subst hv hE
 show Tr _ _ _ _ (cel sNLE.b 3 (.int .i64 1000 :: sNLE.sp) :: _) _
 refine tv (aI eG rfl) (tv (aI jB rfl) (te (bR lG rfl rfl rfl (.succ (.succ (.succ (.succ (.succ (.succ (.succ (.succ .zero)))))))) (.there (.there .here)) (aF (Tr.keep (env' := [(1, _), (2, _)]) ⟨rfl, rfl, trivial⟩ (aB ?_))))))
 refine aE (aA (tv (aI iZ rfl) (tv (aG oO rfl (aK (.tail _ (.tail _ (.head _))) rfl)) (te (bP aW3 rfl rfl rfl rfl (jT ((h.sub (.cons _ (.cons _ (.cons _ (.refl _))))).rSrcs) (by simp [wG, Src.cells, Value.oneCell']) (by intro h; cases h) (by decide)) fun x hx => ?_)))))
 obtain ⟨vNSR, ENSR⟩ := x
 obtain ⟨hONSR, _⟩ := hx
 obtain ⟨sNSR, hv, hE⟩ := gA hONSR rfl (by decide)
 dsimp only at hv hE ⊢
 subst hv hE
 show Tr _ _ _ _ (cel sNSR.b 82 (.int .i64 1 :: .int .i64 0 :: sNSR.sp) :: _) _
 refine tv (aI iZ rfl) (te (bR iz_27 rfl rfl rfl (.succ (.succ (.succ (.succ (.succ (.succ (.succ (.succ (.succ .zero))))))))) (.there (.there (.there .here))) (aF (Tr.keep (env' := [(1, _), (2, _)]) ⟨rfl, rfl, trivial⟩ (aB (aE ?_))))))
 refine aA (tv (aI eA rfl) (tv (aI cQ rfl) (tv (aG eJ rfl (aK (.tail _ (.tail _ (.tail _ (.head _)))) rfl)) (te (bP bE1 rfl rfl rfl rfl (sK ((h.sub (.cons _ (.cons _ (.cons _ (.cons _ (.refl _)))))).rItems) (by simp [vG, SItem.cells, Value.oneCell']) (by intro h; cases h) (by decide)) fun x hx => ?_)))))
 obtain ⟨vNI, ENI⟩ := x
 obtain ⟨hONI, _⟩ := hx
 obtain ⟨sNI, hv, hE⟩ := gA hONI rfl (by decide)
 dsimp only at hv hE ⊢
 subst hv hE
 show Tr _ _ _ _ (cel sNI.b 104 (.int .i64 1 :: .int .i64 0 :: .int .i64 30 :: .bool false :: .int .i64 2 :: .int .i64 0 :: .int .i64 0 :: .bool false :: .int .i64 1 :: .int .i64 0 :: .int .i64 60 :: .bool false :: sNI.sp) :: _) _
 refine tv (aI eA rfl) (tv (aI cQ rfl) (te (bR iz_28 rfl rfl rfl (.succ (.succ (.succ (.succ (.succ (.succ (.succ (.succ (.succ (.succ .zero)))))))))) (.there (.there (.there (.there .here)))) (aF (Tr.keep (env' := [(1, _), (2, _)]) ⟨rfl, rfl, trivial⟩ (aB ?_))))))
 refine aE (aA (tv (aI eA rfl) (tv (aI mK rfl) (tv (aD rfl) (aF ?_)))))
 refine Tr.keep (env' := [(1, _), (2, _), (3, _)]) ⟨rfl, rfl, rfl, trivial⟩ (aB (aE (pE 20 (.cons_cons _ (.cons_cons _ (.cons_cons _ (.cons_cons _ (.cons _ (.refl _)))))) cK rfl (fX 0 rfl (.cons_cons _ (.cons_cons _ (.cons_cons _ (.cons_cons _ (.cons _ (.refl _)))))) (.refl _) (aC rfl) (fX 1 rfl (.cons_cons _ (.cons_cons _ (.cons_cons _ (.cons_cons _ (.cons _ (.refl _)))))) (.refl _) (aC rfl) ?_)))))
 refine fX 2 rfl (.cons_cons _ (.cons_cons _ (.cons_cons _ (.cons_cons _ (.cons _ (.refl _)))))) (.refl _) (aC rfl) (fX 3 rfl (.cons_cons _ (.cons_cons _ (.cons_cons _ (.cons_cons _ (.cons _ (.refl _)))))) (.refl _) (aC rfl) (fX 4 rfl (.cons_cons _ (.cons_cons _ (.cons_cons _ (.cons_cons _ (.cons _ (.refl _)))))) (.refl _) (aM rfl) (fX 5 rfl (.cons_cons _ (.cons_cons _ (.cons_cons _ (.cons_cons _ (.cons _ (.refl _)))))) (.refl _) (aI mJ rfl) (kv 6 rfl (.refl _) (aG dQ rfl (aK (.tail _ (.tail _ (.tail _ (.tail _ (.head _))))) rfl)) (fX 8 rfl (.cons_cons _ (.cons_cons _ (.cons_cons _ (.cons_cons _ (.cons _ (.refl _)))))) (.refl _) (aC rfl) ?_)))))
 refine fX 9 rfl (.cons_cons _ (.cons_cons _ (.cons_cons _ (.cons_cons _ (.cons _ (.refl _)))))) (.refl _) (aM rfl) (fX 10 rfl (.cons_cons _ (.cons_cons _ (.cons_cons _ (.cons_cons _ (.cons _ (.refl _)))))) (.refl _) (aI kQ rfl) (kv 11 rfl (.refl _) (aG dQ rfl (aK (.tail _ (.tail _ (.tail _ (.tail _ (.head _))))) rfl)) (fX 13 rfl (.cons_cons _ (.cons_cons _ (.cons_cons _ (.cons_cons _ (.cons _ (.refl _)))))) (.refl _) (aC rfl) (fX 14 rfl (.cons_cons _ (.cons_cons _ (.cons_cons _ (.cons_cons _ (.cons _ (.refl _)))))) (.refl _) (aM rfl) (fX 15 rfl (.cons_cons _ (.cons_cons _ (.cons_cons _ (.cons_cons _ (.cons _ (.refl _)))))) (.refl _) (aI kR rfl) ?_)))))
 refine kv 16 rfl (.refl _) (aG dQ rfl (aK (.tail _ (.tail _ (.tail _ (.tail _ (.head _))))) rfl)) (eM 7 rfl rfl (by kernel_rfl) (bP pR rfl rfl rfl rfl (fS ((SAt.In.rInts (a := a) (T := 3) (s := a.jumps) (xs := [10000, 60000]) (h.sub (.cons _ (.cons _ (.cons _ (.cons _ (.cons _ (.refl _))))))).jumps rfl (by decide))) (by simp [encI, Value.oneCell']) (by intro h; cases h) (by decide)) fun x hx => ?_))
 obtain ⟨vNJ, ENJ⟩ := x
 obtain ⟨hONJ, _⟩ := hx
 obtain ⟨sNJ, hv, hE⟩ := gA hONJ rfl (by decide)
 dsimp only at hv hE ⊢
 subst hv hE
 show Tr _ _ _ _ (cel sNJ.b 3 (.int .i64 10000 :: .int .i64 60000 :: sNJ.sp) :: _) _
 refine fQ (by kernel_rfl) (.cons _ (.refl _)) (eM 12 rfl rfl (by kernel_rfl) (bP pR rfl rfl rfl rfl (fS ((SAt.In.rInts (a := a) (T := 3) (s := a.points) (xs := [10, 6]) (h.sub (.cons _ (.cons _ (.cons _ (.cons _ (.cons _ (.cons _ (.refl _)))))))).points rfl (by decide))) (by simp [encI, Value.oneCell']) (by intro h; cases h) (by decide)) fun x hx => ?_))
 obtain ⟨vNP, ENP⟩ := x
 obtain ⟨hONP, _⟩ := hx
 obtain ⟨sNP, hv, hE⟩ := gA hONP rfl (by decide)
 dsimp only at hv hE ⊢
 subst hv hE
 show Tr _ _ _ _ (cel sNP.b 3 (.int .i64 10 :: .int .i64 6 :: sNP.sp) :: _) _
 refine fQ (by kernel_rfl) (.cons _ (.cons _ (.refl _))) (eM 17 rfl rfl (by kernel_rfl) (bP pR rfl rfl rfl rfl (fS ((SAt.In.rInts (a := a) (T := 3) (s := a.extra) (xs := [3]) (h.sub (.cons _ (.cons _ (.cons _ (.cons _ (.cons _ (.cons _ (.cons _ (.refl _))))))))).extra rfl (by decide))) (by simp [encI, Value.oneCell']) (by intro h; cases h) (by decide)) fun x hx => ?_))
 obtain ⟨vNX, ENX⟩ := x
 obtain ⟨hONX, _⟩ := hx
 obtain ⟨sNX, hv, hE⟩ := gA hONX rfl (by decide)
 dsimp only at hv hE ⊢
 subst hv hE
 show Tr _ _ _ _ (cel sNX.b 3 (.int .i64 3 :: sNX.sp) :: _) _
 refine fQ (by kernel_rfl) (.cons _ (.cons _ (.cons _ (.refl _)))) (fX 18 rfl (.cons_cons _ (.cons_cons _ (.cons_cons _ (.cons_cons _ (.cons _ (.refl _)))))) (.cons _ (.cons _ (.cons _ (.refl _)))) (aM rfl) (fX 19 rfl (.cons_cons _ (.cons_cons _ (.cons_cons _ (.cons_cons _ (.cons _ (.refl _)))))) (.cons _ (.cons _ (.cons _ (.refl _)))) (aI mJ rfl) (eM 20 rfl rfl (by kernel_rfl) (bR lG rfl rfl rfl (.succ (.succ (.succ (.succ (.succ (.succ (.succ (.succ (.succ (.succ (.succ (.succ (.succ (.succ (.succ (.succ .zero)))))))))))))))) (.there (.there (.there (.there (.there (.there (.there .here))))))) (eS (by kernel_rfl) (.cons _ (.cons _ (.cons _ (.cons_cons _ (.cons_cons _ (.cons_cons _ (.cons_cons _ (.cons _ (.refl _))))))))) (eM 21 rfl rfl (by kernel_rfl) (iK (aM rfl) rfl ?_)))))))
 refine eS (by kernel_rfl) (.cons _ (.cons _ (.cons _ (.cons_cons _ (.cons_cons _ (.cons_cons _ (.cons_cons _ (.cons _ (.refl _))))))))) (eM 22 rfl rfl (by kernel_rfl) (iK (aI kQ rfl) rfl (eS (by kernel_rfl) (.cons _ (.cons _ (.cons _ (.cons_cons _ (.cons_cons _ (.cons_cons _ (.cons_cons _ (.cons _ (.refl _))))))))) (eM 23 rfl rfl (by kernel_rfl) (bR lG rfl rfl rfl (.succ (.succ (.succ (.succ (.succ (.succ (.succ (.succ (.succ (.succ (.succ (.succ (.succ (.succ (.succ (.succ (.succ (.succ (.succ (.succ (.succ (.succ .zero)))))))))))))))))))))) (.there (.there (.there (.there (.there (.there (.there .here))))))) (eS (by kernel_rfl) (.cons _ (.cons _ (.cons _ (.cons_cons _ (.cons_cons _ (.cons_cons _ (.cons_cons _ (.cons _ (.refl _))))))))) (eM 24 rfl rfl (by kernel_rfl) (iK (aM rfl) rfl ?_))))))))
 refine eS (by kernel_rfl) (.cons _ (.cons _ (.cons _ (.cons_cons _ (.cons_cons _ (.cons_cons _ (.cons_cons _ (.cons _ (.refl _))))))))) (eM 25 rfl rfl (by kernel_rfl) (iK (aI kR rfl) rfl (eS (by kernel_rfl) (.cons _ (.cons _ (.cons _ (.cons_cons _ (.cons_cons _ (.cons_cons _ (.cons_cons _ (.cons _ (.refl _))))))))) (eM 26 rfl rfl (by kernel_rfl) (bR lG rfl rfl rfl (.succ (.succ (.succ (.succ (.succ (.succ (.succ (.succ (.succ (.succ (.succ (.succ (.succ (.succ (.succ (.succ (.succ (.succ (.succ (.succ (.succ (.succ (.succ .zero))))))))))))))))))))))) (.there (.there (.there (.there (.there (.there (.there .here))))))) (eS (by kernel_rfl) (.cons _ (.cons _ (.cons _ (.cons_cons _ (.cons_cons _ (.cons_cons _ (.cons_cons _ (.cons _ (.refl _))))))))) (rS (by kernel_rfl) ?_)))))))
 refine Tr.keep (env' := [(1, _), (2, _)]) ⟨rfl, rfl, trivial⟩ (aB (aE (aA (tv (aI iM rfl) (tv (aI fJ rfl) ?_)))))
 refine tv (aG lC rfl (aK (.tail _ (.tail _ (.tail _ (.tail _ (.tail _ (.tail _ (.tail _ (.head _)))))))) rfl)) (te (bP aE0 rfl rfl rfl rfl (jC ((h.sub (.cons _ (.cons _ (.cons _ (.cons _ (.cons _ (.cons _ (.cons _ (.cons _ (.refl _)))))))))).rArts) (by simp [aP5, Value.oneCell']) (by intro h; cases h) (by decide)) fun x hx => ?_))
 obtain ⟨vNA, ENA⟩ := x
 obtain ⟨hONA, _⟩ := hx
 obtain ⟨sNA, hv, hE⟩ := gA hONA rfl (by decide)
 dsimp only at hv hE ⊢
 subst hv hE
 show Tr _ _ _ _ (cel sNA.b 201 (.int .i64 1 :: .int .i64 0 :: .int .i64 0 :: .int .i64 1000 :: sNA.sp) :: _) _
 refine tv (aI iM rfl) (tv (aI fJ rfl) (te (bR aV5 rfl rfl rfl (.succ (.succ (.succ (.succ (.succ (.succ (.succ (.succ (.succ (.succ (.succ (.succ (.succ (.succ (.succ (.succ (.succ (.succ (.succ (.succ (.succ (.succ (.succ (.succ (.succ .zero))))))))))))))))))))))))) (.there (.there (.there (.there (.there (.there (.there (.there .here)))))))) (aF (Tr.keep (env' := [(1, _), (2, _)]) ⟨rfl, rfl, trivial⟩ (aB ?_))))))
 refine aE (aA (tv (aY iH rfl (bL (n := 30) (vs := [_, _, _, _, _, _, _, _, _, _, _, _, _, _, _, _, _, _, _, _, _, _, _, _, _, _, _, _, _, _]) (.tail _ (.tail _ (.tail _ (.tail _ (.tail _ (.tail _ (.tail _ (.tail _ (.head _))))))))) rfl) rfl) (te (bJ bE2 rfl rfl (vs := [_, _, _, _, _, _, _, _, _, _, _, _, _, _, _, _, _, _, _, _, _, _, _, _, _, _, _, _, _, _]) rfl rfl (by simp [Value.oneCell']) (.cons .zero (.cons (.succ .zero) (.cons (.succ (.succ .zero)) (.cons (.succ (.succ (.succ .zero))) (.cons (.succ (.succ (.succ (.succ .zero)))) (.cons (.succ (.succ (.succ (.succ (.succ .zero))))) (.cons (.succ (.succ (.succ (.succ (.succ (.succ .zero)))))) (.cons (.succ (.succ (.succ (.succ (.succ (.succ (.succ .zero))))))) (.cons (.succ (.succ (.succ (.succ (.succ (.succ (.succ (.succ .zero)))))))) (.cons (.succ (.succ (.succ (.succ (.succ (.succ (.succ (.succ (.succ .zero))))))))) (.cons (.succ (.succ (.succ (.succ (.succ (.succ (.succ (.succ (.succ (.succ .zero)))))))))) (.cons (.succ (.succ (.succ (.succ (.succ (.succ (.succ (.succ (.succ (.succ (.succ .zero))))))))))) (.cons (.succ (.succ (.succ (.succ (.succ (.succ (.succ (.succ (.succ (.succ (.succ (.succ .zero)))))))))))) (.cons (.succ (.succ (.succ (.succ (.succ (.succ (.succ (.succ (.succ (.succ (.succ (.succ (.succ .zero))))))))))))) (.cons (.succ (.succ (.succ (.succ (.succ (.succ (.succ (.succ (.succ (.succ (.succ (.succ (.succ (.succ .zero)))))))))))))) (.cons (.succ (.succ (.succ (.succ (.succ (.succ (.succ (.succ (.succ (.succ (.succ (.succ (.succ (.succ (.succ .zero))))))))))))))) (.cons (.succ (.succ (.succ (.succ (.succ (.succ (.succ (.succ (.succ (.succ (.succ (.succ (.succ (.succ (.succ (.succ .zero)))))))))))))))) (.cons (.succ (.succ (.succ (.succ (.succ (.succ (.succ (.succ (.succ (.succ (.succ (.succ (.succ (.succ (.succ (.succ (.succ .zero))))))))))))))))) (.cons (.succ (.succ (.succ (.succ (.succ (.succ (.succ (.succ (.succ (.succ (.succ (.succ (.succ (.succ (.succ (.succ (.succ (.succ .zero)))))))))))))))))) (.cons (.succ (.succ (.succ (.succ (.succ (.succ (.succ (.succ (.succ (.succ (.succ (.succ (.succ (.succ (.succ (.succ (.succ (.succ (.succ .zero))))))))))))))))))) (.cons (.succ (.succ (.succ (.succ (.succ (.succ (.succ (.succ (.succ (.succ (.succ (.succ (.succ (.succ (.succ (.succ (.succ (.succ (.succ (.succ .zero)))))))))))))))))))) (.cons (.succ (.succ (.succ (.succ (.succ (.succ (.succ (.succ (.succ (.succ (.succ (.succ (.succ (.succ (.succ (.succ (.succ (.succ (.succ (.succ (.succ .zero))))))))))))))))))))) (.cons (.succ (.succ (.succ (.succ (.succ (.succ (.succ (.succ (.succ (.succ (.succ (.succ (.succ (.succ (.succ (.succ (.succ (.succ (.succ (.succ (.succ (.succ .zero)))))))))))))))))))))) (.cons (.succ (.succ (.succ (.succ (.succ (.succ (.succ (.succ (.succ (.succ (.succ (.succ (.succ (.succ (.succ (.succ (.succ (.succ (.succ (.succ (.succ (.succ (.succ .zero))))))))))))))))))))))) (.cons (.succ (.succ (.succ (.succ (.succ (.succ (.succ (.succ (.succ (.succ (.succ (.succ (.succ (.succ (.succ (.succ (.succ (.succ (.succ (.succ (.succ (.succ (.succ (.succ .zero)))))))))))))))))))))))) (.cons (.succ (.succ (.succ (.succ (.succ (.succ (.succ (.succ (.succ (.succ (.succ (.succ (.succ (.succ (.succ (.succ (.succ (.succ (.succ (.succ (.succ (.succ (.succ (.succ (.succ .zero))))))))))))))))))))))))) (.cons (.succ (.succ (.succ (.succ (.succ (.succ (.succ (.succ (.succ (.succ (.succ (.succ (.succ (.succ (.succ (.succ (.succ (.succ (.succ (.succ (.succ (.succ (.succ (.succ (.succ (.succ .zero)))))))))))))))))))))))))) (.cons (.succ (.succ (.succ (.succ (.succ (.succ (.succ (.succ (.succ (.succ (.succ (.succ (.succ (.succ (.succ (.succ (.succ (.succ (.succ (.succ (.succ (.succ (.succ (.succ (.succ (.succ (.succ .zero))))))))))))))))))))))))))) (.cons (.succ (.succ (.succ (.succ (.succ (.succ (.succ (.succ (.succ (.succ (.succ (.succ (.succ (.succ (.succ (.succ (.succ (.succ (.succ (.succ (.succ (.succ (.succ (.succ (.succ (.succ (.succ (.succ .zero)))))))))))))))))))))))))))) (.cons (.succ (.succ (.succ (.succ (.succ (.succ (.succ (.succ (.succ (.succ (.succ (.succ (.succ (.succ (.succ (.succ (.succ (.succ (.succ (.succ (.succ (.succ (.succ (.succ (.succ (.succ (.succ (.succ (.succ .zero))))))))))))))))))))))))))))) .nil)))))))))))))))))))))))))))))) (.there (.there (.there (.there (.there (.there (.there .here))))))) (aF (Tr.keep (env' := [(2, _)]) ⟨rfl, trivial⟩ ?_))))))
 refine aB (aQ (sP rfl iH rfl (bL (n := 30) (vs := [_, _, _, _, _, _, _, _, _, _, _, _, _, _, _, _, _, _, _, _, _, _, _, _, _, _, _, _, _, _]) (.tail _ (.tail _ (.tail _ (.tail _ (.tail _ (.tail _ (.tail _ (.head _)))))))) rfl) rfl (fun w hw => ?_)))
 exact ⟨⟨sNI, sNJ, sNP, sNX, sNLE, sNSR, sNA⟩, rfl, trivial, Ok.sub (hw.perm (pk (.there (.there (.there (.there .here)))) (pk (.there (.there (.there .here))) (pk (.there (.there .here)) (pk (.there .here) (pk (.there (.there .here)) (pk (.there .here) (pk .here (.refl _))))))))) (.cons_cons _ (.cons_cons _ (.cons_cons _ (.cons_cons _ (.cons_cons _ (.cons_cons _ (.cons_cons _ (.cons _ (.cons _ (.refl _))))))))))⟩
end
end Go.Proofs.W
set_option linter.unusedVariables false
set_option linter.unusedSimpArgs false
set_option linter.unusedSectionVars false
set_option maxRecDepth 100000
namespace Go.Proofs.W
open Go Go.Sl Go.RowKit Go.Proofs
attribute [local irreducible] Go.Sl.Eff
theorem inf_33 : (Tryz.prog.info? 33).map (fun i => (i.zero, i.size, i.bytes)) = some (some (.agg #[.slice none 0 0, .int .i64 0, .int .i64 0, .int .i64 0, .int .i64 0, .int .i64 0, .slice none 0 0, .bool false, .int .i64 0, .int .i64 0, .int .i64 0, .int .i64 0, .slice none 0 0, .slice none 0 0]), 14, 176) := by kernel_rfl
theorem iz_33 : (Tryz.prog.info? 33).map (·.size) = some 14 := by kernel_rfl
section
variable {w0 : World} {M : List Ent}
theorem wH : ∀ w, Ok w0 M w → Calls Tryz.prog 42 #[] w (fun e w' => ∃ a : SAt, e = .returned (.agg a.setup.toArray) ∧ True ∧ Ok w0 (a.ents ++ M) w') := by
 refine enter (vs := []) Tryz.func42 rfl Tryz.ntmps42 rfl (aE (aA (te (bO aP4 (l := [.int .i64 0, .int .i64 0, .int .i64 0, .int .i64 0, .int .i64 0, .int .i64 0, .int .i64 0, .int .i64 0, .slice none 0 0, .slice none 0 0, .slice none 0 0, .int .i64 0, .int .i64 0, .int .i64 0, .int .i64 0, .int .i64 0, .slice none 0 0, .bool false, .int .i64 0, .int .i64 0, .int .i64 0, .int .i64 0, .slice none 0 0, .slice none 0 0, .int .i64 0, .slice none 0 0, .int .i64 0, .int .i64 0, .int .i64 0, .int .i64 0]) rfl rfl fun b0 => (aF (Tr.keep (env' := [(0, _)]) ⟨rfl, trivial⟩ ?_))))))
 refine aB (aE (aA (tv (bU rfl (v := .agg #[.int .i64 1, .int .i64 0, .int .i64 30, .bool false]) (fun w => by kernel_rfl)) (tv (bU rfl (v := .agg #[.int .i64 2, .int .i64 0, .int .i64 0, .bool false]) (fun w => by kernel_rfl)) (tv (bU rfl (v := .agg #[.int .i64 1, .int .i64 0, .int .i64 60, .bool false]) (fun w => by kernel_rfl)) ?_)))))
 refine te (bN (E := 104) (l := [.int .i64 1, .int .i64 0, .int .i64 30, .bool false, .int .i64 2, .int .i64 0, .int .i64 0, .bool false, .int .i64 1, .int .i64 0, .int .i64 60, .bool false]) rfl (fun w => by kernel_rfl) rfl fun b5 => (te (bN (E := 3) (l := [.int .i64 10000, .int .i64 60000]) rfl (fun w => by kernel_rfl) rfl fun b6 => (te (bN (E := 3) (l := [.int .i64 10, .int .i64 6]) rfl (fun w => by kernel_rfl) rfl fun b7 => (te (bN (E := 3) (l := [.int .i64 3]) rfl (fun w => by kernel_rfl) rfl fun b8 => (tv (bU rfl (v := .agg #[.int .i64 10000, .int .i64 60000, .int .i64 15, .int .i64 30, .slice (some ⟨b6, 0, none⟩) 2 2, .bool false, .int .i64 0, .int .i64 1, .int .i64 100, .int .i64 1, .slice (some ⟨b7, 0, none⟩) 2 2, .slice (some ⟨b8, 0, none⟩) 1 1]) (fun w => by kernel_rfl)) (tv (bU rfl (v := .agg #[.slice (some ⟨b5, 0, none⟩) 3 3, .int .i64 1, .int .i64 10000, .int .i64 60000, .int .i64 15, .int .i64 30, .slice (some ⟨b6, 0, none⟩) 2 2, .bool false, .int .i64 0, .int .i64 1, .int .i64 100, .int .i64 1, .slice (some ⟨b7, 0, none⟩) 2 2, .slice (some ⟨b8, 0, none⟩) 1 1]) (fun w => by kernel_rfl)) ?_)))))))))
 refine te (bO inf_33 (l := [.slice none 0 0, .int .i64 0, .int .i64 0, .int .i64 0, .int .i64 0, .int .i64 0, .slice none 0 0, .bool false, .int .i64 0, .int .i64 0, .int .i64 0, .int .i64 0, .slice none 0 0, .slice none 0 0]) rfl rfl fun b1 => (te (bJ iz_33 rfl rfl (vs := [_, _, _, _, _, _, _, _, _, _, _, _, _, _]) rfl rfl (by simp [Value.oneCell']) (.cons .zero (.cons (.succ .zero) (.cons (.succ (.succ .zero)) (.cons (.succ (.succ (.succ .zero))) (.cons (.succ (.succ (.succ (.succ .zero)))) (.cons (.succ (.succ (.succ (.succ (.succ .zero))))) (.cons (.succ (.succ (.succ (.succ (.succ (.succ .zero)))))) (.cons (.succ (.succ (.succ (.succ (.succ (.succ (.succ .zero))))))) (.cons (.succ (.succ (.succ (.succ (.succ (.succ (.succ (.succ .zero)))))))) (.cons (.succ (.succ (.succ (.succ (.succ (.succ (.succ (.succ (.succ .zero))))))))) (.cons (.succ (.succ (.succ (.succ (.succ (.succ (.succ (.succ (.succ (.succ .zero)))))))))) (.cons (.succ (.succ (.succ (.succ (.succ (.succ (.succ (.succ (.succ (.succ (.succ .zero))))))))))) (.cons (.succ (.succ (.succ (.succ (.succ (.succ (.succ (.succ (.succ (.succ (.succ (.succ .zero)))))))))))) (.cons (.succ (.succ (.succ (.succ (.succ (.succ (.succ (.succ (.succ (.succ (.succ (.succ (.succ .zero))))))))))))) .nil)))))))))))))) .here (aF (Tr.keep (env' := [(0, _), (1, _)]) ⟨rfl, rfl, trivial⟩ (aB (aE ?_)))))))
 refine aA (tv (bU rfl (v := .agg #[.int .i64 2, .int .i64 60, .int .i64 1, .int .i64 0, .int .i64 600, .int .i64 1]) (fun w => by kernel_rfl)) (te (bN (E := 3) (l := [.int .i64 1000]) rfl (fun w => by kernel_rfl) rfl fun b12 => (tv (bU rfl (v := .agg #[.int .i64 1, .int .i64 2, .slice (some ⟨b12, 0, none⟩) 1 1]) (fun w => by kernel_rfl)) (tv (bU rfl (v := .agg #[.int .i64 1, .int .i64 0]) (fun w => by kernel_rfl)) (te (bN (E := 82) (l := [.int .i64 1, .int .i64 0]) rfl (fun w => by kernel_rfl) rfl fun b15 => ?_)))))))
 refine tv (aY uL rfl (bL (n := 14) (vs := [_, _, _, _, _, _, _, _, _, _, _, _, _, _]) (.tail _ (.tail _ (.head _))) rfl) rfl) (tv (bU rfl (v := .agg #[.int .i64 1, .int .i64 0, .int .i64 0, .int .i64 1000]) (fun w => by kernel_rfl)) (te (bN (E := 201) (l := [.int .i64 1, .int .i64 0, .int .i64 0, .int .i64 1000]) rfl (fun w => by kernel_rfl) rfl fun b18 => (tv (bU rfl (v := .agg #[.int .i64 1, .slice (some ⟨b18, 0, none⟩) 1 1, .int .i64 30, .int .i64 60, .int .i64 0, .int .i64 0]) (fun w => by kernel_rfl)) (tv (bU rfl (v := .agg #[.int .i64 2, .int .i64 60, .int .i64 1, .int .i64 0, .int .i64 600, .int .i64 1, .int .i64 1, .int .i64 2, .slice (some ⟨b12, 0, none⟩) 1 1, .slice (some ⟨b15, 0, none⟩) 1 1, .slice (some ⟨b5, 0, none⟩) 3 3, .int .i64 1, .int .i64 10000, .int .i64 60000, .int .i64 15, .int .i64 30, .slice (some ⟨b6, 0, none⟩) 2 2, .bool false, .int .i64 0, .int .i64 1, .int .i64 100, .int .i64 1, .slice (some ⟨b7, 0, none⟩) 2 2, .slice (some ⟨b8, 0, none⟩) 1 1, .int .i64 1, .slice (some ⟨b18, 0, none⟩) 1 1, .int .i64 30, .int .i64 60, .int .i64 0, .int .i64 0]) (fun w => by kernel_rfl)) (te (bJ bE2 rfl rfl (vs := [_, _, _, _, _, _, _, _, _, _, _, _, _, _, _, _, _, _, _, _, _, _, _, _, _, _, _, _, _, _]) rfl rfl (by simp [Value.oneCell']) (.cons .zero (.cons (.succ .zero) (.cons (.succ (.succ .zero)) (.cons (.succ (.succ (.succ .zero))) (.cons (.succ (.succ (.succ (.succ .zero)))) (.cons (.succ (.succ (.succ (.succ (.succ .zero))))) (.cons (.succ (.succ (.succ (.succ (.succ (.succ .zero)))))) (.cons (.succ (.succ (.succ (.succ (.succ (.succ (.succ .zero))))))) (.cons (.succ (.succ (.succ (.succ (.succ (.succ (.succ (.succ .zero)))))))) (.cons (.succ (.succ (.succ (.succ (.succ (.succ (.succ (.succ (.succ .zero))))))))) (.cons (.succ (.succ (.succ (.succ (.succ (.succ (.succ (.succ (.succ (.succ .zero)))))))))) (.cons (.succ (.succ (.succ (.succ (.succ (.succ (.succ (.succ (.succ (.succ (.succ .zero))))))))))) (.cons (.succ (.succ (.succ (.succ (.succ (.succ (.succ (.succ (.succ (.succ (.succ (.succ .zero)))))))))))) (.cons (.succ (.succ (.succ (.succ (.succ (.succ (.succ (.succ (.succ (.succ (.succ (.succ (.succ .zero))))))))))))) (.cons (.succ (.succ (.succ (.succ (.succ (.succ (.succ (.succ (.succ (.succ (.succ (.succ (.succ (.succ .zero)))))))))))))) (.cons (.succ (.succ (.succ (.succ (.succ (.succ (.succ (.succ (.succ (.succ (.succ (.succ (.succ (.succ (.succ .zero))))))))))))))) (.cons (.succ (.succ (.succ (.succ (.succ (.succ (.succ (.succ (.succ (.succ (.succ (.succ (.succ (.succ (.succ (.succ .zero)))))))))))))))) (.cons (.succ (.succ (.succ (.succ (.succ (.succ (.succ (.succ (.succ (.succ (.succ (.succ (.succ (.succ (.succ (.succ (.succ .zero))))))))))))))))) (.cons (.succ (.succ (.succ (.succ (.succ (.succ (.succ (.succ (.succ (.succ (.succ (.succ (.succ (.succ (.succ (.succ (.succ (.succ .zero)))))))))))))))))) (.cons (.succ (.succ (.succ (.succ (.succ (.succ (.succ (.succ (.succ (.succ (.succ (.succ (.succ (.succ (.succ (.succ (.succ (.succ (.succ .zero))))))))))))))))))) (.cons (.succ (.succ (.succ (.succ (.succ (.succ (.succ (.succ (.succ (.succ (.succ (.succ (.succ (.succ (.succ (.succ (.succ (.succ (.succ (.succ .zero)))))))))))))))))))) (.cons (.succ (.succ (.succ (.succ (.succ (.succ (.succ (.succ (.succ (.succ (.succ (.succ (.succ (.succ (.succ (.succ (.succ (.succ (.succ (.succ (.succ .zero))))))))))))))))))))) (.cons (.succ (.succ (.succ (.succ (.succ (.succ (.succ (.succ (.succ (.succ (.succ (.succ (.succ (.succ (.succ (.succ (.succ (.succ (.succ (.succ (.succ (.succ .zero)))))))))))))))))))))) (.cons (.succ (.succ (.succ (.succ (.succ (.succ (.succ (.succ (.succ (.succ (.succ (.succ (.succ (.succ (.succ (.succ (.succ (.succ (.succ (.succ (.succ (.succ (.succ .zero))))))))))))))))))))))) (.cons (.succ (.succ (.succ (.succ (.succ (.succ (.succ (.succ (.succ (.succ (.succ (.succ (.succ (.succ (.succ (.succ (.succ (.succ (.succ (.succ (.succ (.succ (.succ (.succ .zero)))))))))))))))))))))))) (.cons (.succ (.succ (.succ (.succ (.succ (.succ (.succ (.succ (.succ (.succ (.succ (.succ (.succ (.succ (.succ (.succ (.succ (.succ (.succ (.succ (.succ (.succ (.succ (.succ (.succ .zero))))))))))))))))))))))))) (.cons (.succ (.succ (.succ (.succ (.succ (.succ (.succ (.succ (.succ (.succ (.succ (.succ (.succ (.succ (.succ (.succ (.succ (.succ (.succ (.succ (.succ (.succ (.succ (.succ (.succ (.succ .zero)))))))))))))))))))))))))) (.cons (.succ (.succ (.succ (.succ (.succ (.succ (.succ (.succ (.succ (.succ (.succ (.succ (.succ (.succ (.succ (.succ (.succ (.succ (.succ (.succ (.succ (.succ (.succ (.succ (.succ (.succ (.succ .zero))))))))))))))))))))))))))) (.cons (.succ (.succ (.succ (.succ (.succ (.succ (.succ (.succ (.succ (.succ (.succ (.succ (.succ (.succ (.succ (.succ (.succ (.succ (.succ (.succ (.succ (.succ (.succ (.succ (.succ (.succ (.succ (.succ .zero)))))))))))))))))))))))))))) (.cons (.succ (.succ (.succ (.succ (.succ (.succ (.succ (.succ (.succ (.succ (.succ (.succ (.succ (.succ (.succ (.succ (.succ (.succ (.succ (.succ (.succ (.succ (.succ (.succ (.succ (.succ (.succ (.succ (.succ .zero))))))))))))))))))))))))))))) .nil)))))))))))))))))))))))))))))) (.there (.there (.there (.there (.there (.there (.there (.there .here)))))))) ?_)))))))
 refine aF (Tr.keep (env' := [(0, _)]) ⟨rfl, trivial⟩ (aB (aQ (sP rfl iH rfl (bL (n := 30) (vs := [_, _, _, _, _, _, _, _, _, _, _, _, _, _, _, _, _, _, _, _, _, _, _, _, _, _, _, _, _, _]) (.tail _ (.tail _ (.tail _ (.tail _ (.tail _ (.tail _ (.tail _ (.tail _ (.head _))))))))) rfl) rfl (fun w hw => ?_)))))
 exact ⟨⟨⟨b5, 3, []⟩, ⟨b6, 2, []⟩, ⟨b7, 2, []⟩, ⟨b8, 1, []⟩, ⟨b12, 1, []⟩, ⟨b15, 1, []⟩, ⟨b18, 1, []⟩⟩, rfl, trivial, Ok.sub (hw.perm (pk (.there (.there (.there (.there (.there (.there (.there .here))))))) (pk (.there (.there (.there (.there (.there (.there .here)))))) (pk (.there (.there (.there (.there (.there .here))))) (pk (.there (.there (.there (.there .here)))) (pk (.there (.there .here)) (pk (.there .here) (pk .here (.refl _))))))))) (.cons_cons _ (.cons_cons _ (.cons_cons _ (.cons_cons _ (.cons_cons _ (.cons_cons _ (.cons_cons _ (.cons _ (.cons _ (.refl _))))))))))⟩
theorem aE1 {a : SAt} (h : a.In M) : ∀ w, Ok w0 M w → Calls Tryz.prog 51 #[.agg a.code.toArray] w (fun e w' => ∃ cb : Nat, e = .returned (.tuple #[.pointer (some ⟨cb, 0, none⟩), .int .i64 0]) ∧ True ∧ Ok w0 M w') := by
 refine enter (vs := [_]) Tryz.func51 rfl Tryz.ntmps51 rfl (aE (aA (te (cH rfl rfl fun b1 => (tv (aD rfl) (tv (aD rfl) ?_))))))
 refine aF (Tr.keep (env' := [(1, _)]) ⟨rfl, trivial⟩ (aB (aE (aE (aA ?_)))))
 refine tv (aY rQ rfl (bL (n := 6) (vs := [_, _, _, _, _, _]) (.head _) rfl) rfl) (te (aJ aV3 rfl rfl rfl rfl (pN (h.sub (.cons _ (.refl _)))) (tv (aD rfl) (aF (Tr.keep (env' := [(1, _), (4, _)]) ⟨rfl, rfl, trivial⟩ (aB ?_))))))
 refine aE (aA (tv (aC rfl) (tv (eF rfl rfl) (aF (Tr.keep (env' := [(1, _), (4, _), (8, _)]) ⟨rfl, rfl, rfl, trivial⟩ ?_)))))
 refine aB (aR rfl (aO (aB (aE (aA ?_)))))
 refine tv (aI fJ rfl) (tv (aG lC rfl (aK (.head _) rfl)) (te (bP aE0 rfl rfl rfl rfl (jC ((h.sub (.cons _ (.refl _))).rArts) (by simp [aP5, Value.oneCell']) (by intro h; cases h) (by decide)) fun x hx => ?_)))
 obtain ⟨vNA, ENA⟩ := x
 obtain ⟨hONA, _⟩ := hx
 dsimp only at hONA ⊢
 refine tv (aI fJ rfl) (te (bR aV5 rfl rfl (Own.one hONA) (.succ .zero) (.right .here) (aF (Tr.keep (env' := [(1, _)]) ⟨rfl, trivial⟩ (aB (aE ?_))))))
 refine aA (tv (aY rQ rfl (bL (n := 6) (vs := [_, _, _, _, _, _]) (List.mem_append_right _ (.head _)) rfl) rfl) (tv (bU rfl (v := .agg #[.int .i64 1, vNA, .int .i64 30, .int .i64 60, .int .i64 0, .int .i64 0, .bool true, .slice none 0 0, .slice none 0 0]) (fun w => by kernel_rfl)) (te (cH rfl rfl fun b16 => (tv (aD rfl) (tv (aD rfl) ?_))))))
 refine aF (Tr.keep (env' := [(2, _), (3, _)]) ⟨rfl, rfl, trivial⟩ (aB (aQ (gG rfl rfl rfl (fun w hw => ?_)))))
 exact ⟨b16, rfl, trivial, Ok.sub hw (.cons _ (List.Sublist.trans (.cons _ (.refl _)) (List.sublist_append_right _ _)))⟩
end
end Go.Proofs.W
set_option linter.unusedVariables false
set_option linter.unusedSimpArgs false
set_option linter.unusedSectionVars false
set_option maxRecDepth 100000
namespace Go.Proofs.W
open Go Go.Sl Go.RowKit Go.Proofs
attribute [local irreducible] Go.Sl.Eff
theorem jP : bY Tryz.prog 111 = some (some 3) := by kernel_rfl
theorem pO : bY Tryz.prog 53 = some (none) := by kernel_rfl
theorem aK5 : aV Tryz.prog 15 := aL Tryz.func15 (by kernel_rfl) (by kernel_rfl)
theorem en_50 : aV Tryz.prog 50 := aL Tryz.func50 (by kernel_rfl) (by kernel_rfl)
theorem en_51 : aV Tryz.prog 51 := aL Tryz.func51 (by kernel_rfl) (by kernel_rfl)
theorem eD : bC Tryz.prog 129 0 = some 0 := by kernel_rfl
theorem iI : bC Tryz.prog 129 1 = some 30 := by kernel_rfl
theorem mA : bC Tryz.prog 129 2 = some 31 := by kernel_rfl
theorem aK6 : bC Tryz.prog 129 3 = some 32 := by kernel_rfl
theorem iT : bC Tryz.prog 129 4 = some 33 := by kernel_rfl
theorem eB : (Tryz.prog.info? 111).map (fun i => (i.zero, i.size, i.bytes)) = some (some (.agg #[.int .i64 0, .slice none 0 0, .slice none 0 0]), 3, 56) := by kernel_rfl
theorem dA : (Tryz.prog.info? 111).map (·.size) = some 3 := by kernel_rfl
theorem wI : (Tryz.prog.info? 112).map (·.size) = some 1 := by kernel_rfl
theorem bE3 : (Tryz.prog.info? 127).map (·.size) = some 1 := by kernel_rfl
theorem bE4 : (Tryz.prog.info? 53).map (·.size) = some 1 := by kernel_rfl
theorem iz_68 : (Tryz.prog.info? 68).map (·.size) = some 1 := by kernel_rfl
theorem iz_95 : (Tryz.prog.info? 95).map (·.size) = some 1 := by kernel_rfl
structure CardM where
 cls : Int
 starts : List Int
 lines : List CLine
structure EvAt where
 eb : Nat
 sa : SAt
 gl : GAt
 wl : WAt
 cb : Nat
 cards : Sl3
 starts : Sl3
 lines : Sl3
abbrev EvAt.ev (e : EvAt) (logv : Value) : Ent := cel e.eb 129 (e.sa.setup ++ [.pointer (some ⟨e.gl.g, 0, none⟩), .pointer (some ⟨e.wl.b, 0, none⟩), .pointer (some ⟨e.cb, 0, none⟩), e.cards.v 1, logv])
abbrev EvAt.ec (e : EvAt) (c : CardM) : Ent := cel e.cards.b 111 ([.int .i64 c.cls, e.starts.v c.starts.length, e.lines.v c.lines.length] ++ e.cards.sp)
abbrev EvAt.es (e : EvAt) (c : CardM) : Ent := cel e.starts.b 3 (bT (c.starts.map encI) ++ e.starts.sp)
abbrev EvAt.el (e : EvAt) (c : CardM) : Ent := cel e.lines.b 114 (bT (c.lines.map CLine.cells) ++ e.lines.sp)
abbrev eZ : CLine := ⟨0, 0, false, 2⟩
abbrev bE5 : CardM := ⟨0, [0], [eZ, eZ, eZ]⟩
section
variable {w0 : World} {M : List Ent}
theorem bE6 {a : SAt} (h : a.In M) : ∀ w, Ok w0 M w → Calls Tryz.prog 14 #[.agg a.setup.toArray] w (fun e w' => ∃ e' : EvAt, e = .returned (.tuple #[.pointer (some ⟨e'.eb, 0, none⟩), .int .i64 0]) ∧ aV4.Lies e'.wl ∧
  Ok w0 (e'.ev (.slice none 0 0) :: e'.ec bE5 :: e'.es bE5 :: e'.el bE5 :: (GuardSt.new nM).eg e'.gl :: (GuardSt.new nM).er e'.gl :: (GuardSt.new nM).ep e'.gl :: (GuardSt.new nM).ec e'.gl :: aV4.eb e'.wl :: aV4.em e'.wl :: (e'.wl.lE ++ (e'.wl.sE ++ (e'.sa.ents ++ M)))) w') := by
 refine enter (vs := [_]) Tryz.func14 rfl Tryz.ntmps14 rfl (aE (aA (te (cH rfl rfl fun b1 => (tv (aD rfl) (tv (aD rfl) ?_))))))
 refine aF (Tr.keep (env' := [(1, _)]) ⟨rfl, trivial⟩ (aB (aE (aE (aA ?_)))))
 refine tv (aY iH rfl (bL (n := 30) (vs := [_, _, _, _, _, _, _, _, _, _, _, _, _, _, _, _, _, _, _, _, _, _, _, _, _, _, _, _, _, _]) (.head _) rfl) rfl) (te (aJ aK5 rfl rfl rfl rfl (aD9 (h.sub (.cons _ (.refl _)))) (tv (aD rfl) (aF (Tr.keep (env' := [(1, _), (4, _)]) ⟨rfl, rfl, trivial⟩ (aB ?_))))))
 refine aE (aA (tv (aC rfl) (tv (eF rfl rfl) (aF (Tr.keep (env' := [(1, _), (4, _), (12, _)]) ⟨rfl, rfl, rfl, trivial⟩ ?_)))))
 refine aB (aR rfl (aO (aB (aE (aA ?_)))))
 refine tv (aY iH rfl (bL (n := 30) (vs := [_, _, _, _, _, _, _, _, _, _, _, _, _, _, _, _, _, _, _, _, _, _, _, _, _, _, _, _, _, _]) (.head _) rfl) rfl) (te (bP en_50 rfl rfl rfl rfl (owned_c (h.sub (.cons _ (.refl _)))) fun sa _ => ?_))
 have hin : sa.In (sa.ents ++ M) := SAt.in_ents
 simp only [SAt.ents, List.cons_append, List.nil_append] at hin ⊢
 refine tv (bU rfl (v := .agg (sa.setup ++ [Value.pointer none, Value.pointer none, Value.pointer none, Value.slice none 0 0, Value.slice none 0 0]).toArray) (fun w => by kernel_rfl)) (te (cH rfl rfl fun b17 => (tv (aD rfl) (aF (Tr.keep (env' := [(5, _)]) ⟨rfl, trivial⟩ (aB ?_))))))
 refine aE (aA (tv (aC rfl) (tv (aC rfl) (tv (aM rfl) (tv (aI eD rfl) ?_)))))
 refine tv (aI iD rfl) (tv (aY pQ rfl (bL (n := 6) (vs := [_, _, _, _, _, _]) (.head _) rfl) rfl) (te (bP zU rfl rfl rfl rfl (iX (p := nM) (by decide)) fun gl _ => (tv (aC rfl) (tv (bA rfl rfl) (tv (bA rfl rfl) ?_))))))
 refine tv (aM rfl) (tv (aI iI rfl) (te (bR iz_68 rfl rfl rfl (.succ (.succ (.succ (.succ (.succ (.succ (.succ (.succ (.succ (.succ (.succ (.succ (.succ (.succ (.succ (.succ (.succ (.succ (.succ (.succ (.succ (.succ (.succ (.succ (.succ (.succ (.succ (.succ (.succ (.succ .zero)))))))))))))))))))))))))))))) (.there (.there (.there (.there .here)))) (aF (Tr.keep (env' := [(5, _)]) ⟨rfl, trivial⟩ (aB ?_))))))
 refine aE (pE 17 (.cons_cons _ (.cons_cons _ (.cons_cons _ (.cons_cons _ (.cons _ (.refl _)))))) cK rfl (fX 0 rfl (.cons_cons _ (.cons_cons _ (.cons_cons _ (.cons_cons _ (.cons _ (.refl _)))))) (.refl _) (aC rfl) (fX 1 rfl (.cons_cons _ (.cons_cons _ (.cons_cons _ (.cons_cons _ (.cons _ (.refl _)))))) (.refl _) (aC rfl) (fX 2 rfl (.cons_cons _ (.cons_cons _ (.cons_cons _ (.cons_cons _ (.cons _ (.refl _)))))) (.refl _) (aM rfl) (fX 3 rfl (.cons_cons _ (.cons_cons _ (.cons_cons _ (.cons_cons _ (.cons _ (.refl _)))))) (.refl _) (aI eD rfl) ?_)))))
 refine fX 4 rfl (.cons_cons _ (.cons_cons _ (.cons_cons _ (.cons_cons _ (.cons _ (.refl _)))))) (.refl _) (aI eG rfl) (kv 5 rfl (.refl _) (aY sG rfl (bL (n := 3) (vs := [_, _, _]) (.tail _ (.tail _ (.tail _ (.tail _ (.head _))))) rfl) rfl) (fX 6 rfl (.cons_cons _ (.cons_cons _ (.cons_cons _ (.cons_cons _ (.cons _ (.refl _)))))) (.refl _) (aC rfl) (fX 7 rfl (.cons_cons _ (.cons_cons _ (.cons_cons _ (.cons_cons _ (.cons _ (.refl _)))))) (.refl _) (aM rfl) (fX 8 rfl (.cons_cons _ (.cons_cons _ (.cons_cons _ (.cons_cons _ (.cons _ (.refl _)))))) (.refl _) (aI eD rfl) (fX 9 rfl (.cons_cons _ (.cons_cons _ (.cons_cons _ (.cons_cons _ (.cons _ (.refl _)))))) (.refl _) (aI iZ rfl) ?_)))))
 refine kv 10 rfl (.refl _) (aG oO rfl (aK (.tail _ (.tail _ (.tail _ (.tail _ (.head _))))) rfl)) (eM 11 rfl rfl (by kernel_rfl) (bP aK3 rfl rfl rfl rfl (lL (least := [1000]) (srcs := wG) (hin.sub (.cons _ (.cons _ (.cons _ (.cons _ (.cons _ (.cons_cons _ (.cons_cons _ (.cons_cons _ (.cons_cons _ (.cons_cons _ (.cons_cons _ (.cons_cons _ (.cons _ (.refl _))))))))))))))).rLeast (hin.sub (.cons _ (.cons _ (.cons _ (.cons _ (.cons _ (.cons_cons _ (.cons_cons _ (.cons_cons _ (.cons_cons _ (.cons_cons _ (.cons_cons _ (.cons_cons _ (.cons _ (.refl _))))))))))))))).rSrcs (by decide) (by intro h; cases h) (by intro h; cases h) (by decide) (by decide)) fun wl hwl => (fQ (by kernel_rfl) (.cons _ (.cons _ (List.Sublist.trans (List.Sublist.trans (.refl _) (List.sublist_append_right _ _)) (List.sublist_append_right _ _)))) (fX 12 rfl (.cons_cons _ (.cons_cons _ (.cons_cons _ (.cons_cons _ (.cons _ (.refl _)))))) (.cons _ (.cons _ (List.Sublist.trans (List.Sublist.trans (.refl _) (List.sublist_append_right _ _)) (List.sublist_append_right _ _)))) (aC rfl) (fX 13 rfl (.cons_cons _ (.cons_cons _ (.cons_cons _ (.cons_cons _ (.cons _ (.refl _)))))) (.cons _ (.cons _ (List.Sublist.trans (List.Sublist.trans (.refl _) (List.sublist_append_right _ _)) (List.sublist_append_right _ _)))) (bA rfl rfl) (fX 14 rfl (.cons_cons _ (.cons_cons _ (.cons_cons _ (.cons_cons _ (.cons _ (.refl _)))))) (.cons _ (.cons _ (List.Sublist.trans (List.Sublist.trans (.refl _) (List.sublist_append_right _ _)) (List.sublist_append_right _ _)))) (bA rfl rfl) ?_))))))
 refine fX 15 rfl (.cons_cons _ (.cons_cons _ (.cons_cons _ (.cons_cons _ (.cons _ (.refl _)))))) (.cons _ (.cons _ (List.Sublist.trans (List.Sublist.trans (.refl _) (List.sublist_append_right _ _)) (List.sublist_append_right _ _)))) (aM rfl) (fX 16 rfl (.cons_cons _ (.cons_cons _ (.cons_cons _ (.cons_cons _ (.cons _ (.refl _)))))) (.cons _ (.cons _ (List.Sublist.trans (List.Sublist.trans (.refl _) (List.sublist_append_right _ _)) (List.sublist_append_right _ _)))) (aI mA rfl) (eM 17 rfl rfl (by kernel_rfl) (bR iz_95 rfl rfl rfl (.succ (.succ (.succ (.succ (.succ (.succ (.succ (.succ (.succ (.succ (.succ (.succ (.succ (.succ (.succ (.succ (.succ (.succ (.succ (.succ (.succ (.succ (.succ (.succ (.succ (.succ (.succ (.succ (.succ (.succ (.succ .zero))))))))))))))))))))))))))))))) (.there (.there (.right (.right (.there (.there (.there (.there .here)))))))) (eS (by kernel_rfl) (.cons _ (.cons _ (List.Sublist.trans (List.Sublist.trans (.cons_cons _ (.cons_cons _ (.cons_cons _ (.cons_cons _ (.cons _ (.refl _)))))) (List.sublist_append_right _ _)) (List.sublist_append_right _ _)))) (rS (by kernel_rfl) (Tr.keep (env' := [(5, _)]) ⟨rfl, trivial⟩ ?_))))))
 refine aB (aE (aA (tv (aC rfl) (tv (aC rfl) (tv (aM rfl) ?_)))))
 refine tv (aI eD rfl) (tv (aI iM rfl) (tv (aY rQ rfl (bL (n := 6) (vs := [_, _, _, _, _, _]) (.tail _ (.tail _ (List.mem_append_right _ (List.mem_append_right _ (.tail _ (.tail _ (.tail _ (.tail _ (.head _))))))))) rfl) rfl) (te (bP en_51 rfl rfl rfl rfl (aE1 (hin.sub (.cons _ (.cons _ (List.Sublist.trans (List.Sublist.trans (.cons _ (.cons _ (.cons _ (.cons _ (.cons _ (.cons_cons _ (.cons_cons _ (.cons_cons _ (.cons_cons _ (.cons_cons _ (.cons_cons _ (.cons_cons _ (.cons _ (.refl _)))))))))))))) (List.sublist_append_right _ _)) (List.sublist_append_right _ _)))))) fun cb _ => (tv (aC rfl) (tv (bA rfl rfl) ?_))))))
 refine tv (bA rfl rfl) (tv (aM rfl) (tv (aI aK6 rfl) (te (bR bE3 rfl rfl rfl (.succ (.succ (.succ (.succ (.succ (.succ (.succ (.succ (.succ (.succ (.succ (.succ (.succ (.succ (.succ (.succ (.succ (.succ (.succ (.succ (.succ (.succ (.succ (.succ (.succ (.succ (.succ (.succ (.succ (.succ (.succ (.succ .zero)))))))))))))))))))))))))))))))) (.there (.there (.right (.right (.there (.there (.there (.there .here)))))))) (aF (Tr.keep (env' := [(5, _)]) ⟨rfl, trivial⟩ ?_))))))
 refine aB (aE (aA (tv (aC rfl) (tv (aM rfl) (tv (aI eD rfl) ?_)))))
 refine tv (aI eA rfl) (tv (aI cQ rfl) (tv (aG eJ rfl (aK (.tail _ (.tail _ (List.mem_append_right _ (List.mem_append_right _ (.tail _ (.tail _ (.tail _ (.tail _ (.head _))))))))) rfl)) (tv (aP Tryz.underlying28 rfl) (tv (aD rfl) (aF ?_)))))
 refine Tr.keep (env' := [(5, _), (6, _)]) ⟨rfl, rfl, trivial⟩ (aB (aE (aE (aA (tv (aC rfl) ?_)))))
 refine tv (aM rfl) (tv (aI eD rfl) (tv (aI eG rfl) (tv (aI gM rfl) (tv (aG bB rfl (aK (.tail _ (.tail _ (List.mem_append_right _ (List.mem_append_right _ (.tail _ (.tail _ (.tail _ (.tail _ (.head _))))))))) rfl)) (tv (aC rfl) ?_)))))
 refine aF (Tr.keep (env' := [(5, _), (6, _), (71, _), (72, _)]) ⟨rfl, rfl, rfl, rfl, trivial⟩ (aB (aX (eN (cR ?_)))))
 refine aE (aA (tv (dI rfl rfl) (aF (Tr.keep (env' := [(5, _), (6, _), (71, _), (72, _), (73, _)]) ⟨rfl, rfl, rfl, rfl, rfl, trivial⟩ (aB ?_)))))
 refine aE (bI rfl (aO (aB (aE (aX ?_)))))
 refine aE (Tr.keep (env' := [(5, _), (6, _), (71, _), (72, _)]) ⟨rfl, rfl, rfl, rfl, trivial⟩ ?_)
 refine aP7 (α := Nat × Nat × Nat) (fun x => [(5, .pointer (some ⟨b17, 0, none⟩)), (6, .int .i64 3), (7, .pointer (some ⟨x.1, 0, none⟩)), (71, .int .i64 1), (72, .int .i64 0)]) (fun x => [cel x.1 111 [.int .i64 0, .slice (some ⟨x.2.1, 0, none⟩) 1 1, .slice (some ⟨x.2.2, 0, none⟩) 3 3], cel x.2.1 3 [.int .i64 0], cel x.2.2 114 [.int .i64 0, .int .i64 0, .bool false, .int .i64 0, .int .i64 0, .int .i64 0, .bool false, .int .i64 0, .int .i64 0, .int .i64 0, .bool false, .int .i64 0]]) (fun _ => True) ?_ ?_
 ·intro K hK
  refine cI cK rfl (dv 0 rfl (.refl _) (aC rfl) (dv 1 rfl (.refl _) (aM rfl) (dv 2 rfl (.refl _) (aI eD rfl) (dv 3 rfl (.refl _) (aI eA rfl) (dv 4 rfl (.refl _) (aI cQ rfl) ?_)))))
  refine dv 5 rfl (.refl _) (aG eJ rfl (aK (.tail _ (.tail _ (List.mem_append_right _ (List.mem_append_right _ (.tail _ (.tail _ (.tail _ (.tail _ (.head _))))))))) rfl)) (dv 6 rfl (.refl _) (aC rfl) (dv 7 rfl (.refl _) (cP rfl rfl (by omega)) (dv 8 rfl (.refl _) (dE (j := 2) Tryz.underlying28 eT rfl rfl rfl (by decide)) (dv 9 rfl (.refl _) (aI eC rfl) (dv 10 rfl (.refl _) (aG bB rfl (aK (.tail _ (.tail _ (List.mem_append_right _ (List.mem_append_right _ (.tail _ (.tail _ (.tail _ (.tail _ (.tail _ (.head _)))))))))) rfl)) ?_)))))
  refine dv 11 rfl (.refl _) (cC rfl rfl (by omega)) (dv 13 rfl (.refl _) (aC rfl) ?_)
  refine xS 12 14 16 rfl rfl rfl  rfl rfl rfl  (by kernel_rfl) ?_ ?_ ?_
  ·refine (cU (zs := [.int .i64 0]) Tryz.underlying24 eQ rfl (by decide) (m := 1) rfl (by decide) (by decide) rfl fun b86 => (aU (.cons _ (.refl _)) ?_))
   refine gP 14 16 rfl rfl  rfl rfl  (by kernel_rfl) ?_ ?_
   ·refine (cU (zs := [.int .i64 0, .int .i64 0, .bool false, .int .i64 0]) Tryz.underlying109 eU rfl (by decide) (m := 3) rfl (by decide) (by decide) rfl fun b88 => (aU (.cons _ (.cons _ (.refl _))) (dv 15 rfl (.cons _ (.cons _ (.refl _))) (bU rfl (v := .agg #[.int .i64 0, .slice (some ⟨b86, 0, none⟩) 1 1, .slice (some ⟨b88, 0, none⟩) 3 3]) (fun w => by kernel_rfl)) (de 16 rfl (bO eB (l := [.int .i64 0, .slice none 0 0, .slice none 0 0]) rfl rfl fun b7 => (aU (.cons _ (.cons _ (.cons _ (.refl _)))) (de 17 rfl (bJ dA rfl rfl (vs := [_, _, _]) rfl rfl (by simp [Value.oneCell']) (.cons .zero (.cons (.succ .zero) (.cons (.succ (.succ .zero)) .nil))) .here ?_))))))))
    refine aU (.cons _ (.cons _ (.cons _ (.refl _)))) (bQ (by kernel_rfl) ?_)
    exact dO (hK ⟨b7, b86, b88⟩ trivial) ⟨rfl, rfl, rfl, rfl, rfl, trivial⟩ (pk .here (pk (.there .here) (pk .here (.refl _)))) (.refl _)
   ·refine (bO eB (l := [.int .i64 0, .slice none 0 0, .slice none 0 0]) rfl rfl fun b7 => (aU (.cons _ (.cons _ (.refl _))) (de 14 rfl (cU (zs := [.int .i64 0, .int .i64 0, .bool false, .int .i64 0]) Tryz.underlying109 eU rfl (by decide) (m := 3) rfl (by decide) (by decide) rfl fun b88 => (aU (.cons _ (.cons _ (.cons _ (.refl _)))) (dv 15 rfl (.cons _ (.cons _ (.cons _ (.refl _)))) (bU rfl (v := .agg #[.int .i64 0, .slice (some ⟨b86, 0, none⟩) 1 1, .slice (some ⟨b88, 0, none⟩) 3 3]) (fun w => by kernel_rfl)) (de 17 rfl (bJ dA rfl rfl (vs := [_, _, _]) rfl rfl (by simp [Value.oneCell']) (.cons .zero (.cons (.succ .zero) (.cons (.succ (.succ .zero)) .nil))) (.there .here) ?_))))))))
    refine aU (.cons _ (.cons _ (.cons _ (.refl _)))) (bQ (by kernel_rfl) ?_)
    exact dO (hK ⟨b7, b86, b88⟩ trivial) ⟨rfl, rfl, rfl, rfl, rfl, trivial⟩ (pk (.there .here) (pk (.there .here) (pk .here (.refl _)))) (.refl _)
  ·refine (cU (zs := [.int .i64 0, .int .i64 0, .bool false, .int .i64 0]) Tryz.underlying109 eU rfl (by decide) (m := 3) rfl (by decide) (by decide) rfl fun b88 => (aU (.cons _ (.refl _)) ?_))
   refine gP 12 16 rfl rfl  rfl rfl  (by kernel_rfl) ?_ ?_
   ·refine (cU (zs := [.int .i64 0]) Tryz.underlying24 eQ rfl (by decide) (m := 1) rfl (by decide) (by decide) rfl fun b86 => (aU (.cons _ (.cons _ (.refl _))) (dv 15 rfl (.cons _ (.cons _ (.refl _))) (bU rfl (v := .agg #[.int .i64 0, .slice (some ⟨b86, 0, none⟩) 1 1, .slice (some ⟨b88, 0, none⟩) 3 3]) (fun w => by kernel_rfl)) (de 16 rfl (bO eB (l := [.int .i64 0, .slice none 0 0, .slice none 0 0]) rfl rfl fun b7 => (aU (.cons _ (.cons _ (.cons _ (.refl _)))) (de 17 rfl (bJ dA rfl rfl (vs := [_, _, _]) rfl rfl (by simp [Value.oneCell']) (.cons .zero (.cons (.succ .zero) (.cons (.succ (.succ .zero)) .nil))) .here ?_))))))))
    refine aU (.cons _ (.cons _ (.cons _ (.refl _)))) (bQ (by kernel_rfl) ?_)
    exact dO (hK ⟨b7, b86, b88⟩ trivial) ⟨rfl, rfl, rfl, rfl, rfl, trivial⟩ (pk .here (pk .here (pk .here (.refl _)))) (.refl _)
   ·refine (bO eB (l := [.int .i64 0, .slice none 0 0, .slice none 0 0]) rfl rfl fun b7 => (aU (.cons _ (.cons _ (.refl _))) (de 12 rfl (cU (zs := [.int .i64 0]) Tryz.underlying24 eQ rfl (by decide) (m := 1) rfl (by decide) (by decide) rfl fun b86 => (aU (.cons _ (.cons _ (.cons _ (.refl _)))) (dv 15 rfl (.cons _ (.cons _ (.cons _ (.refl _)))) (bU rfl (v := .agg #[.int .i64 0, .slice (some ⟨b86, 0, none⟩) 1 1, .slice (some ⟨b88, 0, none⟩) 3 3]) (fun w => by kernel_rfl)) (de 17 rfl (bJ dA rfl rfl (vs := [_, _, _]) rfl rfl (by simp [Value.oneCell']) (.cons .zero (.cons (.succ .zero) (.cons (.succ (.succ .zero)) .nil))) (.there .here) ?_))))))))
    refine aU (.cons _ (.cons _ (.cons _ (.refl _)))) (bQ (by kernel_rfl) ?_)
    exact dO (hK ⟨b7, b86, b88⟩ trivial) ⟨rfl, rfl, rfl, rfl, rfl, trivial⟩ (pk (.there .here) (pk .here (pk .here (.refl _)))) (.refl _)
  ·refine (bO eB (l := [.int .i64 0, .slice none 0 0, .slice none 0 0]) rfl rfl fun b7 => (aU (.cons _ (.refl _)) ?_))
   refine gP 12 14 rfl rfl  rfl rfl  (by kernel_rfl) ?_ ?_
   ·refine (cU (zs := [.int .i64 0]) Tryz.underlying24 eQ rfl (by decide) (m := 1) rfl (by decide) (by decide) rfl fun b86 => (aU (.cons _ (.cons _ (.refl _))) (de 14 rfl (cU (zs := [.int .i64 0, .int .i64 0, .bool false, .int .i64 0]) Tryz.underlying109 eU rfl (by decide) (m := 3) rfl (by decide) (by decide) rfl fun b88 => (aU (.cons _ (.cons _ (.cons _ (.refl _)))) (dv 15 rfl (.cons _ (.cons _ (.cons _ (.refl _)))) (bU rfl (v := .agg #[.int .i64 0, .slice (some ⟨b86, 0, none⟩) 1 1, .slice (some ⟨b88, 0, none⟩) 3 3]) (fun w => by kernel_rfl)) (de 17 rfl (bJ dA rfl rfl (vs := [_, _, _]) rfl rfl (by simp [Value.oneCell']) (.cons .zero (.cons (.succ .zero) (.cons (.succ (.succ .zero)) .nil))) (.there (.there .here)) ?_))))))))
    refine aU (.cons _ (.cons _ (.cons _ (.refl _)))) (bQ (by kernel_rfl) ?_)
    exact dO (hK ⟨b7, b86, b88⟩ trivial) ⟨rfl, rfl, rfl, rfl, rfl, trivial⟩ (pk (.there (.there .here)) (pk (.there .here) (pk .here (.refl _)))) (.refl _)
   ·refine (cU (zs := [.int .i64 0, .int .i64 0, .bool false, .int .i64 0]) Tryz.underlying109 eU rfl (by decide) (m := 3) rfl (by decide) (by decide) rfl fun b88 => (aU (.cons _ (.cons _ (.refl _))) (de 12 rfl (cU (zs := [.int .i64 0]) Tryz.underlying24 eQ rfl (by decide) (m := 1) rfl (by decide) (by decide) rfl fun b86 => (aU (.cons _ (.cons _ (.cons _ (.refl _)))) (dv 15 rfl (.cons _ (.cons _ (.cons _ (.refl _)))) (bU rfl (v := .agg #[.int .i64 0, .slice (some ⟨b86, 0, none⟩) 1 1, .slice (some ⟨b88, 0, none⟩) 3 3]) (fun w => by kernel_rfl)) (de 17 rfl (bJ dA rfl rfl (vs := [_, _, _]) rfl rfl (by simp [Value.oneCell']) (.cons .zero (.cons (.succ .zero) (.cons (.succ (.succ .zero)) .nil))) (.there (.there .here)) ?_))))))))
    refine aU (.cons _ (.cons _ (.cons _ (.refl _)))) (bQ (by kernel_rfl) ?_)
    exact dO (hK ⟨b7, b86, b88⟩ trivial) ⟨rfl, rfl, rfl, rfl, rfl, trivial⟩ (pk (.there (.there .here)) (pk .here (pk .here (.refl _)))) (.refl _)
 intro x _
 simp only [List.cons_append, List.nil_append]
 refine Tr.keep (env' := [(5, _), (6, _), (7, _), (71, _), (72, _)]) ⟨rfl, rfl, rfl, rfl, rfl, trivial⟩ (aB (aE (aE (aA (tv (aI eH rfl) ?_)))))
 refine tv (aG gF rfl (aK (.head _) rfl)) (tv (aP Tryz.underlying109 rfl) (tv (aC rfl) (aF (Tr.keep (env' := [(5, _), (6, _), (7, _), (71, _), (72, _), (92, _), (93, _)]) ⟨rfl, rfl, rfl, rfl, rfl, rfl, rfl, trivial⟩ (aB ?_)))))
 refine aX (eN (cR (aE (aA (tv (dI rfl rfl) ?_)))))
 refine aF (Tr.keep (env' := [(5, _), (6, _), (7, _), (71, _), (72, _), (92, _), (93, _), (94, _)]) ⟨rfl, rfl, rfl, rfl, rfl, rfl, rfl, rfl, trivial⟩ (aB (aE (bI rfl (aO ?_)))))
 refine aB (aE (aX (aE (aA (tv (aC rfl) ?_)))))
 refine tv (aD rfl) (aF (Tr.keep (env' := [(5, _), (6, _), (7, _), (8, _), (71, _), (72, _), (92, _), (93, _)]) ⟨rfl, rfl, rfl, rfl, rfl, rfl, rfl, rfl, trivial⟩ (aB (aA (tv (aI eH rfl) ?_)))))
 refine tv (aG gF rfl (aK (.head _) rfl)) (tv (aC rfl) (tv (dE (j := 0) Tryz.underlying109 jF rfl rfl rfl (by decide)) (tv (aI iW rfl) (te (bR wI rfl rfl rfl (.succ (.succ (.succ .zero))) (.there (.there .here)) (aF ?_))))))
 refine Tr.keep (env' := [(5, _), (6, _), (7, _), (71, _), (72, _), (92, _), (93, _)]) ⟨rfl, rfl, rfl, rfl, rfl, rfl, rfl, trivial⟩ (cX (aB (aA (tv (cC rfl rfl (by omega)) (tv (aC rfl) ?_)))))
 refine aF (Tr.keep (env' := [(5, _), (6, _), (7, _), (71, _), (72, _), (92, _), (93, _)]) ⟨rfl, rfl, rfl, rfl, rfl, rfl, rfl, trivial⟩ (aB (cR (aE (aA ?_)))))
 refine tv (dI rfl rfl) (aF (Tr.keep (env' := [(5, _), (6, _), (7, _), (71, _), (72, _), (92, _), (93, _), (94, _)]) ⟨rfl, rfl, rfl, rfl, rfl, rfl, rfl, rfl, trivial⟩ (aB (aE (bI rfl ?_)))))
 refine aO (aB (aE (aX (aE (aA ?_)))))
 refine tv (aC rfl) (tv (aD rfl) (aF (Tr.keep (env' := [(5, _), (6, _), (7, _), (8, _), (71, _), (72, _), (92, _), (93, _)]) ⟨rfl, rfl, rfl, rfl, rfl, rfl, rfl, rfl, trivial⟩ (aB (aA ?_)))))
 refine tv (aI eH rfl) (tv (aG gF rfl (aK (.head _) rfl)) (tv (aC rfl) (tv (dE (j := 1) Tryz.underlying109 jF rfl rfl rfl (by decide)) (tv (aI iW rfl) (te (bR wI rfl rfl rfl (.succ (.succ (.succ (.succ (.succ (.succ (.succ .zero))))))) (.there (.there .here)) ?_))))))
 refine aF (Tr.keep (env' := [(5, _), (6, _), (7, _), (71, _), (72, _), (92, _), (93, _)]) ⟨rfl, rfl, rfl, rfl, rfl, rfl, rfl, trivial⟩ (cX (aB (aA (tv (cC rfl rfl (by omega)) ?_)))))
 refine tv (aC rfl) (aF (Tr.keep (env' := [(5, _), (6, _), (7, _), (71, _), (72, _), (92, _), (93, _)]) ⟨rfl, rfl, rfl, rfl, rfl, rfl, rfl, trivial⟩ (aB (cR (aE ?_)))))
 refine aA (tv (dI rfl rfl) (aF (Tr.keep (env' := [(5, _), (6, _), (7, _), (71, _), (72, _), (92, _), (93, _), (94, _)]) ⟨rfl, rfl, rfl, rfl, rfl, rfl, rfl, rfl, trivial⟩ (aB (aE ?_)))))
 refine bI rfl (aO (aB (aE (aX (aE ?_)))))
 refine aA (tv (aC rfl) (tv (aD rfl) (aF (Tr.keep (env' := [(5, _), (6, _), (7, _), (8, _), (71, _), (72, _), (92, _), (93, _)]) ⟨rfl, rfl, rfl, rfl, rfl, rfl, rfl, rfl, trivial⟩ (aB ?_)))))
 refine aA (tv (aI eH rfl) (tv (aG gF rfl (aK (.head _) rfl)) (tv (aC rfl) (tv (dE (j := 2) Tryz.underlying109 jF rfl rfl rfl (by decide)) (tv (aI iW rfl) ?_)))))
 refine te (bR wI rfl rfl rfl (.succ (.succ (.succ (.succ (.succ (.succ (.succ (.succ (.succ (.succ (.succ .zero))))))))))) (.there (.there .here)) (aF (Tr.keep (env' := [(5, _), (6, _), (7, _), (71, _), (72, _), (92, _), (93, _)]) ⟨rfl, rfl, rfl, rfl, rfl, rfl, rfl, trivial⟩ (cX (aB (aA ?_))))))
 refine tv (cC rfl rfl (by omega)) (tv (aC rfl) (aF (Tr.keep (env' := [(5, _), (6, _), (7, _), (71, _), (72, _), (92, _), (93, _)]) ⟨rfl, rfl, rfl, rfl, rfl, rfl, rfl, trivial⟩ (aB (cR ?_)))))
 refine aE (aA (tv (dI rfl rfl) (aF (Tr.keep (env' := [(5, _), (6, _), (7, _), (71, _), (72, _), (92, _), (93, _), (94, _)]) ⟨rfl, rfl, rfl, rfl, rfl, rfl, rfl, rfl, trivial⟩ (aB ?_)))))
 refine aE (aR rfl (cY (aS (aS (bX ?_)))))
 refine aB (pE 10 (.cons_cons _ (.cons_cons _ (.cons_cons _ (.cons_cons _ (.cons_cons _ (List.Sublist.append (.refl _) (List.Sublist.append (.refl _) (.cons_cons _ (.cons_cons _ (.cons_cons _ (.cons_cons _ (.cons _ (.refl _))))))))))))) cK rfl (fX 0 rfl (.cons_cons _ (.cons_cons _ (.cons_cons _ (.cons_cons _ (.cons_cons _ (List.Sublist.append (.refl _) (List.Sublist.append (.refl _) (.cons_cons _ (.cons_cons _ (.cons_cons _ (.cons_cons _ (.cons _ (.refl _))))))))))))) (.refl _) (aC rfl) (fX 1 rfl (.cons_cons _ (.cons_cons _ (.cons_cons _ (.cons_cons _ (.cons_cons _ (List.Sublist.append (.refl _) (List.Sublist.append (.refl _) (.cons_cons _ (.cons_cons _ (.cons_cons _ (.cons_cons _ (.cons _ (.refl _))))))))))))) (.refl _) (aC rfl) (fX 2 rfl (.cons_cons _ (.cons_cons _ (.cons_cons _ (.cons_cons _ (.cons_cons _ (List.Sublist.append (.refl _) (List.Sublist.append (.refl _) (.cons_cons _ (.cons_cons _ (.cons_cons _ (.cons_cons _ (.cons _ (.refl _))))))))))))) (.refl _) (aM rfl) (fX 3 rfl (.cons_cons _ (.cons_cons _ (.cons_cons _ (.cons_cons _ (.cons_cons _ (List.Sublist.append (.refl _) (List.Sublist.append (.refl _) (.cons_cons _ (.cons_cons _ (.cons_cons _ (.cons_cons _ (.cons _ (.refl _))))))))))))) (.refl _) (aI iT rfl) ?_)))))
 refine kv 4 rfl (.refl _) (aG pO rfl (aK (.tail _ (.tail _ (.tail _ (.tail _ (.tail _ (List.mem_append_right _ (List.mem_append_right _ (.tail _ (.tail _ (.tail _ (.tail _ (.head _)))))))))))) rfl)) (fX 5 rfl (.cons_cons _ (.cons_cons _ (.cons_cons _ (.cons_cons _ (.cons_cons _ (List.Sublist.append (.refl _) (List.Sublist.append (.refl _) (.cons_cons _ (.cons_cons _ (.cons_cons _ (.cons_cons _ (.cons _ (.refl _))))))))))))) (.refl _) (aY jP rfl (bL (n := 3) (vs := [_, _, _]) (.head _) rfl) rfl) (eM 6 rfl rfl (by kernel_rfl) (bN (E := 111) (l := [.int .i64 0, .slice (some ⟨x.2.1, 0, none⟩) 1 1, .slice (some ⟨x.2.2, 0, none⟩) 3 3]) rfl (fun w => by kernel_rfl) rfl fun b108 => (fQ (by kernel_rfl) (.cons _ (.refl _)) (eM 7 rfl rfl (by kernel_rfl) (fN Tryz.underlying53 eB rfl (by decide) rfl rfl (Own.nil 111 3) (.refl _) rfl (by simp [Value.oneCell']) (by decide) (by decide) rfl fun v1 E1 hO1 => (fQ (by kernel_rfl) (List.Sublist.trans (.refl _) (List.sublist_append_right _ _)) ?_)))))))
 refine fX 8 rfl (.cons_cons _ (.cons_cons _ (.cons_cons _ (.cons_cons _ (.cons_cons _ (List.Sublist.append (.refl _) (List.Sublist.append (.refl _) (.cons_cons _ (.cons_cons _ (.cons_cons _ (.cons_cons _ (.cons _ (.refl _))))))))))))) (List.Sublist.trans (.refl _) (List.sublist_append_right _ _)) (aM rfl) (fX 9 rfl (.cons_cons _ (.cons_cons _ (.cons_cons _ (.cons_cons _ (.cons_cons _ (List.Sublist.append (.refl _) (List.Sublist.append (.refl _) (.cons_cons _ (.cons_cons _ (.cons_cons _ (.cons_cons _ (.cons _ (.refl _))))))))))))) (List.Sublist.trans (.refl _) (List.sublist_append_right _ _)) (aI iT rfl) (eM 10 rfl rfl (by kernel_rfl) (bR bE4 rfl rfl (Own.one hO1) (.succ (.succ (.succ (.succ (.succ (.succ (.succ (.succ (.succ (.succ (.succ (.succ (.succ (.succ (.succ (.succ (.succ (.succ (.succ (.succ (.succ (.succ (.succ (.succ (.succ (.succ (.succ (.succ (.succ (.succ (.succ (.succ (.succ .zero))))))))))))))))))))))))))))))))) (.right (.there (.there (.there (.there (.there (.right (.right (.there (.there (.there (.there .here)))))))))))) (eS (by kernel_rfl) (List.Sublist.trans (.cons_cons _ (.cons_cons _ (.cons_cons _ (.cons_cons _ (.cons_cons _ (List.Sublist.append (.refl _) (List.Sublist.append (.refl _) (.cons_cons _ (.cons_cons _ (.cons_cons _ (.cons_cons _ (.cons _ (.refl _))))))))))))) (List.sublist_append_right _ _)) (rS (by kernel_rfl) (Tr.keep (env' := [(5, _), (6, _), (71, _), (72, _)]) ⟨rfl, rfl, rfl, rfl, trivial⟩ ?_))))))
 refine cX (aB (aA (tv (cC rfl rfl (by omega)) (tv (aC rfl) (aF ?_)))))
 refine Tr.keep (env' := [(5, _), (6, _), (71, _), (72, _)]) ⟨rfl, rfl, rfl, rfl, trivial⟩ (aB (cR (aE (aA (tv (dI rfl rfl) ?_)))))
 refine aF (Tr.keep (env' := [(5, _), (6, _), (71, _), (72, _), (73, _)]) ⟨rfl, rfl, rfl, rfl, rfl, trivial⟩ (aB (aE (aR rfl (cY ?_)))))
 refine aS (aS (bX (aB (aE (aA ?_)))))
 refine tv (aC rfl) (tv (aD rfl) (tv (aD rfl) (aF (Tr.keep (env' := [(2, _), (3, _)]) ⟨rfl, rfl, trivial⟩ (aB ?_)))))
 refine aQ (gG rfl rfl rfl (fun w hw => ?_))
 obtain ⟨sC, hv, hE⟩ := gA hO1 rfl (Nat.succ_pos _)
 subst hv hE
 exact ⟨⟨b17, sa, gl, wl, cb, sC, ⟨x.2.1, 1, []⟩, ⟨x.2.2, 3, []⟩⟩, rfl, hwl, Ok.sub (hw.perm (pk (.there (.there (.there (.there (.there (.there (.right (.right (.there (.there (.there (.there .here)))))))))))) (pk .here (pk (.there .here) (pk (.there .here) (pk (.there (.there (.there (.right (.right .here))))) (pk (.there (.there (.there (.right (.right .here))))) (pk (.there (.there (.there (.right (.right .here))))) (pk (.there (.there (.there (.right (.right .here))))) (pk (.there .here) (pk (.there .here) (mH (.there .here) (mH (.there .here) (pk (.there .here) (pk (.there .here) (pk (.there .here) (pk (.there .here) (pk (.there .here) (pk (.there .here) (pk (.there .here) (.refl _))))))))))))))))))))) (.cons_cons _ (.cons_cons _ (.cons_cons _ (.cons_cons _ (.cons_cons _ (.cons_cons _ (.cons_cons _ (.cons_cons _ (.cons_cons _ (.cons_cons _ (List.Sublist.append (.refl _) (List.Sublist.append (.refl _) (.cons_cons _ (.cons_cons _ (.cons_cons _ (.cons_cons _ (.cons_cons _ (.cons_cons _ (.cons_cons _ (.cons _ (.cons _ (.refl _))))))))))))))))))))))⟩
end
end Go.Proofs.W
set_option linter.unusedVariables false
set_option linter.unusedSimpArgs false
set_option linter.unusedSectionVars false
set_option maxRecDepth 100000
namespace Go.Proofs.W
open Go Go.Sl Go.RowKit Go.Proofs
attribute [local irreducible] Go.Sl.Eff
theorem en_81 : aV Tryz.prog 81 := aL Tryz.func81 (by kernel_rfl) (by kernel_rfl)
section
variable {w0 : World} {M : List Ent}
theorem mY {b c : Bool} (h : b = c) : some (Value.bool b) = some (.bool c) := by rw [h]
abbrev jQ (e : Int) : List PanicEntry := [{ v := .iface 227 (.agg #[.int .i64 e]), recovered := false }]
theorem mL : ∀ w, Ok w0 M w → Calls Tryz.prog 234 #[.int .i64 0] w (fun e w' => e = .returned (.tuple #[]) ∧ Ok w0 M w') := by
 refine enter (vs := [_]) Tryz.func234 rfl Tryz.ntmps234 rfl (aE (aA (tv (aC rfl) (tv (eF rfl rfl) (aF ?_)))))
 refine Tr.keep (env' := [(0, _), (3, _)]) ⟨rfl, rfl, trivial⟩ (aB (aR rfl (aO (eV rfl (fun w hw => ?_)))))
 exact ⟨rfl, hw⟩
theorem vH (x : Int) (hx : x ≠ 0) : ∀ w, Ok w0 M w → Calls Tryz.prog 234 #[.int .i64 x] w (fun e w' => e = .panicked (jQ x) ∧ Ok w0 M w') := by
 refine enter (vs := [_]) Tryz.func234 rfl Tryz.ntmps234 rfl (aE (aA (tv (aC rfl) (tv (eF rfl rfl) (aF ?_)))))
 refine Tr.keep (env' := [(0, _), (3, _)]) ⟨rfl, rfl, trivial⟩ (aB (bI (mY (by simp [hx])) (aA (tv (aC rfl) (tv (bU rfl (v := .agg #[.int .i64 x]) (fun w => by kernel_rfl)) ?_)))))
 refine tv (kX Tryz.underlying227 (by simp) rfl) (te (e_panic rfl ?_))
 exact gT (fun w hw => ⟨rfl, hw⟩)
theorem wJ {e' : EvAt} {lv : Value} (h : e'.ev lv ∈ M) : ∀ w, Ok w0 M w → Calls Tryz.prog 235 #[.pointer (some ⟨e'.eb, 0, none⟩), .int .i64 1] w (fun e w' => e = .returned (.int .i64 0) ∧ Ok w0 M w') := by
 refine enter (vs := [_, _]) Tryz.func235 rfl Tryz.ntmps235 rfl (aE (aA (tv (aD rfl) (aF (Tr.keep (env' := [(0, _), (1, _)]) ⟨rfl, rfl, trivial⟩ ?_)))))
 refine aB (aE (aE (aA (tv (aC rfl) (tv (aC rfl) ?_)))))
 refine tv (aM rfl) (tv (aI eD rfl) (tv (aI eG rfl) (tv (aI gM rfl) (tv (aG bB rfl (aK h rfl)) (te (aJ en_81 rfl rfl rfl rfl (wZ _ _ _) ?_))))))
 refine tv (bF rfl) (aF (Tr.keep (env' := [(1, _), (13, _)]) ⟨rfl, rfl, trivial⟩ (aB (aR rfl (aO ?_)))))
 refine aB (aE (aA (tv (aC rfl) (tv (cP rfl rfl (by omega)) (tv (aD rfl) ?_)))))
 refine aF (Tr.keep (env' := [(4, _)]) ⟨rfl, trivial⟩ (aB (aQ (aW rfl rfl (fun w hw => ?_)))))
 exact ⟨rfl, hw⟩
end
end Go.Proofs.W
set_option linter.unusedVariables false
set_option linter.unusedSimpArgs false
set_option linter.unusedSectionVars false
set_option maxRecDepth 100000
namespace Go.Proofs.W
open Go Go.Sl Go.RowKit Go.Proofs
attribute [local irreducible] Go.Sl.Eff
section
variable {w0 : World} {N : Nat} {ds : List Deferred} {env : dM} {M : List Ent}
theorem cM {P : Program} {o : Op} {t : TypeId} {v v2 : Value} (h : fL P w0 N ds env M o t v) (e : v = v2) : fL P w0 N ds env M o t v2 := e ▸ h
theorem i32_in {n : Int} (h : -2147483648 ≤ n ∧ n ≤ 2147483647) : IntKind.i32.wrap n = n := by
 rw [IntKind.wrap_i32]; omega
def lD (s : ByteArray) : Nat → Int
 | 0 => 0
 | p + 1 => 10 * lD s p + (((s.get! p).toNat : Int) - 48)
def fT (s : ByteArray) : Prop := ∀ p, p < s.size → 48 ≤ (s.get! p).toNat ∧ (s.get! p).toNat ≤ 57
theorem aK7 {s : ByteArray} (hd : fT s) : ∀ p, p ≤ s.size → 0 ≤ lD s p ∧ lD s p < 10 ^ p
 | 0, _ => by simp [lD]
 | p + 1, h => by
  have h1 := aK7 hd p (by omega)
  have h2 := hd p (by omega)
  simp only [lD, Int.pow_succ]
  omega
theorem wK {s : ByteArray} (hd : fT s) (hs : s.size ≤ 15) (p : Nat) (hp : p ≤ s.size) : 0 ≤ lD s p ∧ lD s p ≤ 999999999999999 := by
 have h := aK7 hd p hp
 have h2 : (10 : Int) ^ p ≤ 10 ^ 15 := by exact_mod_cast Nat.pow_le_pow_right (by decide) (by omega : p ≤ 15)
 have h3 : (10 : Int) ^ 15 = 1000000000000000 := by decide
 omega
def wL (s : ByteArray) : Bool := s.size != 0 && ((s.get! 0).toNat != 48 || s.size == 1)
theorem wM (s : ByteArray) (p : Nat) (h : p < s.size) : s.get! p = s[p]'h := by
 simp [ByteArray.get!, getElem!_pos, h]
 rfl
theorem bE7 {s : ByteArray} {b : Bool} (h : ((!decide (s = ⟨#[]⟩)) && b) = true) : 0 < s.size := by
 rcases Nat.eq_zero_or_pos s.size with h0 | h0
 ·have : s = ⟨#[]⟩ := by
   cases s with | mk d => simp [ByteArray.size] at h0; simp [h0]
  simp [this] at h
 ·exact h0
theorem num_ok {s : ByteArray} (h : lD s s.size ≤ 999999999999999) :
  ((!decide (s = ⟨#[]⟩)) && decide (lD s s.size ≤ 1000000000000000) && (((s.get! 0).toNat : Int) != 48 || (s.size : Int) == 1)) = wL s := by
 have h1 : decide (lD s s.size ≤ 1000000000000000) = true := by simp; omega
 have h2 : decide (s = ⟨#[]⟩) = (s.size == 0) := by
  rcases Nat.eq_zero_or_pos s.size with h0 | h0
  ·have : s = ⟨#[]⟩ := by cases s with | mk d => simp [ByteArray.size] at h0; simp [h0]
   subst this; rfl
  ·have : s ≠ ⟨#[]⟩ := by intro e; subst e; simp [ByteArray.size] at h0
   have h5 : (s.size == 0) = false := by rw [beq_eq_false_iff_ne]; omega
   rw [h5]; simp [this]
 have h3 : (((s.get! 0).toNat : Int) != 48) = ((s.get! 0).toNat != 48) := by
  rw [Bool.eq_iff_iff]; simp; omega
 have h4 : ((s.size : Int) == 1) = (s.size == 1) := by
  rw [Bool.eq_iff_iff]; simp; omega
 rw [h1, h2, h3, h4]
 simp [wL, bne]
theorem get0 {s : ByteArray} (h : 0 < s.size) : s[0]? = some (s.get! 0) := by
 rw [wM s 0 h]; simp [h]
theorem aK8 (s : ByteArray) (hd : fT s) (hs : s.size ≤ 15) : ∀ w, Ok w0 M w → Calls Tryz.prog 266 #[.string s] w (fun e w' => e = .returned (.tuple #[.int .i64 (lD s s.size), .bool (wL s)]) ∧ Ok w0 M w') := by
 refine enter (vs := [_]) Tryz.func266 rfl Tryz.ntmps266 rfl (aE (aA (tv (aD rfl) (tv (aD rfl) (aF ?_)))))
 refine Tr.keep (env' := [(0, _)]) ⟨rfl, trivial⟩ (aB (aE (aA (tv (aD rfl) (aF ?_)))))
 refine Tr.keep (env' := [(0, _), (4, _)]) ⟨rfl, rfl, trivial⟩ (aB (aE (aE (aA (tv (aC rfl) ?_)))))
 refine te (bE9 Tryz.underlying9 rfl rfl fun b8 => (aF (Tr.keep (env' := [(0, _), (4, _), (8, _)]) ⟨rfl, rfl, rfl, trivial⟩ (aB (aX (dW (fun p : Nat => [(0, .string s), (4, .int .i64 (lD s p)), (8, .pointer (some ⟨b8, 0, none⟩))]) (fun p : Nat => stE b8 s p :: M) (fun p : Nat => p ≤ s.size) (fun p : Nat => s.size - p) 0 (Nat.zero_le _) ⟨rfl, rfl, rfl, trivial⟩ (.refl _) ?_))))))
 intro K p hp IH
 refine aE (aA ?_)
 refine te (e_nextS rfl rfl (fun q => .here) (fun hend => ?_) (fun hlt => ?_))
 ·refine tv (bA rfl rfl) (aF (Tr.keep (env' := [(0, _), (4, _), (8, _), (9, _), (10, _)]) ⟨rfl, rfl, rfl, rfl, rfl, trivial⟩ (aB (aE (aR rfl ?_)))))
  refine cY (aS (aS (bX (aB (aE ?_)))))
  refine aA (tv (aC rfl) (tv (aC rfl) (tv (r_nes rfl rfl) (tv (aC rfl) ?_))))
  apply bH 3 (s := 31) (d := 34) rfl
  ·intro hg1 K hK
   refine bE hg1 rfl rfl (aC rfl) (bE hg1 rfl rfl (iF rfl rfl) (tv (bV hg1 rfl rfl) ?_))
   iterate 2 refine Tr.weak2 rfl ?_
   exact hK _ (dT hg1)
  ·intro hg1 K hK
   refine aH hg1 rfl rfl rfl rfl (aH hg1 rfl rfl rfl rfl (tv (bW hg1 rfl rfl) ?_))
   iterate 2 refine Tr.weak2 rfl ?_
   exact hK _ (dU hg1)
  refine tv (aC rfl) ?_
  apply bH 9 (s := 35) (d := 44) rfl
  ·intro hg2 K hK
   refine bE hg2 rfl rfl (aC rfl) (bE hg2 rfl rfl (qV (b := s.get! 0) 0 Tryz.underlying9 rfl rfl rfl (get0 (bE7 hg2))) (bE hg2 rfl rfl (eF rfl rfl) (bE hg2 rfl rfl (aC rfl) ?_)))
   apply aZ 4 (s := 39) (d := 43) rfl
   ·intro hg3 K hK
    refine bE hg3 rfl rfl (aC rfl) (bE hg3 rfl rfl (eO Tryz.underlying9 rfl) (bE hg3 rfl rfl (cW rfl rfl) (bE hg2 rfl rfl (bW hg3 rfl rfl) ?_)))
    iterate 3 refine Tr.weak2 rfl ?_
    exact hK _ (dJ hg3)
   ·intro hg3 K hK
    refine aH hg3 rfl rfl rfl rfl (aH hg3 rfl rfl rfl rfl (aH hg3 rfl rfl rfl rfl (bE hg2 rfl rfl (bV hg3 rfl rfl) ?_)))
    iterate 3 refine Tr.weak2 rfl ?_
    exact hK _ (dK hg3)
   refine tv (bV hg2 rfl rfl) ?_
   iterate 5 refine Tr.weak2 rfl ?_
   exact hK _ (dT hg2)
  ·intro hg2 K hK
   refine aH hg2 rfl rfl rfl rfl (aH hg2 rfl rfl rfl rfl (aH hg2 rfl rfl rfl rfl (aH hg2 rfl rfl rfl rfl (bZ rfl rfl rfl (bZ rfl rfl rfl ?_)))))
   refine bZ rfl rfl rfl (aH hg2 rfl rfl rfl rfl (tv (bW hg2 rfl rfl) ?_))
   iterate 8 refine Tr.weak2 rfl ?_
   exact hK _ (dU hg2)
  refine tv (aD rfl) (tv (aD rfl) (aF (Tr.keep (env' := [(2, _), (3, _)]) ⟨rfl, rfl, trivial⟩ (aB (aQ ?_)))))
  refine gG rfl rfl rfl (fun w hw => ?_)
  have hp2 : p = s.size := by omega
  subst hp2
  exact ⟨by rw [num_ok (wK hd hs _ (Nat.le_refl _)).2], hw.sub (.cons _ (.refl _))⟩
 ·have hdg := hd p hlt
  rw [decode_ascii s p hlt (by rw [← wM s p hlt]; omega), ← wM s p hlt]
  dsimp only
  have hn := wK hd hs p (by omega)
  have hn1 := wK hd hs (p + 1) (by omega)
  have hnx : lD s (p + 1) = 10 * lD s p + (((s.get! p).toNat : Int) - 48) := rfl
  generalize hc : (s.get! p).toNat = c at hdg hnx ⊢
  refine tv (bA rfl rfl) (aF (Tr.keep (env' := [(0, _), (4, _), (8, _), (9, _), (10, _)]) ⟨rfl, rfl, rfl, rfl, rfl, trivial⟩ (aB (aE (bI rfl ?_)))))
  refine aO (aB (aX (aE (aA (tv (bA rfl rfl) ?_)))))
  refine tv (aD rfl) (aF (Tr.keep (env' := [(0, _), (4, _), (6, _), (8, _)]) ⟨rfl, rfl, rfl, rfl, trivial⟩ (aB (aE (aE ?_)))))
  refine aA (tv (aC rfl) (tv (cM (v2 := .bool false) (dI rfl rfl) (by simp; omega)) (tv (aC rfl) (cV rfl rfl (aC rfl) (cV rfl rfl (cM (v2 := .bool false) (fC rfl rfl) (by simp; omega)) ?_)))))
  refine tv (bS rfl rfl) (tv (aC rfl) (cV rfl rfl (aC rfl) (cV rfl rfl (cM (v2 := .bool false) (fC rfl rfl) (by simp; omega)) (tv (bS rfl rfl) (aF ?_)))))
  refine Tr.keep (env' := [(0, _), (4, _), (6, _), (8, _), (21, _)]) ⟨rfl, rfl, rfl, rfl, rfl, trivial⟩ (aB (aR rfl (aO (aB (aA ?_)))))
  refine tv (aC rfl) (tv (r_muli rfl rfl (by omega)) (tv (aC rfl) (tv (bI2 rfl rfl (s := (c : Int) - 48) (i32_in (by omega))) (tv (hD Tryz.underlying21 Tryz.underlying3 rfl (jI (by omega) : IntKind.i64.wrap ((c : Int) - 48) = (c : Int) - 48)) (tv (cM (v2 := .int .i64 (lD s (p + 1))) (cC rfl rfl (by omega)) (by rw [hnx])) ?_)))))
  refine tv (aD rfl) (aF (Tr.keep (env' := [(0, _), (4, _), (8, _)]) ⟨rfl, rfl, rfl, trivial⟩ (cX (aB ?_))))
  refine nD (IH (p + 1) (by omega) (by omega)) ⟨rfl, rfl, rfl, trivial⟩ (.refl _)
end
end Go.Proofs.W
