/-
 What functions of the program that RallyChecks reaches do, one contract each, part 11.
-/
import Derived.Test.YtakiijkfjjmppaaGreatDoorKWJ
set_option linter.unusedVariables false
set_option linter.unusedSimpArgs false
set_option linter.unusedSectionVars false
set_option maxRecDepth 100000
set_option maxHeartbeats 1000000
namespace Go.Proofs.W
open Go Go.Sl Go.RowKit Go.Proofs
attribute [local irreducible] Go.Sl.Eff
structure Sl4 where
 A : Option Addr
 c : Nat
 E : List Ent
structure OwnS (T : TypeId) (z : Nat) (xs : List (List Value)) (n : Nat) (q : Sl4) : Prop where
 own : Own T z (.slice q.A n q.c) xs q.E
 nil : NoA q.A n q.c
 rd : ∀ w0 M, (∀ e ∈ q.E, e ∈ M) → SlRd w0 M z q.A n xs
theorem OwnS.of {T : TypeId} {z n : Nat} {v : Value} {xs : List (List Value)} {E : List Ent} (h : Own T z v xs E) (hn : xs.length = n) (hb : n ≤ 1000000) : ∃ q : Sl4, v = .slice q.A n q.c ∧ q.E = E ∧ OwnS T z xs n q := by
 subst hn
 obtain ⟨A, c, rfl, hl, h0, hrd⟩ := h.rd (by omega)
 exact ⟨⟨A, c, E⟩, rfl, rfl, h, fun e => by have := h0 e; simp at this; exact ⟨by rw [this.2.1]; rfl, this.2.2⟩, hrd⟩
structure OwnAt where
 L : Sl4
 S : Sl4
 I : Sl4
 J : Sl4
 X : Sl4
 Y : Sl4
 A : Sl4
abbrev OwnAt.at' (q : OwnAt) : SetupAt := ⟨q.L.A, q.S.A, q.A.A, q.L.c, q.S.c, q.A.c, ⟨q.I.A, q.J.A, q.X.A, q.Y.A, q.I.c, q.J.c, q.X.c, q.Y.c⟩⟩
abbrev OwnAt.ents (q : OwnAt) (M : List Ent) : List Ent := q.A.E ++ (q.Y.E ++ (q.X.E ++ (q.J.E ++ (q.I.E ++ (q.S.E ++ (q.L.E ++ M))))))
structure OwnAt.Ok (q : OwnAt) (s : SetupV) : Prop where
 L : OwnS 3 1 (s.least.map encI) s.least.length q.L
 S : OwnS 82 2 (s.srcs.map Src.cells) s.srcs.length q.S
 I : OwnS 104 4 (s.plan.items.map SItem.cells) s.plan.items.length q.I
 J : OwnS 3 1 (s.plan.jumps.map encI) s.plan.jumps.length q.J
 X : OwnS 3 1 (s.plan.points.map encI) s.plan.points.length q.X
 Y : OwnS 3 1 (s.plan.extra.map encI) s.plan.extra.length q.Y
 A : OwnS 201 4 (s.code.arts.map ArtV.cells) s.code.arts.length q.A
theorem OwnAt.Ok.in' {q : OwnAt} {s : SetupV} (h : q.Ok s) {w0 : World} {M M' : List Ent} (hM : (q.ents M).Sublist M') : s.In w0 M' q.at' := by
 have hA : ∀ e ∈ q.A.E, e ∈ M' := fun e he => hM.subset (by simp [he])
 have hY : ∀ e ∈ q.Y.E, e ∈ M' := fun e he => hM.subset (by simp [he])
 have hX : ∀ e ∈ q.X.E, e ∈ M' := fun e he => hM.subset (by simp [he])
 have hJ : ∀ e ∈ q.J.E, e ∈ M' := fun e he => hM.subset (by simp [he])
 have hI : ∀ e ∈ q.I.E, e ∈ M' := fun e he => hM.subset (by simp [he])
 have hS : ∀ e ∈ q.S.E, e ∈ M' := fun e he => hM.subset (by simp [he])
 have hL : ∀ e ∈ q.L.E, e ∈ M' := fun e he => hM.subset (by simp [he])
 exact ⟨h.L.rd _ _ hL, h.S.rd _ _ hS, ⟨h.I.rd _ _ hI, h.J.rd _ _ hJ, h.X.rd _ _ hX, h.Y.rd _ _ hY⟩, h.A.rd _ _ hA, h.L.nil, h.S.nil, h.A.nil, h.I.nil, h.J.nil, h.X.nil, h.Y.nil⟩
structure SetupV.Few (s : SetupV) : Prop where
 L : s.least.length ≤ 1000000
 S : s.srcs.length ≤ 1000000
 I : s.plan.items.length ≤ 1000000
 J : s.plan.jumps.length ≤ 1000000
 X : s.plan.points.length ≤ 1000000
 Y : s.plan.extra.length ≤ 1000000
 A : s.code.arts.length ≤ 1000000
theorem aX7 {l : List Int} : ∀ x ∈ l.map encI, ∀ u ∈ x, u.oneCell' = true := by
 intro x hx u hu
 obtain ⟨y, _, rfl⟩ := List.mem_map.1 hx
 simp [encI] at hu; subst hu; rfl
theorem one_s {l : List Src} : ∀ x ∈ l.map Src.cells, ∀ u ∈ x, u.oneCell' = true := by
 intro x hx u hu
 obtain ⟨y, _, rfl⟩ := List.mem_map.1 hx
 simp [Src.cells] at hu; rcases hu with rfl | rfl <;> rfl
theorem one_it {l : List SItem} : ∀ x ∈ l.map SItem.cells, ∀ u ∈ x, u.oneCell' = true := by
 intro x hx u hu
 obtain ⟨y, _, rfl⟩ := List.mem_map.1 hx
 simp [SItem.cells] at hu; rcases hu with rfl | rfl | rfl | rfl <;> rfl
theorem one_a {l : List ArtV} : ∀ x ∈ l.map ArtV.cells, ∀ u ∈ x, u.oneCell' = true := by
 intro x hx u hu
 obtain ⟨y, _, rfl⟩ := List.mem_map.1 hx
 simp [ArtV.cells] at hu; rcases hu with rfl | rfl | rfl | rfl <;> rfl
section
variable {w0 : World} {M : List Ent}
theorem bO0 {s : SetupV} {a : SetupAt} (h : s.In w0 M a) (hfew : s.Few) : ∀ w, Ok w0 M w → Calls Tryz.prog 50 #[.agg (s.cells a).toArray] w (fun e w' => ∃ q : OwnAt, e = .returned (.agg (s.cells q.at').toArray) ∧ q.Ok s ∧ Ok w0 (q.ents M) w') := by
 refine enter (vs := [_]) Tryz.func50 rfl Tryz.ntmps50 rfl (aE (aA (te (cH rfl rfl fun b1 => (te (bO aP4 (l := [.int .i64 0, .int .i64 0, .int .i64 0, .int .i64 0, .int .i64 0, .int .i64 0, .int .i64 0, .int .i64 0, .slice none 0 0, .slice none 0 0, .slice none 0 0, .int .i64 0, .int .i64 0, .int .i64 0, .int .i64 0, .int .i64 0, .slice none 0 0, .bool false, .int .i64 0, .int .i64 0, .int .i64 0, .int .i64 0, .slice none 0 0, .slice none 0 0, .int .i64 0, .slice none 0 0, .int .i64 0, .int .i64 0, .int .i64 0, .int .i64 0]) rfl rfl fun b2 => (aF ?_)))))))
 refine Tr.keep (env' := [(1, _), (2, _)]) ⟨rfl, rfl, trivial⟩ (aB (aE (aA (tv (aI eG rfl) (tv (aI jB rfl) ?_)))))
 refine tv (aG dQ rfl (aK (.tail _ (.head _)) rfl)) (te (bP pR rfl rfl rfl rfl (fS (h.least.sub (.cons _ (.cons _ (.refl _)))) aX7 h.nL hfew.L) fun x hx => ?_))
 obtain ⟨vL, EL⟩ := x
 obtain ⟨hOL, _⟩ := hx
 obtain ⟨qL, hv, hE, hqL⟩ := OwnS.of hOL (by simp) hfew.L
 dsimp only at hv hE ⊢
 subst hv hE
 refine tv (aI eG rfl) (tv (aI jB rfl) (te (bR lG rfl rfl rfl (.succ (.succ (.succ (.succ (.succ (.succ (.succ (.succ .zero)))))))) (.right (.there .here)) (aF (Tr.keep (env' := [(1, _), (2, _)]) ⟨rfl, rfl, trivial⟩ (aB ?_))))))
 refine aE (aA (tv (aI iZ rfl) (tv (aG oO rfl (aK (List.mem_append_right _ (.tail _ (.head _))) rfl)) (te (bP aW3 rfl rfl rfl rfl (jT (h.srcs.sub (List.Sublist.trans (.cons _ (.cons _ (.refl _))) (List.sublist_append_right _ _))) one_s h.nS hfew.S) fun x hx => ?_)))))
 obtain ⟨vS, ES⟩ := x
 obtain ⟨hOS, _⟩ := hx
 obtain ⟨qS, hv, hE, hqS⟩ := OwnS.of hOS (by simp) hfew.S
 dsimp only at hv hE ⊢
 subst hv hE
 refine tv (aI iZ rfl) (te (bR iz_27 rfl rfl rfl (.succ (.succ (.succ (.succ (.succ (.succ (.succ (.succ (.succ .zero))))))))) (.right (.right (.there .here))) (aF (Tr.keep (env' := [(1, _), (2, _)]) ⟨rfl, rfl, trivial⟩ (aB (aE ?_))))))
 refine aA (tv (aI eA rfl) (tv (aI cQ rfl) (tv (aG eJ rfl (aK (List.mem_append_right _ (List.mem_append_right _ (.tail _ (.head _)))) rfl)) (te (bP bE1 rfl rfl rfl rfl (sK (h.plan.items.sub (List.Sublist.trans (List.Sublist.trans (.cons _ (.cons _ (.refl _))) (List.sublist_append_right _ _)) (List.sublist_append_right _ _))) one_it h.nI hfew.I) fun x hx => ?_)))))
 obtain ⟨vI, EI⟩ := x
 obtain ⟨hOI, _⟩ := hx
 obtain ⟨qI, hv, hE, hqI⟩ := OwnS.of hOI (by simp) hfew.I
 dsimp only at hv hE ⊢
 subst hv hE
 refine tv (aI eA rfl) (tv (aI cQ rfl) (te (bR iz_28 rfl rfl rfl (.succ (.succ (.succ (.succ (.succ (.succ (.succ (.succ (.succ (.succ .zero)))))))))) (.right (.right (.right (.there .here)))) (aF (Tr.keep (env' := [(1, _), (2, _)]) ⟨rfl, rfl, trivial⟩ (aB ?_))))))
 refine aE (aA (tv (aI eA rfl) (tv (aI mK rfl) (tv (aD rfl) (aF ?_)))))
 refine Tr.keep (env' := [(1, _), (2, _), (3, _)]) ⟨rfl, rfl, rfl, trivial⟩ (aB (aE (pE 20 (List.Sublist.append (.refl _) (List.Sublist.append (.refl _) (List.Sublist.append (.refl _) (.cons_cons _ (.cons _ (.refl _)))))) cK rfl (fX 0 rfl (List.Sublist.append (.refl _) (List.Sublist.append (.refl _) (List.Sublist.append (.refl _) (.cons_cons _ (.cons _ (.refl _)))))) (.refl _) (aC rfl) (fX 1 rfl (List.Sublist.append (.refl _) (List.Sublist.append (.refl _) (List.Sublist.append (.refl _) (.cons_cons _ (.cons _ (.refl _)))))) (.refl _) (aC rfl) ?_)))))
 refine fX 2 rfl (List.Sublist.append (.refl _) (List.Sublist.append (.refl _) (List.Sublist.append (.refl _) (.cons_cons _ (.cons _ (.refl _)))))) (.refl _) (aC rfl) (fX 3 rfl (List.Sublist.append (.refl _) (List.Sublist.append (.refl _) (List.Sublist.append (.refl _) (.cons_cons _ (.cons _ (.refl _)))))) (.refl _) (aC rfl) (fX 4 rfl (List.Sublist.append (.refl _) (List.Sublist.append (.refl _) (List.Sublist.append (.refl _) (.cons_cons _ (.cons _ (.refl _)))))) (.refl _) (aM rfl) (fX 5 rfl (List.Sublist.append (.refl _) (List.Sublist.append (.refl _) (List.Sublist.append (.refl _) (.cons_cons _ (.cons _ (.refl _)))))) (.refl _) (aI mJ rfl) (kv 6 rfl (.refl _) (aG dQ rfl (aK (List.mem_append_right _ (List.mem_append_right _ (List.mem_append_right _ (.tail _ (.head _))))) rfl)) (fX 8 rfl (List.Sublist.append (.refl _) (List.Sublist.append (.refl _) (List.Sublist.append (.refl _) (.cons_cons _ (.cons _ (.refl _)))))) (.refl _) (aC rfl) ?_)))))
 refine fX 9 rfl (List.Sublist.append (.refl _) (List.Sublist.append (.refl _) (List.Sublist.append (.refl _) (.cons_cons _ (.cons _ (.refl _)))))) (.refl _) (aM rfl) (fX 10 rfl (List.Sublist.append (.refl _) (List.Sublist.append (.refl _) (List.Sublist.append (.refl _) (.cons_cons _ (.cons _ (.refl _)))))) (.refl _) (aI kQ rfl) (kv 11 rfl (.refl _) (aG dQ rfl (aK (List.mem_append_right _ (List.mem_append_right _ (List.mem_append_right _ (.tail _ (.head _))))) rfl)) (fX 13 rfl (List.Sublist.append (.refl _) (List.Sublist.append (.refl _) (List.Sublist.append (.refl _) (.cons_cons _ (.cons _ (.refl _)))))) (.refl _) (aC rfl) (fX 14 rfl (List.Sublist.append (.refl _) (List.Sublist.append (.refl _) (List.Sublist.append (.refl _) (.cons_cons _ (.cons _ (.refl _)))))) (.refl _) (aM rfl) (fX 15 rfl (List.Sublist.append (.refl _) (List.Sublist.append (.refl _) (List.Sublist.append (.refl _) (.cons_cons _ (.cons _ (.refl _)))))) (.refl _) (aI kR rfl) ?_)))))
 refine kv 16 rfl (.refl _) (aG dQ rfl (aK (List.mem_append_right _ (List.mem_append_right _ (List.mem_append_right _ (.tail _ (.head _))))) rfl)) (eM 7 rfl rfl (by kernel_rfl) (bP pR rfl rfl rfl rfl (fS (h.plan.jumps.sub (List.Sublist.trans (List.Sublist.trans (List.Sublist.trans (.cons _ (.cons _ (.refl _))) (List.sublist_append_right _ _)) (List.sublist_append_right _ _)) (List.sublist_append_right _ _))) aX7 h.nJ hfew.J) fun x hx => ?_))
 obtain ⟨vJ, EJ⟩ := x
 obtain ⟨hOJ, _⟩ := hx
 obtain ⟨qJ, hv, hE, hqJ⟩ := OwnS.of hOJ (by simp) hfew.J
 dsimp only at hv hE ⊢
 subst hv hE
 refine fQ (by kernel_rfl) (List.Sublist.trans (.refl _) (List.sublist_append_right _ _)) (eM 12 rfl rfl (by kernel_rfl) (bP pR rfl rfl rfl rfl (fS (h.plan.points.sub (List.Sublist.trans (List.Sublist.trans (List.Sublist.trans (List.Sublist.trans (.cons _ (.cons _ (.refl _))) (List.sublist_append_right _ _)) (List.sublist_append_right _ _)) (List.sublist_append_right _ _)) (List.sublist_append_right _ _))) aX7 h.nX hfew.X) fun x hx => ?_))
 obtain ⟨vX, EX⟩ := x
 obtain ⟨hOX, _⟩ := hx
 obtain ⟨qX, hv, hE, hqX⟩ := OwnS.of hOX (by simp) hfew.X
 dsimp only at hv hE ⊢
 subst hv hE
 refine fQ (by kernel_rfl) (List.Sublist.trans (List.Sublist.trans (.refl _) (List.sublist_append_right _ _)) (List.sublist_append_right _ _)) (eM 17 rfl rfl (by kernel_rfl) (bP pR rfl rfl rfl rfl (fS (h.plan.extra.sub (List.Sublist.trans (List.Sublist.trans (List.Sublist.trans (List.Sublist.trans (List.Sublist.trans (.cons _ (.cons _ (.refl _))) (List.sublist_append_right _ _)) (List.sublist_append_right _ _)) (List.sublist_append_right _ _)) (List.sublist_append_right _ _)) (List.sublist_append_right _ _))) aX7 h.nY hfew.Y) fun x hx => ?_))
 obtain ⟨vY, EY⟩ := x
 obtain ⟨hOY, _⟩ := hx
 obtain ⟨qY, hv, hE, hqY⟩ := OwnS.of hOY (by simp) hfew.Y
 dsimp only at hv hE ⊢
 subst hv hE
 refine fQ (by kernel_rfl) (List.Sublist.trans (List.Sublist.trans (List.Sublist.trans (.refl _) (List.sublist_append_right _ _)) (List.sublist_append_right _ _)) (List.sublist_append_right _ _)) (fX 18 rfl (List.Sublist.append (.refl _) (List.Sublist.append (.refl _) (List.Sublist.append (.refl _) (.cons_cons _ (.cons _ (.refl _)))))) (List.Sublist.trans (List.Sublist.trans (List.Sublist.trans (.refl _) (List.sublist_append_right _ _)) (List.sublist_append_right _ _)) (List.sublist_append_right _ _)) (aM rfl) (fX 19 rfl (List.Sublist.append (.refl _) (List.Sublist.append (.refl _) (List.Sublist.append (.refl _) (.cons_cons _ (.cons _ (.refl _)))))) (List.Sublist.trans (List.Sublist.trans (List.Sublist.trans (.refl _) (List.sublist_append_right _ _)) (List.sublist_append_right _ _)) (List.sublist_append_right _ _)) (aI mJ rfl) (eM 20 rfl rfl (by kernel_rfl) (bR lG rfl rfl rfl (.succ (.succ (.succ (.succ (.succ (.succ (.succ (.succ (.succ (.succ (.succ (.succ (.succ (.succ (.succ (.succ .zero)))))))))))))))) (.right (.right (.right (.right (.right (.right (.there .here))))))) (eS (by kernel_rfl) (List.Sublist.trans (List.Sublist.trans (List.Sublist.trans (List.Sublist.append (.refl _) (List.Sublist.append (.refl _) (List.Sublist.append (.refl _) (.cons_cons _ (.cons _ (.refl _)))))) (List.sublist_append_right _ _)) (List.sublist_append_right _ _)) (List.sublist_append_right _ _)) (eM 21 rfl rfl (by kernel_rfl) (iK (aM rfl) rfl ?_)))))))
 refine eS (by kernel_rfl) (List.Sublist.trans (List.Sublist.trans (List.Sublist.trans (List.Sublist.append (.refl _) (List.Sublist.append (.refl _) (List.Sublist.append (.refl _) (.cons_cons _ (.cons _ (.refl _)))))) (List.sublist_append_right _ _)) (List.sublist_append_right _ _)) (List.sublist_append_right _ _)) (eM 22 rfl rfl (by kernel_rfl) (iK (aI kQ rfl) rfl (eS (by kernel_rfl) (List.Sublist.trans (List.Sublist.trans (List.Sublist.trans (List.Sublist.append (.refl _) (List.Sublist.append (.refl _) (List.Sublist.append (.refl _) (.cons_cons _ (.cons _ (.refl _)))))) (List.sublist_append_right _ _)) (List.sublist_append_right _ _)) (List.sublist_append_right _ _)) (eM 23 rfl rfl (by kernel_rfl) (bR lG rfl rfl rfl (.succ (.succ (.succ (.succ (.succ (.succ (.succ (.succ (.succ (.succ (.succ (.succ (.succ (.succ (.succ (.succ (.succ (.succ (.succ (.succ (.succ (.succ .zero)))))))))))))))))))))) (.right (.right (.right (.right (.right (.right (.there .here))))))) (eS (by kernel_rfl) (List.Sublist.trans (List.Sublist.trans (List.Sublist.trans (List.Sublist.append (.refl _) (List.Sublist.append (.refl _) (List.Sublist.append (.refl _) (.cons_cons _ (.cons _ (.refl _)))))) (List.sublist_append_right _ _)) (List.sublist_append_right _ _)) (List.sublist_append_right _ _)) (eM 24 rfl rfl (by kernel_rfl) (iK (aM rfl) rfl ?_))))))))
 refine eS (by kernel_rfl) (List.Sublist.trans (List.Sublist.trans (List.Sublist.trans (List.Sublist.append (.refl _) (List.Sublist.append (.refl _) (List.Sublist.append (.refl _) (.cons_cons _ (.cons _ (.refl _)))))) (List.sublist_append_right _ _)) (List.sublist_append_right _ _)) (List.sublist_append_right _ _)) (eM 25 rfl rfl (by kernel_rfl) (iK (aI kR rfl) rfl (eS (by kernel_rfl) (List.Sublist.trans (List.Sublist.trans (List.Sublist.trans (List.Sublist.append (.refl _) (List.Sublist.append (.refl _) (List.Sublist.append (.refl _) (.cons_cons _ (.cons _ (.refl _)))))) (List.sublist_append_right _ _)) (List.sublist_append_right _ _)) (List.sublist_append_right _ _)) (eM 26 rfl rfl (by kernel_rfl) (bR lG rfl rfl rfl (.succ (.succ (.succ (.succ (.succ (.succ (.succ (.succ (.succ (.succ (.succ (.succ (.succ (.succ (.succ (.succ (.succ (.succ (.succ (.succ (.succ (.succ (.succ .zero))))))))))))))))))))))) (.right (.right (.right (.right (.right (.right (.there .here))))))) (eS (by kernel_rfl) (List.Sublist.trans (List.Sublist.trans (List.Sublist.trans (List.Sublist.append (.refl _) (List.Sublist.append (.refl _) (List.Sublist.append (.refl _) (.cons_cons _ (.cons _ (.refl _)))))) (List.sublist_append_right _ _)) (List.sublist_append_right _ _)) (List.sublist_append_right _ _)) (rS (by kernel_rfl) ?_)))))))
 refine Tr.keep (env' := [(1, _), (2, _)]) ⟨rfl, rfl, trivial⟩ (aB (aE (aA (tv (aI iM rfl) (tv (aI fJ rfl) ?_)))))
 refine tv (aG lC rfl (aK (List.mem_append_right _ (List.mem_append_right _ (List.mem_append_right _ (List.mem_append_right _ (List.mem_append_right _ (List.mem_append_right _ (.tail _ (.head _)))))))) rfl)) (te (bP aE0 rfl rfl rfl rfl (jC (h.arts.sub (List.Sublist.trans (List.Sublist.trans (List.Sublist.trans (List.Sublist.trans (List.Sublist.trans (List.Sublist.trans (.cons _ (.cons _ (.refl _))) (List.sublist_append_right _ _)) (List.sublist_append_right _ _)) (List.sublist_append_right _ _)) (List.sublist_append_right _ _)) (List.sublist_append_right _ _)) (List.sublist_append_right _ _))) one_a h.nA hfew.A) fun x hx => ?_))
 obtain ⟨vA, EA⟩ := x
 obtain ⟨hOA, _⟩ := hx
 obtain ⟨qA, hv, hE, hqA⟩ := OwnS.of hOA (by simp) hfew.A
 dsimp only at hv hE ⊢
 subst hv hE
 refine tv (aI iM rfl) (tv (aI fJ rfl) (te (bR aV5 rfl rfl rfl (.succ (.succ (.succ (.succ (.succ (.succ (.succ (.succ (.succ (.succ (.succ (.succ (.succ (.succ (.succ (.succ (.succ (.succ (.succ (.succ (.succ (.succ (.succ (.succ (.succ .zero))))))))))))))))))))))))) (.right (.right (.right (.right (.right (.right (.right (.there .here)))))))) (aF (Tr.keep (env' := [(1, _), (2, _)]) ⟨rfl, rfl, trivial⟩ (aB ?_))))))
 refine aE (aA (tv (aY iH rfl (bL (n := 30) (vs := [_, _, _, _, _, _, _, _, _, _, _, _, _, _, _, _, _, _, _, _, _, _, _, _, _, _, _, _, _, _]) (List.mem_append_right _ (List.mem_append_right _ (List.mem_append_right _ (List.mem_append_right _ (List.mem_append_right _ (List.mem_append_right _ (List.mem_append_right _ (.tail _ (.head _))))))))) rfl) rfl) (te (bJ bE2 rfl rfl (vs := [_, _, _, _, _, _, _, _, _, _, _, _, _, _, _, _, _, _, _, _, _, _, _, _, _, _, _, _, _, _]) rfl rfl (by simp [Value.oneCell']) (.cons .zero (.cons (.succ .zero) (.cons (.succ (.succ .zero)) (.cons (.succ (.succ (.succ .zero))) (.cons (.succ (.succ (.succ (.succ .zero)))) (.cons (.succ (.succ (.succ (.succ (.succ .zero))))) (.cons (.succ (.succ (.succ (.succ (.succ (.succ .zero)))))) (.cons (.succ (.succ (.succ (.succ (.succ (.succ (.succ .zero))))))) (.cons (.succ (.succ (.succ (.succ (.succ (.succ (.succ (.succ .zero)))))))) (.cons (.succ (.succ (.succ (.succ (.succ (.succ (.succ (.succ (.succ .zero))))))))) (.cons (.succ (.succ (.succ (.succ (.succ (.succ (.succ (.succ (.succ (.succ .zero)))))))))) (.cons (.succ (.succ (.succ (.succ (.succ (.succ (.succ (.succ (.succ (.succ (.succ .zero))))))))))) (.cons (.succ (.succ (.succ (.succ (.succ (.succ (.succ (.succ (.succ (.succ (.succ (.succ .zero)))))))))))) (.cons (.succ (.succ (.succ (.succ (.succ (.succ (.succ (.succ (.succ (.succ (.succ (.succ (.succ .zero))))))))))))) (.cons (.succ (.succ (.succ (.succ (.succ (.succ (.succ (.succ (.succ (.succ (.succ (.succ (.succ (.succ .zero)))))))))))))) (.cons (.succ (.succ (.succ (.succ (.succ (.succ (.succ (.succ (.succ (.succ (.succ (.succ (.succ (.succ (.succ .zero))))))))))))))) (.cons (.succ (.succ (.succ (.succ (.succ (.succ (.succ (.succ (.succ (.succ (.succ (.succ (.succ (.succ (.succ (.succ .zero)))))))))))))))) (.cons (.succ (.succ (.succ (.succ (.succ (.succ (.succ (.succ (.succ (.succ (.succ (.succ (.succ (.succ (.succ (.succ (.succ .zero))))))))))))))))) (.cons (.succ (.succ (.succ (.succ (.succ (.succ (.succ (.succ (.succ (.succ (.succ (.succ (.succ (.succ (.succ (.succ (.succ (.succ .zero)))))))))))))))))) (.cons (.succ (.succ (.succ (.succ (.succ (.succ (.succ (.succ (.succ (.succ (.succ (.succ (.succ (.succ (.succ (.succ (.succ (.succ (.succ .zero))))))))))))))))))) (.cons (.succ (.succ (.succ (.succ (.succ (.succ (.succ (.succ (.succ (.succ (.succ (.succ (.succ (.succ (.succ (.succ (.succ (.succ (.succ (.succ .zero)))))))))))))))))))) (.cons (.succ (.succ (.succ (.succ (.succ (.succ (.succ (.succ (.succ (.succ (.succ (.succ (.succ (.succ (.succ (.succ (.succ (.succ (.succ (.succ (.succ .zero))))))))))))))))))))) (.cons (.succ (.succ (.succ (.succ (.succ (.succ (.succ (.succ (.succ (.succ (.succ (.succ (.succ (.succ (.succ (.succ (.succ (.succ (.succ (.succ (.succ (.succ .zero)))))))))))))))))))))) (.cons (.succ (.succ (.succ (.succ (.succ (.succ (.succ (.succ (.succ (.succ (.succ (.succ (.succ (.succ (.succ (.succ (.succ (.succ (.succ (.succ (.succ (.succ (.succ .zero))))))))))))))))))))))) (.cons (.succ (.succ (.succ (.succ (.succ (.succ (.succ (.succ (.succ (.succ (.succ (.succ (.succ (.succ (.succ (.succ (.succ (.succ (.succ (.succ (.succ (.succ (.succ (.succ .zero)))))))))))))))))))))))) (.cons (.succ (.succ (.succ (.succ (.succ (.succ (.succ (.succ (.succ (.succ (.succ (.succ (.succ (.succ (.succ (.succ (.succ (.succ (.succ (.succ (.succ (.succ (.succ (.succ (.succ .zero))))))))))))))))))))))))) (.cons (.succ (.succ (.succ (.succ (.succ (.succ (.succ (.succ (.succ (.succ (.succ (.succ (.succ (.succ (.succ (.succ (.succ (.succ (.succ (.succ (.succ (.succ (.succ (.succ (.succ (.succ .zero)))))))))))))))))))))))))) (.cons (.succ (.succ (.succ (.succ (.succ (.succ (.succ (.succ (.succ (.succ (.succ (.succ (.succ (.succ (.succ (.succ (.succ (.succ (.succ (.succ (.succ (.succ (.succ (.succ (.succ (.succ (.succ .zero))))))))))))))))))))))))))) (.cons (.succ (.succ (.succ (.succ (.succ (.succ (.succ (.succ (.succ (.succ (.succ (.succ (.succ (.succ (.succ (.succ (.succ (.succ (.succ (.succ (.succ (.succ (.succ (.succ (.succ (.succ (.succ (.succ .zero)))))))))))))))))))))))))))) (.cons (.succ (.succ (.succ (.succ (.succ (.succ (.succ (.succ (.succ (.succ (.succ (.succ (.succ (.succ (.succ (.succ (.succ (.succ (.succ (.succ (.succ (.succ (.succ (.succ (.succ (.succ (.succ (.succ (.succ .zero))))))))))))))))))))))))))))) .nil)))))))))))))))))))))))))))))) (.right (.right (.right (.right (.right (.right (.right .here))))))) (aF (Tr.keep (env' := [(2, _)]) ⟨rfl, trivial⟩ ?_))))))
 refine aB (aQ (sP rfl iH rfl (bL (n := 30) (vs := [_, _, _, _, _, _, _, _, _, _, _, _, _, _, _, _, _, _, _, _, _, _, _, _, _, _, _, _, _, _]) (List.mem_append_right _ (List.mem_append_right _ (List.mem_append_right _ (List.mem_append_right _ (List.mem_append_right _ (List.mem_append_right _ (List.mem_append_right _ (.head _)))))))) rfl) rfl (fun w hw => ?_)))
 exact ⟨⟨qL, qS, qI, qJ, qX, qY, qA⟩, rfl, ⟨hqL, hqS, hqI, hqJ, hqX, hqY, hqA⟩, Ok.sub hw (List.Sublist.append (.refl _) (List.Sublist.append (.refl _) (List.Sublist.append (.refl _) (List.Sublist.append (.refl _) (List.Sublist.append (.refl _) (List.Sublist.append (.refl _) (List.Sublist.append (.refl _) (.cons _ (.cons _ (.refl _))))))))))⟩
end
end Go.Proofs.W
set_option linter.unusedVariables false
set_option linter.unusedSimpArgs false
set_option linter.unusedSectionVars false
set_option maxRecDepth 100000
namespace Go.Proofs.W
open Go Go.Sl Go.RowKit Go.Proofs
attribute [local irreducible] Go.Sl.Eff
section
variable {w0 : World} {M : List Ent}
theorem vB {p : CodeV} {A : Option Addr} {c : Nat} (h : SlRd w0 M 4 A p.arts.length (p.arts.map ArtV.cells)) (hok : eP p = true) (hn : NoA A p.arts.length c) (hl : p.arts.length ≤ 1000000) :
  ∀ w, Ok w0 M w → Calls Tryz.prog 51 #[.agg (p.cells A c).toArray] w (fun e w' => ∃ x : Nat × Sl4, e = .returned (.tuple #[.pointer (some ⟨x.1, 0, none⟩), .int .i64 0]) ∧ OwnS 201 4 (p.arts.map ArtV.cells) p.arts.length x.2 ∧
   Ok w0 (cel x.1 221 (p.cells x.2.A x.2.c ++ [.bool true, .slice none 0 0, .slice none 0 0]) :: (x.2.E ++ M)) w') := by
 refine enter (vs := [_]) Tryz.func51 rfl Tryz.ntmps51 rfl (aE (aA (te (cH rfl rfl fun b1 => (tv (aD rfl) (tv (aD rfl) ?_))))))
 refine aF (Tr.keep (env' := [(1, _)]) ⟨rfl, trivial⟩ (aB (aE (aE (aA ?_)))))
 refine tv (aY rQ rfl (bL (n := 6) (vs := [_, _, _, _, _, _]) (.head _) rfl) rfl) (te (aJ aV3 rfl rfl rfl rfl (oN (h.sub (.cons _ (.refl _)))) ?_))
 rw [hok]
 refine tv (aD rfl) (aF (Tr.keep (env' := [(1, _), (4, _)]) ⟨rfl, rfl, trivial⟩ (aB (aE (aA ?_)))))
 refine tv (aC rfl) (tv (eF rfl rfl) (aF (Tr.keep (env' := [(1, _), (4, _), (8, _)]) ⟨rfl, rfl, rfl, trivial⟩ (aB (aR rfl ?_)))))
 refine aO (aB (aE (aA (tv (aI fJ rfl) (tv (aG lC rfl (aK (.head _) rfl)) ?_)))))
 refine te (bP aE0 rfl rfl rfl rfl (jC (h.sub (.cons _ (.refl _))) one_a hn hl) fun x hx => ?_)
 obtain ⟨vA, EA⟩ := x
 obtain ⟨hOA, _⟩ := hx
 obtain ⟨qA, hv, hE, hqA⟩ := OwnS.of hOA (by simp) hl
 dsimp only at hv hE ⊢
 subst hv hE
 refine tv (aI fJ rfl) (te (bR aV5 rfl rfl rfl (.succ .zero) (.right .here) (aF (Tr.keep (env' := [(1, _)]) ⟨rfl, trivial⟩ (aB (aE ?_))))))
 refine aA (tv (aY rQ rfl (bL (n := 6) (vs := [_, _, _, _, _, _]) (List.mem_append_right _ (.head _)) rfl) rfl) (tv (bU rfl (v := .agg #[.int .i64 p.cars, .slice qA.A p.arts.length qA.c, .int .i64 p.window, .int .i64 p.second, .int .i64 p.fee, .int .i64 p.price, .bool true, .slice none 0 0, .slice none 0 0]) (fun w => by kernel_rfl)) (te (cH rfl rfl fun b16 => (tv (aD rfl) (tv (aD rfl) ?_))))))
 refine aF (Tr.keep (env' := [(2, _), (3, _)]) ⟨rfl, rfl, trivial⟩ (aB (aQ (gG rfl rfl rfl (fun w hw => ?_)))))
 exact ⟨(b16, qA), rfl, hqA, Ok.sub hw (.cons_cons _ (List.Sublist.append (.refl _) (.cons _ (.refl _))))⟩
end
end Go.Proofs.W
set_option linter.unusedVariables false
set_option linter.unusedSimpArgs false
set_option linter.unusedSectionVars false
set_option maxRecDepth 100000
namespace Go.Proofs.W
open Go Go.Sl Go.RowKit Go.Proofs
attribute [local irreducible] Go.Sl.Eff
structure CardX where
 cls : Int
 starts : List Int
 lines : List CLine
 s : Sl3
 l : Sl3
abbrev CardX.cells (c : CardX) : List Value := [.int .i64 c.cls, c.s.v c.starts.length, c.l.v c.lines.length]
abbrev CardX.es (c : CardX) : Ent := cel c.s.b 3 (bT (c.starts.map encI) ++ c.s.sp)
abbrev CardX.el (c : CardX) : Ent := cel c.l.b 114 (bT (c.lines.map CLine.cells) ++ c.l.sp)
def hG : List CardX → List Ent
 | [] => []
 | c :: r => c.es :: c.el :: hG r
abbrev sY : CLine := ⟨0, 0, false, 0⟩
def iN (nl ni a b : Nat) : CardX := ⟨0, List.replicate nl 0, List.replicate ni eZ, ⟨a, nl, []⟩, ⟨b, ni, []⟩⟩
theorem yM (nl ni a b : Nat) : (iN nl ni a b).es = cel a 3 (bT (List.replicate nl [.int .i64 0])) := by simp [iN, CardX.es, encI]
theorem yN (nl ni a b : Nat) : (iN nl ni a b).el = cel b 114 (bT ((List.replicate ni eZ).map CLine.cells)) := by simp [iN, CardX.el]
theorem pZ (nl ni a b : Nat) : (iN nl ni a b).cells = [.int .i64 0, .slice (some ⟨a, 0, none⟩) nl nl, .slice (some ⟨b, 0, none⟩) ni ni] := by simp [iN, CardX.cells]
theorem l_at (nc k : Nat) (h : k < nc) : bT ((List.replicate k eZ ++ List.replicate (nc - k) sY).map CLine.cells) = bT ((List.replicate k eZ).map CLine.cells) ++ (sY.cells ++ bT ((List.replicate (nc - (k + 1)) sY).map CLine.cells)) := by
 obtain ⟨q, rfl⟩ : ∃ q, nc = k + 1 + q := ⟨nc - (k + 1), by omega⟩
 rw [show k + 1 + q - k = q + 1 by omega, show k + 1 + q - (k + 1) = q by omega, List.replicate_succ]
 simp [bT]
theorem l_to (nc k : Nat) (h : k < nc) : bT ((List.replicate (k + 1) eZ ++ List.replicate (nc - (k + 1)) sY).map CLine.cells) = bT ((List.replicate k eZ).map CLine.cells) ++ (eZ.cells ++ bT ((List.replicate (nc - (k + 1)) sY).map CLine.cells)) := by
 rw [List.replicate_succ']
 simp [bT]
theorem l_len (k : Nat) : (bT ((List.replicate k eZ).map CLine.cells)).length = k * 4 := by
 rw [gD (z := 4) (by simp only [List.mem_map]; rintro _ ⟨x, _, rfl⟩; rfl)]; simp
theorem l_end {j n : Nat} (h : j = n) : bT ((List.replicate j eZ ++ List.replicate (n - j) sY).map CLine.cells) = bT ((List.replicate n eZ).map CLine.cells) := by subst h; simp
theorem l_new (n : Nat) : bT (List.replicate n [.int .i64 0, .int .i64 0, .bool false, .int .i64 0]) = bT ((List.replicate 0 eZ ++ List.replicate (n - 0) sY).map CLine.cells) := by simp [CLine.cells]
def LegWf (l : List SItem) : Prop := ∀ k, k < l.length → -9223372036854775808 ≤ (cF l k).leg
theorem vZ {p : PlanV} (h : eW p = true) (hw : LegWf p.items) : ∀ k, k < p.items.length → 0 ≤ (cF p.items k).leg ∧ (cF p.items k).leg ≤ 5
 | 0, hk => by
  simp only [eW, Bool.and_eq_true] at h
  have := h.1.1.1.1
  simp [lV] at this
  omega
 | k + 1, hk => by
  have ih := vZ h hw k (by omega)
  have hwk := hw (k + 1) hk
  simp only [eW, Bool.and_eq_true] at h
  have h2 := h.1.1.1.2
  unfold qB at h2
  rw [List.all_eq_true] at h2
  have h3 := h2 (k + 1) (List.mem_range.2 hk)
  unfold lB at h3
  rw [Bool.and_eq_true] at h3
  have h4 := h3.1
  simp [eK] at h4
  obtain ⟨⟨h5, h6⟩, h7⟩ := h4
  rw [IntKind.wrap_i64] at h5 h6
  omega
structure SetupV.Facts (s : SetupV) : Prop where
 g : s.g.ok = true
 f : fR s.cars s.places s.least s.srcs = true
 p : eW s.plan = true
 c : eP s.code = true
 few : s.Few
 pos : 0 < s.plan.items.length
 most : s.plan.items.length ≤ 100
 cars : 1 ≤ s.cars ∧ s.cars ≤ 200
theorem oY {s : SetupV} (h : fA s = true) : s.Facts := by
 simp only [fA, mI, Bool.and_eq_true] at h
 obtain ⟨hg, hf, ⟨hp, hc⟩, _⟩ := h
 have hp' := hp; have hc' := hc; have hf' := hf
 simp only [eW, Bool.and_eq_true] at hp'
 simp only [eP, Bool.and_eq_true] at hc'
 have h1 := hp'.1.1.1.1; have h3 := hp'.1.1.2; have h4 := hp'.1.2; have h5 := hc'.1
 simp [lV, eK] at h1
 simp [oK, eX, eK] at h3
 simp [oL, eX, eK] at h4
 simp [kJ, eK] at h5
 simp [fR, eK] at hf'
 have hff := tA hf
 exact ⟨hg, hf, hp, hc, ⟨hff.1, hff.2, by omega, by omega, by omega, by omega, by omega⟩, by omega, by omega, by omega⟩
structure EvX where
 eb : Nat
 q : OwnAt
 gl : GAt
 wl : WAt
 cb : Nat
 qc : Sl4
 cv : Value
 cE : List Ent
 rl : List CardX
section
variable {w0 : World} {M : List Ent}
theorem bB9 {s : SetupV} {a : SetupAt} {nl : Nat} (h : s.In w0 M a) (hok : fA s = true) (hwf : LegWf s.plan.items) (hnl : (cF s.plan.items (s.plan.items.length - 1)).leg + 1 = (nl : Int)) :
  ∀ w, Ok w0 M w → Calls Tryz.prog 14 #[.agg (s.cells a).toArray] w (fun r w' => ∃ e : EvX, r = .returned (.tuple #[.pointer (some ⟨e.eb, 0, none⟩), .int .i64 0]) ∧ (e.q.Ok s ∧ (⟨s.cars, s.places, s.least, s.srcs, []⟩ : WLog).Lies e.wl ∧ OwnS 201 4 (s.code.arts.map ArtV.cells) s.code.arts.length e.qc ∧ Own 111 3 e.cv (e.rl.reverse.map CardX.cells) e.cE ∧ (e.rl.length : Int) = s.cars ∧
   ∀ c ∈ e.rl, ∃ x y, c = iN nl s.plan.items.length x y) ∧ Ok w0 (e.cE ++ (hG e.rl ++ (cel e.cb 221 (s.code.cells e.qc.A e.qc.c ++ [.bool true, .slice none 0 0, .slice none 0 0]) :: (e.qc.E ++ ((⟨s.cars, s.places, s.least, s.srcs, []⟩ : WLog).eb e.wl :: (⟨s.cars, s.places, s.least, s.srcs, []⟩ : WLog).em e.wl :: (e.wl.lE ++ (e.wl.sE ++ ((GuardSt.new s.g).eg e.gl :: (GuardSt.new s.g).er e.gl :: (GuardSt.new s.g).ep e.gl :: (GuardSt.new s.g).ec e.gl :: (cel e.eb 129 [.int .i64 s.g.posts, .int .i64 s.g.silence, .int .i64 s.g.clear, .int .i64 s.g.interval, .int .i64 s.g.missing, .int .i64 s.g.cars, .int .i64 s.cars, .int .i64 s.places, .slice e.q.L.A s.least.length e.q.L.c, .slice e.q.S.A s.srcs.length e.q.S.c, .slice e.q.I.A s.plan.items.length e.q.I.c, .int .i64 s.plan.classes, .int .i64 s.plan.late, .int .i64 s.plan.early, .int .i64 s.plan.maxLate, .int .i64 s.plan.legLate, .slice e.q.J.A s.plan.jumps.length e.q.J.c, .bool s.plan.b5, .int .i64 s.plan.missed, .int .i64 s.plan.notional, .int .i64 s.plan.percent, .int .i64 s.plan.power, .slice e.q.X.A s.plan.points.length e.q.X.c, .slice e.q.Y.A s.plan.extra.length e.q.Y.c, .int .i64 s.code.cars, .slice e.q.A.A s.code.arts.length e.q.A.c, .int .i64 s.code.window, .int .i64 s.code.second, .int .i64 s.code.fee, .int .i64 s.code.price, .pointer (some ⟨e.gl.g, 0, none⟩), .pointer (some ⟨e.wl.b, 0, none⟩), .pointer (some ⟨e.cb, 0, none⟩), e.cv, .slice none 0 0] :: e.q.ents M))))))))) w' ) := by
 have F := oY hok
 have hleg := vZ F.p hwf (s.plan.items.length - 1) (by have := F.pos; omega)
 have hpos := F.pos; have hmost := F.most; have hcars := F.cars
 have hnl6 : nl ≤ 6 := by omega
 obtain ⟨nc, hnc⟩ := Int.eq_ofNat_of_zero_le (show 0 ≤ s.cars by omega)
 refine enter (vs := [_]) Tryz.func14 rfl Tryz.ntmps14 rfl (aE (aA (te (cH rfl rfl fun b1 => (tv (aD rfl) (tv (aD rfl) ?_))))))
 refine aF (Tr.keep (env' := [(1, _)]) ⟨rfl, trivial⟩ (aB (aE (aE (aA ?_)))))
 refine tv (aY iH rfl (bL (n := 30) (vs := [_, _, _, _, _, _, _, _, _, _, _, _, _, _, _, _, _, _, _, _, _, _, _, _, _, _, _, _, _, _]) (.head _) rfl) rfl) (te (aJ aK5 rfl rfl rfl rfl (kK (h.sub (.cons _ (.refl _)))) ?_))
 rw [hok]
 refine tv (aD rfl) (aF (Tr.keep (env' := [(1, _), (4, _)]) ⟨rfl, rfl, trivial⟩ (aB (aE (aA ?_)))))
 refine tv (aC rfl) (tv (eF rfl rfl) (aF (Tr.keep (env' := [(1, _), (4, _), (12, _)]) ⟨rfl, rfl, rfl, trivial⟩ (aB (aR rfl ?_)))))
 refine aO (aB (aE (aA (tv (aY iH rfl (bL (n := 30) (vs := [_, _, _, _, _, _, _, _, _, _, _, _, _, _, _, _, _, _, _, _, _, _, _, _, _, _, _, _, _, _]) (.head _) rfl) rfl) (te (bP en_50 rfl rfl rfl rfl (bO0 (h.sub (.cons _ (.refl _))) F.few) fun q hq => ?_))))))
 have hin0 := hq.in' (w0 := w0) (M := []) (.refl _)
 obtain ⟨bi, oi, hAi, hri⟩ := hin0.plan.items.at' F.pos
 dsimp only [OwnAt.ents] at hin0 hri ⊢
 refine tv (bU rfl (v := .agg #[.int .i64 s.g.posts, .int .i64 s.g.silence, .int .i64 s.g.clear, .int .i64 s.g.interval, .int .i64 s.g.missing, .int .i64 s.g.cars, .int .i64 s.cars, .int .i64 s.places, .slice q.L.A s.least.length q.L.c, .slice q.S.A s.srcs.length q.S.c, .slice q.I.A s.plan.items.length q.I.c, .int .i64 s.plan.classes, .int .i64 s.plan.late, .int .i64 s.plan.early, .int .i64 s.plan.maxLate, .int .i64 s.plan.legLate, .slice q.J.A s.plan.jumps.length q.J.c, .bool s.plan.b5, .int .i64 s.plan.missed, .int .i64 s.plan.notional, .int .i64 s.plan.percent, .int .i64 s.plan.power, .slice q.X.A s.plan.points.length q.X.c, .slice q.Y.A s.plan.extra.length q.Y.c, .int .i64 s.code.cars, .slice q.A.A s.code.arts.length q.A.c, .int .i64 s.code.window, .int .i64 s.code.second, .int .i64 s.code.fee, .int .i64 s.code.price, .pointer none, .pointer none, .pointer none, .slice none 0 0, .slice none 0 0]) (fun w => by kernel_rfl)) (te (cH rfl rfl fun b17 => (tv (aD rfl) (aF (Tr.keep (env' := [(5, _)]) ⟨rfl, trivial⟩ (aB ?_))))))
 refine aE (aA (tv (aC rfl) (tv (aC rfl) (tv (aM rfl) (tv (aI eD rfl) ?_)))))
 refine tv (aI iD rfl) (tv (aY pQ rfl (bL (n := 6) (vs := [_, _, _, _, _, _]) (.head _) rfl) rfl) (te (bP zU rfl rfl rfl rfl (iX (p := s.g) F.g) fun gl _ => (tv (aC rfl) (tv (bA rfl rfl) (tv (bA rfl rfl) ?_))))))
 refine tv (aM rfl) (tv (aI iI rfl) (te (bR iz_68 rfl rfl rfl (.succ (.succ (.succ (.succ (.succ (.succ (.succ (.succ (.succ (.succ (.succ (.succ (.succ (.succ (.succ (.succ (.succ (.succ (.succ (.succ (.succ (.succ (.succ (.succ (.succ (.succ (.succ (.succ (.succ (.succ .zero)))))))))))))))))))))))))))))) (.there (.there (.there (.there .here)))) (aF (Tr.keep (env' := [(5, _)]) ⟨rfl, trivial⟩ (aB ?_))))))
 refine aE (pE 17 (.cons_cons _ (.cons_cons _ (.cons_cons _ (.cons_cons _ (.cons _ (.refl _)))))) cK rfl (fX 0 rfl (.cons_cons _ (.cons_cons _ (.cons_cons _ (.cons_cons _ (.cons _ (.refl _)))))) (.refl _) (aC rfl) (fX 1 rfl (.cons_cons _ (.cons_cons _ (.cons_cons _ (.cons_cons _ (.cons _ (.refl _)))))) (.refl _) (aC rfl) (fX 2 rfl (.cons_cons _ (.cons_cons _ (.cons_cons _ (.cons_cons _ (.cons _ (.refl _)))))) (.refl _) (aM rfl) (fX 3 rfl (.cons_cons _ (.cons_cons _ (.cons_cons _ (.cons_cons _ (.cons _ (.refl _)))))) (.refl _) (aI eD rfl) ?_)))))
 refine fX 4 rfl (.cons_cons _ (.cons_cons _ (.cons_cons _ (.cons_cons _ (.cons _ (.refl _)))))) (.refl _) (aI eG rfl) (kv 5 rfl (.refl _) (aY sG rfl (bL (n := 3) (vs := [_, _, _]) (.tail _ (.tail _ (.tail _ (.tail _ (.head _))))) rfl) rfl) (fX 6 rfl (.cons_cons _ (.cons_cons _ (.cons_cons _ (.cons_cons _ (.cons _ (.refl _)))))) (.refl _) (aC rfl) (fX 7 rfl (.cons_cons _ (.cons_cons _ (.cons_cons _ (.cons_cons _ (.cons _ (.refl _)))))) (.refl _) (aM rfl) (fX 8 rfl (.cons_cons _ (.cons_cons _ (.cons_cons _ (.cons_cons _ (.cons _ (.refl _)))))) (.refl _) (aI eD rfl) (fX 9 rfl (.cons_cons _ (.cons_cons _ (.cons_cons _ (.cons_cons _ (.cons _ (.refl _)))))) (.refl _) (aI iZ rfl) ?_)))))
 refine kv 10 rfl (.refl _) (aG oO rfl (aK (.tail _ (.tail _ (.tail _ (.tail _ (.head _))))) rfl)) (eM 11 rfl rfl (by kernel_rfl) (bP aK3 rfl rfl rfl rfl (lL (least := s.least) (srcs := s.srcs) (hin0.sub (.cons _ (.cons _ (.cons _ (.cons _ (.cons _ (List.Sublist.append (.refl _) (List.Sublist.append (.refl _) (List.Sublist.append (.refl _) (List.Sublist.append (.refl _) (List.Sublist.append (.refl _) (List.Sublist.append (.refl _) (List.Sublist.append (.refl _) (List.nil_sublist _)))))))))))))).least (hin0.sub (.cons _ (.cons _ (.cons _ (.cons _ (.cons _ (List.Sublist.append (.refl _) (List.Sublist.append (.refl _) (List.Sublist.append (.refl _) (List.Sublist.append (.refl _) (List.Sublist.append (.refl _) (List.Sublist.append (.refl _) (List.Sublist.append (.refl _) (List.nil_sublist _)))))))))))))).srcs F.f hin0.nL hin0.nS F.few.L F.few.S) fun wl hwl => (fQ (by kernel_rfl) (.cons _ (.cons _ (List.Sublist.trans (List.Sublist.trans (.refl _) (List.sublist_append_right _ _)) (List.sublist_append_right _ _)))) (fX 12 rfl (.cons_cons _ (.cons_cons _ (.cons_cons _ (.cons_cons _ (.cons _ (.refl _)))))) (.cons _ (.cons _ (List.Sublist.trans (List.Sublist.trans (.refl _) (List.sublist_append_right _ _)) (List.sublist_append_right _ _)))) (aC rfl) (fX 13 rfl (.cons_cons _ (.cons_cons _ (.cons_cons _ (.cons_cons _ (.cons _ (.refl _)))))) (.cons _ (.cons _ (List.Sublist.trans (List.Sublist.trans (.refl _) (List.sublist_append_right _ _)) (List.sublist_append_right _ _)))) (bA rfl rfl) (fX 14 rfl (.cons_cons _ (.cons_cons _ (.cons_cons _ (.cons_cons _ (.cons _ (.refl _)))))) (.cons _ (.cons _ (List.Sublist.trans (List.Sublist.trans (.refl _) (List.sublist_append_right _ _)) (List.sublist_append_right _ _)))) (bA rfl rfl) ?_))))))
 refine fX 15 rfl (.cons_cons _ (.cons_cons _ (.cons_cons _ (.cons_cons _ (.cons _ (.refl _)))))) (.cons _ (.cons _ (List.Sublist.trans (List.Sublist.trans (.refl _) (List.sublist_append_right _ _)) (List.sublist_append_right _ _)))) (aM rfl) (fX 16 rfl (.cons_cons _ (.cons_cons _ (.cons_cons _ (.cons_cons _ (.cons _ (.refl _)))))) (.cons _ (.cons _ (List.Sublist.trans (List.Sublist.trans (.refl _) (List.sublist_append_right _ _)) (List.sublist_append_right _ _)))) (aI mA rfl) (eM 17 rfl rfl (by kernel_rfl) (bR iz_95 rfl rfl rfl (.succ (.succ (.succ (.succ (.succ (.succ (.succ (.succ (.succ (.succ (.succ (.succ (.succ (.succ (.succ (.succ (.succ (.succ (.succ (.succ (.succ (.succ (.succ (.succ (.succ (.succ (.succ (.succ (.succ (.succ (.succ .zero))))))))))))))))))))))))))))))) (.there (.there (.right (.right (.there (.there (.there (.there .here)))))))) (eS (by kernel_rfl) (.cons _ (.cons _ (List.Sublist.trans (List.Sublist.trans (.cons_cons _ (.cons_cons _ (.cons_cons _ (.cons_cons _ (.cons _ (.refl _)))))) (List.sublist_append_right _ _)) (List.sublist_append_right _ _)))) (rS (by kernel_rfl) (Tr.keep (env' := [(5, _)]) ⟨rfl, trivial⟩ ?_))))))
 refine aB (aE (aA (tv (aC rfl) (tv (aC rfl) (tv (aM rfl) ?_)))))
 refine tv (aI eD rfl) (tv (aI iM rfl) (tv (aY rQ rfl (bL (n := 6) (vs := [_, _, _, _, _, _]) (.tail _ (.tail _ (List.mem_append_right _ (List.mem_append_right _ (.tail _ (.tail _ (.tail _ (.tail _ (.head _))))))))) rfl) rfl) (te (bP en_51 rfl rfl rfl rfl (vB (p := s.code) (hin0.sub (.cons _ (.cons _ (List.Sublist.trans (List.Sublist.trans (.cons _ (.cons _ (.cons _ (.cons _ (.cons _ (List.Sublist.append (.refl _) (List.Sublist.append (.refl _) (List.Sublist.append (.refl _) (List.Sublist.append (.refl _) (List.Sublist.append (.refl _) (List.Sublist.append (.refl _) (List.Sublist.append (.refl _) (List.nil_sublist _))))))))))))) (List.sublist_append_right _ _)) (List.sublist_append_right _ _))))).arts F.c hin0.nA F.few.A) fun xc hqc => ?_))))
 obtain ⟨cb, qc⟩ := xc
 dsimp only at hqc ⊢
 refine tv (aC rfl) (tv (bA rfl rfl) (tv (bA rfl rfl) (tv (aM rfl) (tv (aI aK6 rfl) (te (bR bE3 rfl rfl rfl (.succ (.succ (.succ (.succ (.succ (.succ (.succ (.succ (.succ (.succ (.succ (.succ (.succ (.succ (.succ (.succ (.succ (.succ (.succ (.succ (.succ (.succ (.succ (.succ (.succ (.succ (.succ (.succ (.succ (.succ (.succ (.succ .zero)))))))))))))))))))))))))))))))) (.there (.right (.there (.there (.right (.right (.there (.there (.there (.there .here)))))))))) ?_))))))
 refine aF (Tr.keep (env' := [(5, _)]) ⟨rfl, trivial⟩ (aB (aE (aA (tv (aC rfl) ?_)))))
 refine tv (aM rfl) (tv (aI eD rfl) (tv (aI eA rfl) (tv (aI cQ rfl) (tv (aG eJ rfl (aK (.tail _ (List.mem_append_right _ (.tail _ (.tail _ (List.mem_append_right _ (List.mem_append_right _ (.tail _ (.tail _ (.tail _ (.tail _ (.head _))))))))))) rfl)) (tv (aP Tryz.underlying28 rfl) ?_)))))
 refine tv (aD rfl) (aF (Tr.keep (env' := [(5, _), (6, _)]) ⟨rfl, rfl, trivial⟩ (aB (aE (aE ?_)))))
 refine aA (tv (aC rfl) (tv (aM rfl) (tv (aI eD rfl) (tv (aI eG rfl) (tv (aI gM rfl) ?_)))))
 refine tv (aG bB rfl (aK (.tail _ (List.mem_append_right _ (.tail _ (.tail _ (List.mem_append_right _ (List.mem_append_right _ (.tail _ (.tail _ (.tail _ (.tail _ (.head _))))))))))) rfl)) (tv (aC rfl) (aF (Tr.keep (env' := [(5, _), (6, _), (71, _), (72, _)]) ⟨rfl, rfl, rfl, rfl, trivial⟩ (aB (aX ?_)))))
 refine dW (fun z : Nat × Value × List Ent × List CardX => [(5, .pointer (some ⟨b17, 0, none⟩)), (6, .int .i64 (s.plan.items.length : Int)), (71, .int .i64 s.cars), (72, .int .i64 (z.1 : Int))]) (fun z : Nat × Value × List Ent × List CardX => z.2.2.1 ++ (hG z.2.2.2 ++ (cel cb 221 (s.code.cells qc.A qc.c ++ [.bool true, .slice none 0 0, .slice none 0 0]) :: (qc.E ++ ((⟨s.cars, s.places, s.least, s.srcs, []⟩ : WLog).eb wl :: (⟨s.cars, s.places, s.least, s.srcs, []⟩ : WLog).em wl :: (wl.lE ++ (wl.sE ++ ((GuardSt.new s.g).eg gl :: (GuardSt.new s.g).er gl :: (GuardSt.new s.g).ep gl :: (GuardSt.new s.g).ec gl :: (cel b17 129 [.int .i64 s.g.posts, .int .i64 s.g.silence, .int .i64 s.g.clear, .int .i64 s.g.interval, .int .i64 s.g.missing, .int .i64 s.g.cars, .int .i64 s.cars, .int .i64 s.places, .slice q.L.A s.least.length q.L.c, .slice q.S.A s.srcs.length q.S.c, .slice q.I.A s.plan.items.length q.I.c, .int .i64 s.plan.classes, .int .i64 s.plan.late, .int .i64 s.plan.early, .int .i64 s.plan.maxLate, .int .i64 s.plan.legLate, .slice q.J.A s.plan.jumps.length q.J.c, .bool s.plan.b5, .int .i64 s.plan.missed, .int .i64 s.plan.notional, .int .i64 s.plan.percent, .int .i64 s.plan.power, .slice q.X.A s.plan.points.length q.X.c, .slice q.Y.A s.plan.extra.length q.Y.c, .int .i64 s.code.cars, .slice q.A.A s.code.arts.length q.A.c, .int .i64 s.code.window, .int .i64 s.code.second, .int .i64 s.code.fee, .int .i64 s.code.price, .pointer (some ⟨gl.g, 0, none⟩), .pointer (some ⟨wl.b, 0, none⟩), .pointer (some ⟨cb, 0, none⟩), z.2.1, .slice none 0 0] :: (q.A.E ++ (q.Y.E ++ (q.X.E ++ (q.J.E ++ (q.I.E ++ (q.S.E ++ (q.L.E ++ (cel b1 38 (s.cells a) :: M))))))))))))))))) (fun z : Nat × Value × List Ent × List CardX => z.1 ≤ nc ∧ Own 111 3 z.2.1 (z.2.2.2.reverse.map CardX.cells) z.2.2.1 ∧ z.2.2.2.length = z.1 ∧ ∀ c ∈ z.2.2.2, ∃ x y, c = iN nl s.plan.items.length x y) (fun z : Nat × Value × List Ent × List CardX => nc - z.1) (0, .slice none 0 0, [], []) ⟨Nat.zero_le _, Own.nil _ _, rfl, by simp⟩ ⟨rfl, rfl, rfl, rfl, trivial⟩ (.refl _) ?_
 intro K ⟨k, v, E, rl⟩ ⟨hk, hO, hrl, hall⟩ IH
 dsimp only at hk hO hrl hall IH ⊢
 refine aE (aA (tv (dI rfl rfl) (aF (Tr.keep (env' := [(5, _), (6, _), (71, _), (72, _), (73, _)]) ⟨rfl, rfl, rfl, rfl, rfl, trivial⟩ (aB ?_)))))
 refine aE ?_
 refine bD rfl (fun hc1 => ?_) (fun hc1 => ?_)
 ·have hlt : k < nc := by have := of_decide_eq_true hc1; omega
  refine aO (aB (aE (aX (aE (Tr.keep (env' := [(5, _), (6, _), (71, _), (72, _)]) ⟨rfl, rfl, rfl, rfl, trivial⟩ ?_)))))
  refine aP7 (α := Nat × Nat × Nat) (fun x => [(5, .pointer (some ⟨b17, 0, none⟩)), (6, .int .i64 (s.plan.items.length : Int)), (7, .pointer (some ⟨x.1, 0, none⟩)), (71, .int .i64 s.cars), (72, .int .i64 (k : Int))]) (fun x => [cel x.1 111 [.int .i64 0, .slice (some ⟨x.2.1, 0, none⟩) nl nl, .slice (some ⟨x.2.2, 0, none⟩) s.plan.items.length s.plan.items.length], cel x.2.1 3 (bT (List.replicate nl [.int .i64 0])), cel x.2.2 114 (bT (List.replicate s.plan.items.length [.int .i64 0, .int .i64 0, .bool false, .int .i64 0]))]) (fun _ => True) ?_ ?_
  ·intro K hK
   refine cI cK rfl (dv 0 rfl (.refl _) (aC rfl) (dv 1 rfl (.refl _) (aM rfl) (dv 2 rfl (.refl _) (aI eD rfl) (dv 3 rfl (.refl _) (aI eA rfl) (dv 4 rfl (.refl _) (aI cQ rfl) ?_)))))
   refine dv 5 rfl (.refl _) (aG eJ rfl (aK (List.mem_append_right _ (List.mem_append_right _ (.tail _ (List.mem_append_right _ (.tail _ (.tail _ (List.mem_append_right _ (List.mem_append_right _ (.tail _ (.tail _ (.tail _ (.tail _ (.head _))))))))))))) rfl)) (dv 6 rfl (.refl _) (aC rfl) (dv 7 rfl (.refl _) (cP rfl rfl (by omega)) (dv 8 rfl (.refl _) (cL (s.plan.items.length - 1) Tryz.underlying28 eT hAi rfl rfl (by omega) (by omega)) (dv 9 rfl (.refl _) (aI eC rfl) ?_))))
   refine dv 10 rfl (.refl _) (aG bB rfl (Rd.sub (hri (s.plan.items.length - 1) (cF s.plan.items (s.plan.items.length - 1)).cells (by rw [List.getElem?_map, itemA_at (by have := F.pos; omega)]; rfl) 1 _ rfl) (List.Sublist.trans (List.Sublist.trans (.cons _ (List.Sublist.trans (.cons _ (.cons _ (List.Sublist.trans (List.Sublist.trans (.cons _ (.cons _ (.cons _ (.cons _ (.cons _ (List.Sublist.append (.refl _) (List.Sublist.append (.refl _) (List.Sublist.append (.refl _) (List.Sublist.append (.refl _) (List.Sublist.append (.refl _) (List.Sublist.append (.refl _) (List.Sublist.append (.refl _) (List.nil_sublist _))))))))))))) (List.sublist_append_right _ _)) (List.sublist_append_right _ _)))) (List.sublist_append_right _ _))) (List.sublist_append_right _ _)) (List.sublist_append_right _ _)))) ?_
   refine dv 11 rfl (.refl _) (cC rfl rfl (by omega)) (dv 13 rfl (.refl _) (aC rfl) ?_)
   refine xS 12 14 16 rfl rfl rfl  rfl rfl rfl  (by kernel_rfl) ?_ ?_ ?_
   ·refine (cU (zs := [.int .i64 0]) Tryz.underlying24 eQ rfl (by decide) (m := nl) (by rw [← hnl]; rfl) (by omega) (by omega) rfl fun b86 => (aU (.cons _ (.refl _)) ?_))
    refine gP 14 16 rfl rfl  rfl rfl  (by kernel_rfl) ?_ ?_
    ·refine (cU (zs := [.int .i64 0, .int .i64 0, .bool false, .int .i64 0]) Tryz.underlying109 eU rfl (by decide) (m := s.plan.items.length) rfl (by omega) (by omega) rfl fun b88 => (aU (.cons _ (.cons _ (.refl _))) (dv 15 rfl (.cons _ (.cons _ (.refl _))) (bU rfl (v := .agg #[.int .i64 0, .slice (some ⟨b86, 0, none⟩) nl nl, .slice (some ⟨b88, 0, none⟩) s.plan.items.length s.plan.items.length]) (fun w => by kernel_rfl)) (de 16 rfl (bO eB (l := [.int .i64 0, .slice none 0 0, .slice none 0 0]) rfl rfl fun b7 => (aU (.cons _ (.cons _ (.cons _ (.refl _)))) (de 17 rfl (bJ dA rfl rfl (vs := [_, _, _]) rfl rfl (by simp [Value.oneCell']) (.cons .zero (.cons (.succ .zero) (.cons (.succ (.succ .zero)) .nil))) .here ?_))))))))
     refine aU (.cons _ (.cons _ (.cons _ (.refl _)))) (bQ (by kernel_rfl) ?_)
     exact dO (hK ⟨b7, b86, b88⟩ trivial) ⟨rfl, rfl, rfl, rfl, rfl, trivial⟩ (pk .here (pk (.there .here) (pk .here (.refl _)))) (.refl _)
    ·refine (bO eB (l := [.int .i64 0, .slice none 0 0, .slice none 0 0]) rfl rfl fun b7 => (aU (.cons _ (.cons _ (.refl _))) (de 14 rfl (cU (zs := [.int .i64 0, .int .i64 0, .bool false, .int .i64 0]) Tryz.underlying109 eU rfl (by decide) (m := s.plan.items.length) rfl (by omega) (by omega) rfl fun b88 => (aU (.cons _ (.cons _ (.cons _ (.refl _)))) (dv 15 rfl (.cons _ (.cons _ (.cons _ (.refl _)))) (bU rfl (v := .agg #[.int .i64 0, .slice (some ⟨b86, 0, none⟩) nl nl, .slice (some ⟨b88, 0, none⟩) s.plan.items.length s.plan.items.length]) (fun w => by kernel_rfl)) (de 17 rfl (bJ dA rfl rfl (vs := [_, _, _]) rfl rfl (by simp [Value.oneCell']) (.cons .zero (.cons (.succ .zero) (.cons (.succ (.succ .zero)) .nil))) (.there .here) ?_))))))))
     refine aU (.cons _ (.cons _ (.cons _ (.refl _)))) (bQ (by kernel_rfl) ?_)
     exact dO (hK ⟨b7, b86, b88⟩ trivial) ⟨rfl, rfl, rfl, rfl, rfl, trivial⟩ (pk (.there .here) (pk (.there .here) (pk .here (.refl _)))) (.refl _)
   ·refine (cU (zs := [.int .i64 0, .int .i64 0, .bool false, .int .i64 0]) Tryz.underlying109 eU rfl (by decide) (m := s.plan.items.length) rfl (by omega) (by omega) rfl fun b88 => (aU (.cons _ (.refl _)) ?_))
    refine gP 12 16 rfl rfl  rfl rfl  (by kernel_rfl) ?_ ?_
    ·refine (cU (zs := [.int .i64 0]) Tryz.underlying24 eQ rfl (by decide) (m := nl) (by rw [← hnl]; rfl) (by omega) (by omega) rfl fun b86 => (aU (.cons _ (.cons _ (.refl _))) (dv 15 rfl (.cons _ (.cons _ (.refl _))) (bU rfl (v := .agg #[.int .i64 0, .slice (some ⟨b86, 0, none⟩) nl nl, .slice (some ⟨b88, 0, none⟩) s.plan.items.length s.plan.items.length]) (fun w => by kernel_rfl)) (de 16 rfl (bO eB (l := [.int .i64 0, .slice none 0 0, .slice none 0 0]) rfl rfl fun b7 => (aU (.cons _ (.cons _ (.cons _ (.refl _)))) (de 17 rfl (bJ dA rfl rfl (vs := [_, _, _]) rfl rfl (by simp [Value.oneCell']) (.cons .zero (.cons (.succ .zero) (.cons (.succ (.succ .zero)) .nil))) .here ?_))))))))
     refine aU (.cons _ (.cons _ (.cons _ (.refl _)))) (bQ (by kernel_rfl) ?_)
     exact dO (hK ⟨b7, b86, b88⟩ trivial) ⟨rfl, rfl, rfl, rfl, rfl, trivial⟩ (pk .here (pk .here (pk .here (.refl _)))) (.refl _)
    ·refine (bO eB (l := [.int .i64 0, .slice none 0 0, .slice none 0 0]) rfl rfl fun b7 => (aU (.cons _ (.cons _ (.refl _))) (de 12 rfl (cU (zs := [.int .i64 0]) Tryz.underlying24 eQ rfl (by decide) (m := nl) (by rw [← hnl]; rfl) (by omega) (by omega) rfl fun b86 => (aU (.cons _ (.cons _ (.cons _ (.refl _)))) (dv 15 rfl (.cons _ (.cons _ (.cons _ (.refl _)))) (bU rfl (v := .agg #[.int .i64 0, .slice (some ⟨b86, 0, none⟩) nl nl, .slice (some ⟨b88, 0, none⟩) s.plan.items.length s.plan.items.length]) (fun w => by kernel_rfl)) (de 17 rfl (bJ dA rfl rfl (vs := [_, _, _]) rfl rfl (by simp [Value.oneCell']) (.cons .zero (.cons (.succ .zero) (.cons (.succ (.succ .zero)) .nil))) (.there .here) ?_))))))))
     refine aU (.cons _ (.cons _ (.cons _ (.refl _)))) (bQ (by kernel_rfl) ?_)
     exact dO (hK ⟨b7, b86, b88⟩ trivial) ⟨rfl, rfl, rfl, rfl, rfl, trivial⟩ (pk (.there .here) (pk .here (pk .here (.refl _)))) (.refl _)
   ·refine (bO eB (l := [.int .i64 0, .slice none 0 0, .slice none 0 0]) rfl rfl fun b7 => (aU (.cons _ (.refl _)) ?_))
    refine gP 12 14 rfl rfl  rfl rfl  (by kernel_rfl) ?_ ?_
    ·refine (cU (zs := [.int .i64 0]) Tryz.underlying24 eQ rfl (by decide) (m := nl) (by rw [← hnl]; rfl) (by omega) (by omega) rfl fun b86 => (aU (.cons _ (.cons _ (.refl _))) (de 14 rfl (cU (zs := [.int .i64 0, .int .i64 0, .bool false, .int .i64 0]) Tryz.underlying109 eU rfl (by decide) (m := s.plan.items.length) rfl (by omega) (by omega) rfl fun b88 => (aU (.cons _ (.cons _ (.cons _ (.refl _)))) (dv 15 rfl (.cons _ (.cons _ (.cons _ (.refl _)))) (bU rfl (v := .agg #[.int .i64 0, .slice (some ⟨b86, 0, none⟩) nl nl, .slice (some ⟨b88, 0, none⟩) s.plan.items.length s.plan.items.length]) (fun w => by kernel_rfl)) (de 17 rfl (bJ dA rfl rfl (vs := [_, _, _]) rfl rfl (by simp [Value.oneCell']) (.cons .zero (.cons (.succ .zero) (.cons (.succ (.succ .zero)) .nil))) (.there (.there .here)) ?_))))))))
     refine aU (.cons _ (.cons _ (.cons _ (.refl _)))) (bQ (by kernel_rfl) ?_)
     exact dO (hK ⟨b7, b86, b88⟩ trivial) ⟨rfl, rfl, rfl, rfl, rfl, trivial⟩ (pk (.there (.there .here)) (pk (.there .here) (pk .here (.refl _)))) (.refl _)
    ·refine (cU (zs := [.int .i64 0, .int .i64 0, .bool false, .int .i64 0]) Tryz.underlying109 eU rfl (by decide) (m := s.plan.items.length) rfl (by omega) (by omega) rfl fun b88 => (aU (.cons _ (.cons _ (.refl _))) (de 12 rfl (cU (zs := [.int .i64 0]) Tryz.underlying24 eQ rfl (by decide) (m := nl) (by rw [← hnl]; rfl) (by omega) (by omega) rfl fun b86 => (aU (.cons _ (.cons _ (.cons _ (.refl _)))) (dv 15 rfl (.cons _ (.cons _ (.cons _ (.refl _)))) (bU rfl (v := .agg #[.int .i64 0, .slice (some ⟨b86, 0, none⟩) nl nl, .slice (some ⟨b88, 0, none⟩) s.plan.items.length s.plan.items.length]) (fun w => by kernel_rfl)) (de 17 rfl (bJ dA rfl rfl (vs := [_, _, _]) rfl rfl (by simp [Value.oneCell']) (.cons .zero (.cons (.succ .zero) (.cons (.succ (.succ .zero)) .nil))) (.there (.there .here)) ?_))))))))
     refine aU (.cons _ (.cons _ (.cons _ (.refl _)))) (bQ (by kernel_rfl) ?_)
     exact dO (hK ⟨b7, b86, b88⟩ trivial) ⟨rfl, rfl, rfl, rfl, rfl, trivial⟩ (pk (.there (.there .here)) (pk .here (pk .here (.refl _)))) (.refl _)
  intro x _
  simp only [List.cons_append, List.nil_append]
  refine Tr.keep (env' := [(5, _), (6, _), (7, _), (71, _), (72, _)]) ⟨rfl, rfl, rfl, rfl, rfl, trivial⟩ (aB (aE (aE (aA (tv (aI eH rfl) ?_)))))
  refine tv (aG gF rfl (aK (.head _) rfl)) (tv (aP Tryz.underlying109 rfl) (tv (aC rfl) (aF (Tr.keep (env' := [(5, _), (6, _), (7, _), (71, _), (72, _), (92, _), (93, _)]) ⟨rfl, rfl, rfl, rfl, rfl, rfl, rfl, trivial⟩ (aB ?_)))))
  refine aX (dW (fun j : Nat => [(5, .pointer (some ⟨b17, 0, none⟩)), (6, .int .i64 (s.plan.items.length : Int)), (7, .pointer (some ⟨x.1, 0, none⟩)), (71, .int .i64 s.cars), (72, .int .i64 (k : Int)), (92, .int .i64 (s.plan.items.length : Int)), (93, .int .i64 (j : Int))]) (fun j : Nat => cel x.1 111 [.int .i64 0, .slice (some ⟨x.2.1, 0, none⟩) nl nl, .slice (some ⟨x.2.2, 0, none⟩) s.plan.items.length s.plan.items.length] :: cel x.2.1 3 (bT (List.replicate nl [.int .i64 0])) :: cel x.2.2 114 (bT ((List.replicate j eZ ++ List.replicate (s.plan.items.length - j) sY).map CLine.cells)) :: (E ++ (hG rl ++ (cel cb 221 (s.code.cells qc.A qc.c ++ [.bool true, .slice none 0 0, .slice none 0 0]) :: (qc.E ++ ((⟨s.cars, s.places, s.least, s.srcs, []⟩ : WLog).eb wl :: (⟨s.cars, s.places, s.least, s.srcs, []⟩ : WLog).em wl :: (wl.lE ++ (wl.sE ++ ((GuardSt.new s.g).eg gl :: (GuardSt.new s.g).er gl :: (GuardSt.new s.g).ep gl :: (GuardSt.new s.g).ec gl :: (cel b17 129 [.int .i64 s.g.posts, .int .i64 s.g.silence, .int .i64 s.g.clear, .int .i64 s.g.interval, .int .i64 s.g.missing, .int .i64 s.g.cars, .int .i64 s.cars, .int .i64 s.places, .slice q.L.A s.least.length q.L.c, .slice q.S.A s.srcs.length q.S.c, .slice q.I.A s.plan.items.length q.I.c, .int .i64 s.plan.classes, .int .i64 s.plan.late, .int .i64 s.plan.early, .int .i64 s.plan.maxLate, .int .i64 s.plan.legLate, .slice q.J.A s.plan.jumps.length q.J.c, .bool s.plan.b5, .int .i64 s.plan.missed, .int .i64 s.plan.notional, .int .i64 s.plan.percent, .int .i64 s.plan.power, .slice q.X.A s.plan.points.length q.X.c, .slice q.Y.A s.plan.extra.length q.Y.c, .int .i64 s.code.cars, .slice q.A.A s.code.arts.length q.A.c, .int .i64 s.code.window, .int .i64 s.code.second, .int .i64 s.code.fee, .int .i64 s.code.price, .pointer (some ⟨gl.g, 0, none⟩), .pointer (some ⟨wl.b, 0, none⟩), .pointer (some ⟨cb, 0, none⟩), v, .slice none 0 0] :: (q.A.E ++ (q.Y.E ++ (q.X.E ++ (q.J.E ++ (q.I.E ++ (q.S.E ++ (q.L.E ++ (cel b1 38 (s.cells a) :: M)))))))))))))))))) (fun j : Nat => j ≤ s.plan.items.length) (fun j : Nat => s.plan.items.length - j) 0 (Nat.zero_le _) ⟨rfl, rfl, rfl, rfl, rfl, rfl, rfl, trivial⟩ (by rw [l_new]; exact .refl _) ?_)
  intro K2 j hj IH2
  refine aE (aA (tv (dI rfl rfl) (aF (Tr.keep (env' := [(5, _), (6, _), (7, _), (71, _), (72, _), (92, _), (93, _), (94, _)]) ⟨rfl, rfl, rfl, rfl, rfl, rfl, rfl, rfl, trivial⟩ (aB ?_)))))
  refine aE ?_
  refine bD rfl (fun hc2 => ?_) (fun hc2 => ?_)
  ·have hlt2 : j < s.plan.items.length := by have := of_decide_eq_true hc2; omega
   rw [l_at _ j hlt2]
   refine aO (aB (aE (aX (aE (aA ?_)))))
   refine tv (aC rfl) (tv (aD rfl) (aF (Tr.keep (env' := [(5, _), (6, _), (7, _), (8, _), (71, _), (72, _), (92, _), (93, _)]) ⟨rfl, rfl, rfl, rfl, rfl, rfl, rfl, rfl, trivial⟩ (aB (aA ?_)))))
   refine tv (aI eH rfl) (tv (aG gF rfl (aK (.head _) rfl)) (tv (aC rfl) (tv (nT j (bT ((List.replicate j eZ).map CLine.cells)).length Tryz.underlying109 jF rfl rfl rfl rfl (by omega) (by rw [l_len]; simp)) (tv (aI iW rfl) (te (bR wI rfl rfl rfl (.app (.succ (.succ (.succ .zero)))) (.there (.there .here)) ?_))))))
   refine aF (Tr.keep (env' := [(5, _), (6, _), (7, _), (71, _), (72, _), (92, _), (93, _)]) ⟨rfl, rfl, rfl, rfl, rfl, rfl, rfl, trivial⟩ (cX (aB (aA (tv (cC rfl rfl (by omega)) ?_)))))
   refine tv (aC rfl) (aF (Tr.keep (env' := [(5, _), (6, _), (7, _), (71, _), (72, _), (92, _), (93, _)]) ⟨rfl, rfl, rfl, rfl, rfl, rfl, rfl, trivial⟩ (aB ?_)))
   refine nD (IH2 (j + 1) (by omega) (by omega)) ⟨rfl, rfl, rfl, rfl, rfl, rfl, rfl, trivial⟩ (by rw [l_to _ j hlt2]; exact .refl _)
  ·have h92 : ¬ j < s.plan.items.length := by have := of_decide_eq_false hc2; omega
   rw [l_end (show j = s.plan.items.length by omega)]
   refine cY (aS (aS (bX (aB (wU (S1 := [cel x.1 111 [.int .i64 0, .slice (some ⟨x.2.1, 0, none⟩) nl nl, .slice (some ⟨x.2.2, 0, none⟩) s.plan.items.length s.plan.items.length], cel b17 129 [.int .i64 s.g.posts, .int .i64 s.g.silence, .int .i64 s.g.clear, .int .i64 s.g.interval, .int .i64 s.g.missing, .int .i64 s.g.cars, .int .i64 s.cars, .int .i64 s.places, .slice q.L.A s.least.length q.L.c, .slice q.S.A s.srcs.length q.S.c, .slice q.I.A s.plan.items.length q.I.c, .int .i64 s.plan.classes, .int .i64 s.plan.late, .int .i64 s.plan.early, .int .i64 s.plan.maxLate, .int .i64 s.plan.legLate, .slice q.J.A s.plan.jumps.length q.J.c, .bool s.plan.b5, .int .i64 s.plan.missed, .int .i64 s.plan.notional, .int .i64 s.plan.percent, .int .i64 s.plan.power, .slice q.X.A s.plan.points.length q.X.c, .slice q.Y.A s.plan.extra.length q.Y.c, .int .i64 s.code.cars, .slice q.A.A s.code.arts.length q.A.c, .int .i64 s.code.window, .int .i64 s.code.second, .int .i64 s.code.fee, .int .i64 s.code.price, .pointer (some ⟨gl.g, 0, none⟩), .pointer (some ⟨wl.b, 0, none⟩), .pointer (some ⟨cb, 0, none⟩), v, .slice none 0 0]]) (S2 := [cel x.1 111 [.int .i64 0, .slice (some ⟨x.2.1, 0, none⟩) nl nl, .slice (some ⟨x.2.2, 0, none⟩) s.plan.items.length s.plan.items.length]]) 10 cK rfl ?_)))))
   refine fX 0 rfl (.cons_cons _ (List.nil_sublist _)) (.cons_cons _ (.cons _ (.cons _ (List.Sublist.trans (List.Sublist.trans (.cons _ (List.Sublist.trans (.cons _ (.cons _ (List.Sublist.trans (List.Sublist.trans (.cons _ (.cons _ (.cons _ (.cons _ (.cons_cons _ (List.nil_sublist _)))))) (List.sublist_append_right _ _)) (List.sublist_append_right _ _)))) (List.sublist_append_right _ _))) (List.sublist_append_right _ _)) (List.sublist_append_right _ _))))) (aC rfl) (fX 1 rfl (.cons_cons _ (List.nil_sublist _)) (.cons_cons _ (.cons _ (.cons _ (List.Sublist.trans (List.Sublist.trans (.cons _ (List.Sublist.trans (.cons _ (.cons _ (List.Sublist.trans (List.Sublist.trans (.cons _ (.cons _ (.cons _ (.cons _ (.cons_cons _ (List.nil_sublist _)))))) (List.sublist_append_right _ _)) (List.sublist_append_right _ _)))) (List.sublist_append_right _ _))) (List.sublist_append_right _ _)) (List.sublist_append_right _ _))))) (aC rfl) (fX 2 rfl (.cons_cons _ (List.nil_sublist _)) (.cons_cons _ (.cons _ (.cons _ (List.Sublist.trans (List.Sublist.trans (.cons _ (List.Sublist.trans (.cons _ (.cons _ (List.Sublist.trans (List.Sublist.trans (.cons _ (.cons _ (.cons _ (.cons _ (.cons_cons _ (List.nil_sublist _)))))) (List.sublist_append_right _ _)) (List.sublist_append_right _ _)))) (List.sublist_append_right _ _))) (List.sublist_append_right _ _)) (List.sublist_append_right _ _))))) (aM rfl) (fX 3 rfl (.cons_cons _ (List.nil_sublist _)) (.cons_cons _ (.cons _ (.cons _ (List.Sublist.trans (List.Sublist.trans (.cons _ (List.Sublist.trans (.cons _ (.cons _ (List.Sublist.trans (List.Sublist.trans (.cons _ (.cons _ (.cons _ (.cons _ (.cons_cons _ (List.nil_sublist _)))))) (List.sublist_append_right _ _)) (List.sublist_append_right _ _)))) (List.sublist_append_right _ _))) (List.sublist_append_right _ _)) (List.sublist_append_right _ _))))) (aI iT rfl) (kv 4 rfl (.cons_cons _ (.cons _ (.cons _ (List.Sublist.trans (List.Sublist.trans (.cons _ (List.Sublist.trans (.cons _ (.cons _ (List.Sublist.trans (List.Sublist.trans (.cons _ (.cons _ (.cons _ (.cons _ (.cons_cons _ (List.nil_sublist _)))))) (List.sublist_append_right _ _)) (List.sublist_append_right _ _)))) (List.sublist_append_right _ _))) (List.sublist_append_right _ _)) (List.sublist_append_right _ _))))) (aG pO rfl (aK (.tail _ (.head _)) rfl)) (fX 5 rfl (.cons_cons _ (List.nil_sublist _)) (.cons_cons _ (.cons _ (.cons _ (List.Sublist.trans (List.Sublist.trans (.cons _ (List.Sublist.trans (.cons _ (.cons _ (List.Sublist.trans (List.Sublist.trans (.cons _ (.cons _ (.cons _ (.cons _ (.cons_cons _ (List.nil_sublist _)))))) (List.sublist_append_right _ _)) (List.sublist_append_right _ _)))) (List.sublist_append_right _ _))) (List.sublist_append_right _ _)) (List.sublist_append_right _ _))))) (aY jP rfl (bL (n := 3) (vs := [_, _, _]) (.head _) rfl) rfl) ?_)))))
   refine eM 6 rfl rfl (by kernel_rfl) (bN (E := 111) (l := [.int .i64 0, .slice (some ⟨x.2.1, 0, none⟩) nl nl, .slice (some ⟨x.2.2, 0, none⟩) s.plan.items.length s.plan.items.length]) rfl (fun w => by kernel_rfl) rfl fun b108 => (fQ (by kernel_rfl) (.cons _ (.cons_cons _ (.cons _ (.cons _ (List.Sublist.trans (List.Sublist.trans (.cons _ (List.Sublist.trans (.cons _ (.cons _ (List.Sublist.trans (List.Sublist.trans (.cons _ (.cons _ (.cons _ (.cons _ (.cons_cons _ (List.nil_sublist _)))))) (List.sublist_append_right _ _)) (List.sublist_append_right _ _)))) (List.sublist_append_right _ _))) (List.sublist_append_right _ _)) (List.sublist_append_right _ _)))))) (eM 7 rfl rfl (by kernel_rfl) (fN Tryz.underlying53 eB rfl (by decide) rfl rfl hO (pk .here (mH (.there (.there (.there .here))) (.refl _))) rfl (by simp [Value.oneCell']) (by simp; omega) (by simp [maxLen]; omega) rfl fun v1 E1 hO1 => (fQ (by kernel_rfl) (List.Sublist.trans (.cons_cons _ (.cons _ (.cons _ (List.Sublist.trans (.cons _ (List.Sublist.trans (.cons _ (.cons _ (List.Sublist.trans (List.Sublist.trans (.cons _ (.cons _ (.cons _ (.cons _ (.cons_cons _ (List.nil_sublist _)))))) (List.sublist_append_right _ _)) (List.sublist_append_right _ _)))) (List.sublist_append_right _ _))) (List.sublist_append_right _ _))))) (List.sublist_append_right _ _)) (fX 8 rfl (.cons_cons _ (List.nil_sublist _)) (List.Sublist.trans (.cons_cons _ (.cons _ (.cons _ (List.Sublist.trans (.cons _ (List.Sublist.trans (.cons _ (.cons _ (List.Sublist.trans (List.Sublist.trans (.cons _ (.cons _ (.cons _ (.cons _ (.cons_cons _ (List.nil_sublist _)))))) (List.sublist_append_right _ _)) (List.sublist_append_right _ _)))) (List.sublist_append_right _ _))) (List.sublist_append_right _ _))))) (List.sublist_append_right _ _)) (aM rfl) (fX 9 rfl (.cons_cons _ (List.nil_sublist _)) (List.Sublist.trans (.cons_cons _ (.cons _ (.cons _ (List.Sublist.trans (.cons _ (List.Sublist.trans (.cons _ (.cons _ (List.Sublist.trans (List.Sublist.trans (.cons _ (.cons _ (.cons _ (.cons _ (.cons_cons _ (List.nil_sublist _)))))) (List.sublist_append_right _ _)) (List.sublist_append_right _ _)))) (List.sublist_append_right _ _))) (List.sublist_append_right _ _))))) (List.sublist_append_right _ _)) (aI iT rfl) ?_)))))))
   refine eM 10 rfl rfl (by kernel_rfl) (bR bE4 rfl rfl (Own.one hO1) (.succ (.succ (.succ (.succ (.succ (.succ (.succ (.succ (.succ (.succ (.succ (.succ (.succ (.succ (.succ (.succ (.succ (.succ (.succ (.succ (.succ (.succ (.succ (.succ (.succ (.succ (.succ (.succ (.succ (.succ (.succ (.succ (.succ .zero))))))))))))))))))))))))))))))))) (.right (.there (.there (.there (.right (.there (.right (.there (.there (.right (.right (.there (.there (.there (.there .here))))))))))))))) (eS (by kernel_rfl) (List.Sublist.trans (.cons_cons _ (List.nil_sublist _)) (List.sublist_append_right _ _)) (rS (by kernel_rfl) (Tr.keep (env' := [(5, _), (6, _), (71, _), (72, _)]) ⟨rfl, rfl, rfl, rfl, trivial⟩ (cX (aB ?_))))))
   refine aA (tv (cC rfl rfl (by omega)) (tv (aC rfl) (aF (Tr.keep (env' := [(5, _), (6, _), (71, _), (72, _)]) ⟨rfl, rfl, rfl, rfl, trivial⟩ (aB ?_)))))
   refine nD (IH (k + 1, v1, E1, iN nl s.plan.items.length x.2.1 x.2.2 :: rl) ⟨by omega, by simpa [pZ] using hO1, by simp [hrl], fun c hc => by
  rcases List.mem_cons.1 hc with rfl | hc
  ·exact ⟨_, _, rfl⟩
  ·exact hall c hc⟩ (by simp; omega)) ⟨rfl, rfl, rfl, rfl, trivial⟩ (by rw [hG, yM, yN]; exact (List.Sublist.append (.refl _) (.cons _ (.refl _))))
 ·have h9 : ¬ k < nc := by have := of_decide_eq_false hc1; omega
  have hkn : k = nc := by omega
  refine cY (aS (aS (bX (aB (aE ?_)))))
  refine aA (tv (aC rfl) (tv (aD rfl) (tv (aD rfl) (aF (Tr.keep (env' := [(2, _), (3, _)]) ⟨rfl, rfl, trivial⟩ ?_)))))
  refine aB (aQ (gG rfl rfl rfl (fun w hw => ?_)))
  exact ⟨⟨b17, q, gl, wl, cb, qc, v, E, rl⟩, rfl, ⟨hq, hwl, hqc, hO, (by show (rl.length : Int) = s.cars; omega), hall⟩, Ok.sub hw (List.Sublist.append (.refl _) (List.Sublist.append (.refl _) (.cons_cons _ (List.Sublist.append (.refl _) (.cons_cons _ (.cons_cons _ (List.Sublist.append (.refl _) (List.Sublist.append (.refl _) (.cons_cons _ (.cons_cons _ (.cons_cons _ (.cons_cons _ (.cons_cons _ (List.Sublist.append (.refl _) (List.Sublist.append (.refl _) (List.Sublist.append (.refl _) (List.Sublist.append (.refl _) (List.Sublist.append (.refl _) (List.Sublist.append (.refl _) (List.Sublist.append (.refl _) (.cons _ (.refl _))))))))))))))))))))))⟩
end
end Go.Proofs.W
set_option linter.unusedVariables false
set_option linter.unusedSimpArgs false
set_option linter.unusedSectionVars false
set_option maxRecDepth 100000
namespace Go.Proofs.W
open Go Go.Sl Go.RowKit Go.Proofs
attribute [local irreducible] Go.Sl.Eff
abbrev EvX.ev (e : EvX) (s : SetupV) (cv lv : Value) : Ent := cel e.eb 129 [.int .i64 s.g.posts, .int .i64 s.g.silence, .int .i64 s.g.clear, .int .i64 s.g.interval, .int .i64 s.g.missing, .int .i64 s.g.cars, .int .i64 s.cars, .int .i64 s.places, .slice e.q.L.A s.least.length e.q.L.c, .slice e.q.S.A s.srcs.length e.q.S.c, .slice e.q.I.A s.plan.items.length e.q.I.c, .int .i64 s.plan.classes, .int .i64 s.plan.late, .int .i64 s.plan.early, .int .i64 s.plan.maxLate, .int .i64 s.plan.legLate, .slice e.q.J.A s.plan.jumps.length e.q.J.c, .bool s.plan.b5, .int .i64 s.plan.missed, .int .i64 s.plan.notional, .int .i64 s.plan.percent, .int .i64 s.plan.power, .slice e.q.X.A s.plan.points.length e.q.X.c, .slice e.q.Y.A s.plan.extra.length e.q.Y.c, .int .i64 s.code.cars, .slice e.q.A.A s.code.arts.length e.q.A.c, .int .i64 s.code.window, .int .i64 s.code.second, .int .i64 s.code.fee, .int .i64 s.code.price, .pointer (some ⟨e.gl.g, 0, none⟩), .pointer (some ⟨e.wl.b, 0, none⟩), .pointer (some ⟨e.cb, 0, none⟩), cv, lv]
abbrev CardX.con (c : CardX) : Int × List Int × List CLine := (c.cls, c.starts, c.lines)
structure CardX.In (c : CardX) (M : List Ent) : Prop where
 es : c.es ∈ M
 el : c.el ∈ M
 ns : 0 < c.starts.length ∧ c.starts.length ≤ 1000
 nl : 0 < c.lines.length ∧ c.lines.length ≤ 1000
theorem CardX.In.rs {c : CardX} {w0 : World} {M M' : List Ent} (h : c.In M) (hs : M.Sublist M') : SlRd w0 M' 1 (some ⟨c.s.b, 0, none⟩) c.starts.length (c.starts.map encI) :=
 SlRd.of_cel (T := 3) (sp := c.s.sp) (hs.subset h.es) (by simp) (by simp [encI]) (by have := h.ns; omega)
theorem CardX.In.rl {c : CardX} {w0 : World} {M M' : List Ent} (h : c.In M) (hs : M.Sublist M') : SlRd w0 M' 4 (some ⟨c.l.b, 0, none⟩) c.lines.length (c.lines.map CLine.cells) :=
 SlRd.of_cel (T := 114) (sp := c.l.sp) (hs.subset h.el) (by simp) (by simp [aR2]) (by have := h.nl; omega)
section
variable {w0 : World} {M : List Ent}
theorem yO {e : EvX} {s : SetupV} {cv lv : Value} (hev : e.ev s cv lv ∈ M) : ∀ w, Ok w0 M w → Calls Tryz.prog 56 #[.pointer (some ⟨e.eb, 0, none⟩)] w (fun e w' => e = .returned (.bool true) ∧ Ok w0 M w') := by
 refine enter (vs := [_]) Tryz.func56 rfl Tryz.ntmps56 rfl (aE (aA (tv (aD rfl) (aF (Tr.keep (env' := [(0, _)]) ⟨rfl, trivial⟩ ?_)))))
 refine aB (aE (aA (tv (aC rfl) (tv (cM (v2 := .bool true) (nQ Tryz.underlying46 rfl rfl) rfl) (tv (aC rfl) ?_)))))
 refine cV rfl rfl (aC rfl) (cV rfl rfl (aM rfl) (cV rfl rfl (aI iI rfl) (cV rfl rfl (aG fE rfl (aK hev rfl)) (cV rfl rfl (cM (v2 := .bool true) (nQ Tryz.underlying68 rfl rfl) rfl) (tv (cG rfl rfl) ?_)))))
 refine tv (aD rfl) (aF (Tr.keep (env' := [(2, _)]) ⟨rfl, trivial⟩ (aB (aQ (aW rfl rfl (fun w hw => ?_))))))
 exact ⟨rfl, hw⟩
theorem bO1 {e : EvX} {s : SetupV} {A : Option Addr} {cA : Nat} {lv : Value} {cl : List CardX} (hev : e.ev s (.slice A cl.length cA) lv ∈ M) (hs : SlRd w0 M 3 A cl.length (cl.map CardX.cells)) (hmem : ∀ c ∈ cl, c.In M) (hn : cl.length ≤ 1000) : ∀ w, Ok w0 M w → Calls Tryz.prog 18 #[.pointer (some ⟨e.eb, 0, none⟩)] w
  (fun r w' => ∃ y : Value × List Ent × List CardX, r = .returned y.1 ∧ (Own 111 3 y.1 (y.2.2.reverse.map CardX.cells) y.2.1 ∧ y.2.2.reverse.map CardX.con = cl.map CardX.con) ∧ Ok w0 (y.2.1 ++ (hG y.2.2 ++ M)) w') := by
 have hbig := hs.big
 refine enter (vs := [_]) Tryz.func18 rfl Tryz.ntmps18 rfl (aE (aA (tv (aD rfl) (aF (Tr.keep (env' := [(0, _)]) ⟨rfl, trivial⟩ ?_)))))
 refine aB (aE (aE (aA (tv (aC rfl) (te (aJ aO0 rfl rfl rfl rfl (yO (e := e) (s := s) (cv := .slice A cl.length cA) (lv := lv) hev) ?_))))))
 refine tv (bF rfl) (aF (Tr.keep (env' := [(0, _), (8, _)]) ⟨rfl, rfl, trivial⟩ (aB (aR rfl (aO ?_)))))
 refine aB (aE (aA (tv (aD rfl) (aF (Tr.keep (env' := [(0, _), (3, _)]) ⟨rfl, rfl, trivial⟩ ?_)))))
 refine aB (aE (aE (aA (tv (aC rfl) (tv (aM rfl) ?_)))))
 refine tv (aI iT rfl) (tv (aG pO rfl (aK hev rfl)) (tv (aP Tryz.underlying53 rfl) (tv (aC rfl) (aF (Tr.keep (env' := [(3, _), (12, _), (13, _), (14, _)]) ⟨rfl, rfl, rfl, rfl, trivial⟩ ?_)))))
 refine aB (aX (dW (fun z : Nat × Value × List Ent × List CardX => [(3, z.2.1), (12, .slice A cl.length cA), (13, .int .i64 (cl.length : Int)), (14, .int .i64 (z.1 : Int))]) (fun z : Nat × Value × List Ent × List CardX => z.2.2.1 ++ (hG z.2.2.2 ++ M)) (fun z : Nat × Value × List Ent × List CardX => z.1 ≤ cl.length ∧ Own 111 3 z.2.1 (z.2.2.2.reverse.map CardX.cells) z.2.2.1 ∧ z.2.2.2.reverse.map CardX.con = (cl.take z.1).map CardX.con) (fun z : Nat × Value × List Ent × List CardX => cl.length - z.1) (0, .slice none 0 0, [], []) ⟨Nat.zero_le _, Own.nil _ _, rfl⟩ ⟨rfl, rfl, rfl, rfl, trivial⟩ (.refl _) ?_))
 intro K ⟨k, v, E, rl⟩ ⟨hk, hO, hcon⟩ IH
 dsimp only at hk hO hcon IH ⊢
 refine aE (aA (tv (dI rfl rfl) (aF (Tr.keep (env' := [(3, _), (12, _), (13, _), (14, _), (15, _)]) ⟨rfl, rfl, rfl, rfl, rfl, trivial⟩ (aB ?_)))))
 refine aE ?_
 refine bD rfl (fun hc1 => ?_) (fun hc1 => ?_)
 ·have hlt : k < cl.length := by have := of_decide_eq_true hc1; omega
  obtain ⟨b, o, hA, hrd⟩ := hs.at' (by omega)
  obtain ⟨x, hxk⟩ : ∃ x, cl[k]? = some x := ⟨_, List.getElem?_eq_getElem hlt⟩
  have hx : (cl.map CardX.cells)[k]? = some (CardX.cells x) := by rw [List.getElem?_map, hxk]; rfl
  refine aO (aB (aE (aX (aE (aA ?_)))))
  refine tv (cL k Tryz.underlying53 dA hA rfl rfl rfl hlt) (tv (cM (v2 := .agg #[.int .i64 x.cls, x.s.v x.starts.length, x.l.v x.lines.length]) (aY (vs := CardX.cells x) jP rfl (fun j v hv => (hrd k (CardX.cells x) hx j v hv).sub (List.Sublist.trans (List.Sublist.trans (.refl _) (List.sublist_append_right _ _)) (List.sublist_append_right _ _))) rfl) rfl) (te (bO eB (l := [.int .i64 0, .slice none 0 0, .slice none 0 0]) rfl rfl fun b5 => (te (bJ dA rfl rfl (vs := [_, _, _]) rfl rfl (by simp [Value.oneCell']) (.cons .zero (.cons (.succ .zero) (.cons (.succ (.succ .zero)) .nil))) .here (aF (Tr.keep (env' := [(3, _), (5, _), (12, _), (13, _), (14, _)]) ⟨rfl, rfl, rfl, rfl, rfl, trivial⟩ ?_)))))))
  refine aB (aA (tv (aC rfl) (tv (aY jP rfl (bL (n := 3) (vs := [_, _, _]) (.head _) rfl) rfl) (te (bP aX2 rfl rfl rfl rfl (sQ ((hmem x (List.mem_of_getElem? hxk)).rs (.cons _ (List.Sublist.trans (List.Sublist.trans (.refl _) (List.sublist_append_right _ _)) (List.sublist_append_right _ _)))) ((hmem x (List.mem_of_getElem? hxk)).rl (.cons _ (List.Sublist.trans (List.Sublist.trans (.refl _) (List.sublist_append_right _ _)) (List.sublist_append_right _ _)))) (by simp) (by simp) (hmem x (List.mem_of_getElem? hxk)).ns (hmem x (List.mem_of_getElem? hxk)).nl) fun y _ => (te (bN (E := 111) (l := [.int .i64 x.cls, y.1.v x.starts.length, y.2.v x.lines.length]) rfl (fun w => by kernel_rfl) rfl fun b21 => ?_)))))))
  refine te (fN Tryz.underlying53 eB rfl (by decide) rfl rfl hO (pk .here (mH (.there (.there (.there .here))) (.refl _))) rfl (by simp [Value.oneCell']) (by have := congrArg List.length hcon; simp at this ⊢; omega) (by have := congrArg List.length hcon; simp [maxLen] at this ⊢; omega) rfl fun v1 E1 hO1 => (tv (aD rfl) (aF (Tr.keep (env' := [(3, _), (12, _), (13, _), (14, _)]) ⟨rfl, rfl, rfl, rfl, trivial⟩ (cX (aB ?_))))))
  refine aA (tv (cC rfl rfl (by omega)) (tv (aC rfl) (aF (Tr.keep (env' := [(3, _), (12, _), (13, _), (14, _)]) ⟨rfl, rfl, rfl, rfl, trivial⟩ (aB ?_)))))
  refine nD (IH (k + 1, v1, E1, ⟨x.cls, x.starts, x.lines, y.1, y.2⟩ :: rl) ⟨by omega, by simpa [CardX.cells] using hO1, by rw [List.take_add_one, hxk]; simp only [List.reverse_cons, List.map_append, hcon]; rfl⟩ (by simp; omega)) ⟨rfl, rfl, rfl, rfl, trivial⟩ (by rw [hG]; exact (List.Sublist.append (.refl _) (.cons_cons _ (.cons_cons _ (.cons _ (.refl _))))))
 ·have h9 : ¬ k < cl.length := by have := of_decide_eq_false hc1; omega
  obtain rfl : k = cl.length := by omega
  refine cY (aS (aS (bX (aB (aE ?_)))))
  refine aA (tv (aC rfl) (tv (aD rfl) (aF (Tr.keep (env' := [(2, _)]) ⟨rfl, trivial⟩ (aB ?_)))))
  refine aQ (aW rfl rfl (fun w hw => ?_))
  rw [List.take_of_length_le (Nat.le_refl _)] at hcon
  exact ⟨(v, E, rl), rfl, ⟨hO, hcon⟩, hw⟩
end
end Go.Proofs.W
set_option linter.unusedVariables false
set_option linter.unusedSimpArgs false
set_option linter.unusedSectionVars false
set_option maxRecDepth 100000
namespace Go.Proofs.W
open Go Go.Sl Go.RowKit Go.Proofs
attribute [local irreducible] Go.Sl.Eff
theorem en_57 : aV Tryz.prog 57 := aL Tryz.func57 (by kernel_rfl) (by kernel_rfl)
section
variable {w0 : World} {M : List Ent}
theorem zP {A : Option Addr} {n c : Nat} {xs : List (List Value)} (hrd : SlRd w0 M 2 A n xs) (h1 : ∀ x ∈ xs, ∀ u ∈ x, u.oneCell' = true) (hnil : A = none → n = 0 ∧ c = 0) (hn : n ≤ 1000000) :
  ∀ w, Ok w0 M w → Calls Tryz.prog 57 #[.slice A n c] w (fun e w' => ∃ x : Value × List Ent, e = .returned x.1 ∧ (Own 91 2 x.1 xs x.2 ∧ (x.1 = .slice none 0 0 ↔ A = none)) ∧ Ok w0 (x.2 ++ M) w') := by
 refine enter (vs := [_]) Tryz.func57 rfl Tryz.ntmps57 rfl (aE (aA (tv (aD rfl) (aF (Tr.keep (env' := [(0, _)]) ⟨rfl, trivial⟩ ?_)))))
 refine aB (aE (aE (aA (tv (aC rfl) (tv (hZ Tryz.underlying50 rfl rfl) ?_)))))
 refine aF (Tr.keep (env' := [(0, _), (4, _)]) ⟨rfl, rfl, trivial⟩ (aB ?_))
 refine bD rfl (fun hnl => ?_) (fun hnl => ?_)
 ·obtain rfl : A = none := by simpa using hnl
  obtain ⟨rfl, rfl⟩ := hnil rfl
  obtain rfl : xs = [] := List.length_eq_zero_iff.1 hrd.len
  refine aE (aA (tv (aD rfl) (aF (Tr.keep (env' := [(2, _)]) ⟨rfl, trivial⟩ (aB ?_)))))
  refine aQ (aN (aW rfl rfl (fun w hw => ?_)))
  exact ⟨(_, []), rfl, ⟨Own.nil _ _, by simp⟩, hw⟩
 ·obtain ⟨a, rfl⟩ : ∃ a, A = some a := by cases A <;> simp_all
  refine aO (aB (aE (aA (te (bN (E := 91) (l := []) rfl (fun w => by kernel_rfl) rfl fun b5 => (tv (aC rfl) ?_))))))
  refine te (lS Tryz.underlying50 bK8 rfl (by decide) rfl rfl (Own.made (xs := []) (n := 0) (by simp) rfl (by decide)) (.refl _) hrd.cons h1 (by simp; omega) (by simp [maxLen]; omega) rfl (by simp) fun v E hO hne => (tv (aD rfl) (aF (Tr.keep (env' := [(2, _)]) ⟨rfl, trivial⟩ (aB (aQ ?_))))))
  refine aW rfl rfl (fun w hw => ?_)
  exact ⟨(v, E), rfl, ⟨by simpa using hO, by simp [hne]⟩, hw⟩
theorem one_e {l : List (ByteArray × ByteArray)} : ∀ x ∈ l.map tV, ∀ u ∈ x, u.oneCell' = true := by
 intro x hx u hu
 obtain ⟨y, _, rfl⟩ := List.mem_map.1 hx
 simp [tV] at hu; rcases hu with rfl | rfl <;> rfl
theorem logG_c {e : EvX} {s : SetupV} {cv : Value} {A : Option Addr} {cA : Nat} {log : List (ByteArray × ByteArray)} (hev : e.ev s cv (.slice A log.length cA) ∈ M) (hs : SlRd w0 M 2 A log.length (log.map tV)) (hnil : NoA A log.length cA) (hn : log.length ≤ 1000000) : ∀ w, Ok w0 M w → Calls Tryz.prog 16 #[.pointer (some ⟨e.eb, 0, none⟩)] w
  (fun r w' => ∃ y : Value × List Ent, r = .returned y.1 ∧ (Own 91 2 y.1 (log.map tV) y.2 ∧ (y.1 = .slice none 0 0 ↔ A = none)) ∧ Ok w0 (y.2 ++ M) w') := by
 refine enter (vs := [_]) Tryz.func16 rfl Tryz.ntmps16 rfl (aE (aA (tv (aD rfl) (aF (Tr.keep (env' := [(0, _)]) ⟨rfl, trivial⟩ ?_)))))
 refine aB (aE (aE (aA (tv (aC rfl) (te (aJ aO0 rfl rfl rfl rfl (yO (e := e) (s := s) (cv := cv) (lv := .slice A log.length cA) hev) ?_))))))
 refine tv (bF rfl) (aF (Tr.keep (env' := [(0, _), (5, _)]) ⟨rfl, rfl, trivial⟩ (aB (aR rfl (aO ?_)))))
 refine aB (aE (aA (tv (aC rfl) (tv (aM rfl) (tv (aI nG rfl) ?_)))))
 refine tv (aG aN9 rfl (aK hev rfl)) (te (bP en_57 rfl rfl rfl rfl (zP hs one_e hnil hn) fun x hx => ?_))
 obtain ⟨v1, E1⟩ := x
 dsimp only at hx ⊢
 refine tv (aD rfl) (aF (Tr.keep (env' := [(2, _)]) ⟨rfl, trivial⟩ (aB (aQ (aW rfl rfl (fun w hw => ?_))))))
 exact ⟨(v1, E1), rfl, hx, hw⟩
end
end Go.Proofs.W
set_option linter.unusedVariables false
set_option linter.unusedSimpArgs false
set_option linter.unusedSectionVars false
set_option maxRecDepth 100000
namespace Go.Proofs.W
open Go Go.Sl Go.RowKit Go.Proofs
attribute [local irreducible] Go.Sl.Eff
section
variable {w0 : World} {M : List Ent}
theorem bO2 {s : SetupV} {a : SetupAt} (h : s.In w0 M a) (hok : fA s = false) : ∀ w, Ok w0 M w → Calls Tryz.prog 14 #[.agg (s.cells a).toArray] w (fun r w' => r = .returned (.tuple #[.pointer none, .int .i64 2]) ∧ Ok w0 M w') := by
 refine enter (vs := [_]) Tryz.func14 rfl Tryz.ntmps14 rfl (aE (aA (te (cH rfl rfl fun b1 => (tv (aD rfl) (tv (aD rfl) ?_))))))
 refine aF (Tr.keep (env' := [(1, _)]) ⟨rfl, trivial⟩ (aB (aE (aE (aA ?_)))))
 refine tv (aY iH rfl (bL (n := 30) (vs := [_, _, _, _, _, _, _, _, _, _, _, _, _, _, _, _, _, _, _, _, _, _, _, _, _, _, _, _, _, _]) (.head _) rfl) rfl) (te (aJ aK5 rfl rfl rfl rfl (kK (h.sub (.cons _ (.refl _)))) ?_))
 rw [hok]
 refine tv (aD rfl) (aF (Tr.keep (env' := [(1, _), (4, _)]) ⟨rfl, rfl, trivial⟩ (aB (aE (aA ?_)))))
 refine tv (aC rfl) (tv (eF rfl rfl) (aF (Tr.keep (env' := [(1, _), (4, _), (12, _)]) ⟨rfl, rfl, rfl, trivial⟩ (aB (bI rfl ?_)))))
 refine aE (aA (tv (aC rfl) (tv (aD rfl) (tv (aD rfl) (aF ?_)))))
 refine Tr.keep (env' := [(2, _), (3, _)]) ⟨rfl, rfl, trivial⟩ (aB (aQ (aN (gG rfl rfl rfl (fun w hw => ?_)))))
 exact ⟨rfl, Ok.sub hw (.cons _ (.refl _))⟩
end
end Go.Proofs.W
set_option linter.unusedVariables false
set_option linter.unusedSimpArgs false
set_option linter.unusedSectionVars false
set_option maxRecDepth 100000
namespace Go.Proofs.W
open Go Go.Sl Go.RowKit Go.Proofs
attribute [local irreducible] Go.Sl.Eff
theorem tZ : aV Tryz.prog 111 := aL Tryz.func111 (by kernel_rfl) (by kernel_rfl)
theorem aJ2 : aV Tryz.prog 112 := aL Tryz.func112 (by kernel_rfl) (by kernel_rfl)
theorem kG : aV Tryz.prog 113 := aL Tryz.func113 (by kernel_rfl) (by kernel_rfl)
section
variable {w0 : World} {M : List Ent}
theorem kH (n lo hi : Int) : ∀ w, Ok w0 M w → Calls Tryz.prog 111 #[.int .i64 n, .int .i64 lo, .int .i64 hi] w (fun e w' => e = .returned (.bool (eK n lo hi)) ∧ Ok w0 M w') := by
 refine enter (vs := [_, _, _]) Tryz.func111 rfl Tryz.ntmps111 rfl (aE (aA (tv (aD rfl) (aF (Tr.keep (env' := [(0, _), (1, _), (2, _)]) ⟨rfl, rfl, rfl, trivial⟩ ?_)))))
 refine aB (aE (aA (tv (aC rfl) (tv (aC rfl) (tv (fI rfl rfl) ?_)))))
 refine tv (aC rfl) ?_
 apply bH 4 (s := 10) (d := 14) rfl
 ·intro hg1 K hK
  refine bE hg1 rfl rfl (aC rfl) (bE hg1 rfl rfl (aC rfl) (bE hg1 rfl rfl (iF rfl rfl) (tv (bV hg1 rfl rfl) ?_)))
  iterate 3 refine Tr.weak2 rfl ?_
  exact hK _ (dT hg1)
 ·intro hg1 K hK
  refine aH hg1 rfl rfl rfl rfl (aH hg1 rfl rfl rfl rfl (aH hg1 rfl rfl rfl rfl (tv (bW hg1 rfl rfl) ?_)))
  iterate 3 refine Tr.weak2 rfl ?_
  exact hK _ (dU hg1)
 refine tv (aD rfl) (aF (Tr.keep (env' := [(6, _)]) ⟨rfl, trivial⟩ (aB (aQ (aW rfl rfl (fun w hw => ?_))))))
 exact ⟨rfl, hw⟩
theorem oD (n lo hi : Int) : ∀ w, Ok w0 M w → Calls Tryz.prog 112 #[.int .i64 n, .int .i64 lo, .int .i64 hi] w (fun e w' => e = .returned (.bool (eK n lo hi)) ∧ Ok w0 M w') := by
 refine enter (vs := [_, _, _]) Tryz.func112 rfl Tryz.ntmps112 rfl (aE (aA (tv (aD rfl) (aF (Tr.keep (env' := [(0, _), (1, _), (2, _)]) ⟨rfl, rfl, rfl, trivial⟩ ?_)))))
 refine aB (aE (aA (tv (aC rfl) (tv (aC rfl) (tv (fI rfl rfl) ?_)))))
 refine tv (aC rfl) ?_
 apply bH 4 (s := 10) (d := 14) rfl
 ·intro hg1 K hK
  refine bE hg1 rfl rfl (aC rfl) (bE hg1 rfl rfl (aC rfl) (bE hg1 rfl rfl (iF rfl rfl) (tv (bV hg1 rfl rfl) ?_)))
  iterate 3 refine Tr.weak2 rfl ?_
  exact hK _ (dT hg1)
 ·intro hg1 K hK
  refine aH hg1 rfl rfl rfl rfl (aH hg1 rfl rfl rfl rfl (aH hg1 rfl rfl rfl rfl (tv (bW hg1 rfl rfl) ?_)))
  iterate 3 refine Tr.weak2 rfl ?_
  exact hK _ (dU hg1)
 refine tv (aD rfl) (aF (Tr.keep (env' := [(6, _)]) ⟨rfl, trivial⟩ (aB (aQ (aW rfl rfl (fun w hw => ?_))))))
 exact ⟨rfl, hw⟩
theorem fB (n lo hi : Int) : ∀ w, Ok w0 M w → Calls Tryz.prog 113 #[.int .i64 n, .int .i64 lo, .int .i64 hi] w (fun e w' => e = .returned (.bool (eK n lo hi)) ∧ Ok w0 M w') := by
 refine enter (vs := [_, _, _]) Tryz.func113 rfl Tryz.ntmps113 rfl (aE (aA (tv (aD rfl) (aF (Tr.keep (env' := [(0, _), (1, _), (2, _)]) ⟨rfl, rfl, rfl, trivial⟩ ?_)))))
 refine aB (aE (aA (tv (aC rfl) (tv (aC rfl) (tv (fI rfl rfl) ?_)))))
 refine tv (aC rfl) ?_
 apply bH 4 (s := 10) (d := 14) rfl
 ·intro hg1 K hK
  refine bE hg1 rfl rfl (aC rfl) (bE hg1 rfl rfl (aC rfl) (bE hg1 rfl rfl (iF rfl rfl) (tv (bV hg1 rfl rfl) ?_)))
  iterate 3 refine Tr.weak2 rfl ?_
  exact hK _ (dT hg1)
 ·intro hg1 K hK
  refine aH hg1 rfl rfl rfl rfl (aH hg1 rfl rfl rfl rfl (aH hg1 rfl rfl rfl rfl (tv (bW hg1 rfl rfl) ?_)))
  iterate 3 refine Tr.weak2 rfl ?_
  exact hK _ (dU hg1)
 refine tv (aD rfl) (aF (Tr.keep (env' := [(6, _)]) ⟨rfl, trivial⟩ (aB (aQ (aW rfl rfl (fun w hw => ?_))))))
 exact ⟨rfl, hw⟩
theorem hH (n lo hi : Int) : ∀ w, Ok w0 M w → Calls Tryz.prog 115 #[.int .i64 n, .int .i64 lo, .int .i64 hi] w (fun e w' => e = .returned (.bool (eK n lo hi)) ∧ Ok w0 M w') := by
 refine enter (vs := [_, _, _]) Tryz.func115 rfl Tryz.ntmps115 rfl (aE (aA (tv (aD rfl) (aF (Tr.keep (env' := [(0, _), (1, _), (2, _)]) ⟨rfl, rfl, rfl, trivial⟩ ?_)))))
 refine aB (aE (aA (tv (aC rfl) (tv (aC rfl) (tv (fI rfl rfl) ?_)))))
 refine tv (aC rfl) ?_
 apply bH 4 (s := 10) (d := 14) rfl
 ·intro hg1 K hK
  refine bE hg1 rfl rfl (aC rfl) (bE hg1 rfl rfl (aC rfl) (bE hg1 rfl rfl (iF rfl rfl) (tv (bV hg1 rfl rfl) ?_)))
  iterate 3 refine Tr.weak2 rfl ?_
  exact hK _ (dT hg1)
 ·intro hg1 K hK
  refine aH hg1 rfl rfl rfl rfl (aH hg1 rfl rfl rfl rfl (aH hg1 rfl rfl rfl rfl (tv (bW hg1 rfl rfl) ?_)))
  iterate 3 refine Tr.weak2 rfl ?_
  exact hK _ (dU hg1)
 refine tv (aD rfl) (aF (Tr.keep (env' := [(6, _)]) ⟨rfl, trivial⟩ (aB (aQ (aW rfl rfl (fun w hw => ?_))))))
 exact ⟨rfl, hw⟩
theorem aU6 (p : GPlan) : ∀ w, Ok w0 M w → Calls Tryz.prog 45 #[.agg p.cells.toArray] w (fun e w' => e = .returned (.bool p.ok) ∧ Ok w0 M w') := by
 refine enter (vs := [_]) Tryz.func45 rfl Tryz.ntmps45 rfl (aE (aA (te (cH rfl rfl fun b1 => (tv (aD rfl) (aF ?_))))))
 refine Tr.keep (env' := [(1, _)]) ⟨rfl, trivial⟩ (aB (aE (aA (tv (aI iL rfl) (tv (aG bB rfl (aK (.head _) rfl)) ?_)))))
 refine te (aJ tZ rfl rfl rfl rfl (kH _ _ _) (tv (aC rfl) ?_))
 apply bH 4 (s := 6) (d := 10) rfl
 ·intro hg1 K hK
  refine bE hg1 rfl rfl (aI vM rfl) (bE hg1 rfl rfl (aG bB rfl (aK (.head _) rfl)) (dB hg1 rfl rfl (aJ tZ rfl rfl rfl rfl (kH _ _ _) (tv (bV hg1 rfl rfl) ?_))))
  iterate 3 refine Tr.weak2 rfl ?_
  exact hK _ (dT hg1)
 ·intro hg1 K hK
  refine aH hg1 rfl rfl rfl rfl (aH hg1 rfl rfl rfl rfl (aH hg1 rfl rfl rfl rfl (tv (bW hg1 rfl rfl) ?_)))
  iterate 3 refine Tr.weak2 rfl ?_
  exact hK _ (dU hg1)
 refine tv (aC rfl) ?_
 apply bH 6 (s := 11) (d := 17) rfl
 ·intro hg2 K hK
  refine bE hg2 rfl rfl (aI vN rfl) (bE hg2 rfl rfl (aG bB rfl (aK (.head _) rfl)) (bE hg2 rfl rfl (aI iL rfl) (bE hg2 rfl rfl (aG bB rfl (aK (.head _) rfl)) (dB hg2 rfl rfl (aJ tZ rfl rfl rfl rfl (kH _ _ _) (tv (bV hg2 rfl rfl) ?_))))))
  iterate 5 refine Tr.weak2 rfl ?_
  exact hK _ (dT hg2)
 ·intro hg2 K hK
  refine aH hg2 rfl rfl rfl rfl (aH hg2 rfl rfl rfl rfl (aH hg2 rfl rfl rfl rfl (aH hg2 rfl rfl rfl rfl (aH hg2 rfl rfl rfl rfl (tv (bW hg2 rfl rfl) ?_)))))
  iterate 5 refine Tr.weak2 rfl ?_
  exact hK _ (dU hg2)
 refine tv (aC rfl) ?_
 apply bH 4 (s := 18) (d := 22) rfl
 ·intro hg3 K hK
  refine bE hg3 rfl rfl (aI vO rfl) (bE hg3 rfl rfl (aG bB rfl (aK (.head _) rfl)) (dB hg3 rfl rfl (aJ tZ rfl rfl rfl rfl (kH _ _ _) (tv (bV hg3 rfl rfl) ?_))))
  iterate 3 refine Tr.weak2 rfl ?_
  exact hK _ (dT hg3)
 ·intro hg3 K hK
  refine aH hg3 rfl rfl rfl rfl (aH hg3 rfl rfl rfl rfl (aH hg3 rfl rfl rfl rfl (tv (bW hg3 rfl rfl) ?_)))
  iterate 3 refine Tr.weak2 rfl ?_
  exact hK _ (dU hg3)
 refine tv (aC rfl) ?_
 apply bH 4 (s := 23) (d := 27) rfl
 ·intro hg4 K hK
  refine bE hg4 rfl rfl (aI vP rfl) (bE hg4 rfl rfl (aG bB rfl (aK (.head _) rfl)) (dB hg4 rfl rfl (aJ tZ rfl rfl rfl rfl (kH _ _ _) (tv (bV hg4 rfl rfl) ?_))))
  iterate 3 refine Tr.weak2 rfl ?_
  exact hK _ (dT hg4)
 ·intro hg4 K hK
  refine aH hg4 rfl rfl rfl rfl (aH hg4 rfl rfl rfl rfl (aH hg4 rfl rfl rfl rfl (tv (bW hg4 rfl rfl) ?_)))
  iterate 3 refine Tr.weak2 rfl ?_
  exact hK _ (dU hg4)
 refine tv (aC rfl) ?_
 apply bH 4 (s := 28) (d := 32) rfl
 ·intro hg5 K hK
  refine bE hg5 rfl rfl (aI jK rfl) (bE hg5 rfl rfl (aG bB rfl (aK (.head _) rfl)) (dB hg5 rfl rfl (aJ tZ rfl rfl rfl rfl (kH _ _ _) (tv (bV hg5 rfl rfl) ?_))))
  iterate 3 refine Tr.weak2 rfl ?_
  exact hK _ (dT hg5)
 ·intro hg5 K hK
  refine aH hg5 rfl rfl rfl rfl (aH hg5 rfl rfl rfl rfl (aH hg5 rfl rfl rfl rfl (tv (bW hg5 rfl rfl) ?_)))
  iterate 3 refine Tr.weak2 rfl ?_
  exact hK _ (dU hg5)
 refine tv (aD rfl) (aF (Tr.keep (env' := [(2, _)]) ⟨rfl, trivial⟩ (aB (aQ (aW rfl rfl (fun w hw => ?_))))))
 exact ⟨by simp [GPlan.ok], Ok.sub hw (List.sublist_cons_self _ _)⟩
theorem aU7 {A B : Option Addr} {cA cB : Nat} {cars places : Int} {least : List Int} {srcs : List Src} (hA : SlRd w0 M 1 A least.length (least.map encI)) (hB : SlRd w0 M 2 B srcs.length (srcs.map Src.cells)) :
 ∀ w, Ok w0 M w → Calls Tryz.prog 46 #[.agg #[.int .i64 cars, .int .i64 places, .slice A least.length cA], .slice B srcs.length cB] w (fun e w' => e = .returned (.bool (fR cars places least srcs)) ∧ Ok w0 M w') := by
 have b1 := hA.big; have b2 := hB.big
 refine enter (vs := [_, _]) Tryz.func46 rfl Tryz.ntmps46 rfl (aE (aA (te (cH rfl rfl fun b2 => (tv (aD rfl) (aF ?_))))))
 refine Tr.keep (env' := [(1, _), (2, _)]) ⟨rfl, rfl, trivial⟩ (aB (aE (aE (aA (tv (aI gM rfl) ?_)))))
 refine tv (aG bB rfl (aK (.head _) rfl)) (te (aJ aJ2 rfl rfl rfl rfl (oD _ _ _) (tv (bF rfl) (tv (aC rfl) ?_))))
 apply aZ 5 (s := 11) (d := 16) rfl
 ·intro hg1 K hK
  refine bE hg1 rfl rfl (aI kM rfl) (bE hg1 rfl rfl (aG bB rfl (aK (.head _) rfl)) (dB hg1 rfl rfl (aJ aJ2 rfl rfl rfl rfl (oD _ _ _) (bE hg1 rfl rfl (bF rfl) (tv (bW hg1 rfl rfl) ?_)))))
  iterate 4 refine Tr.weak2 rfl ?_
  exact hK _ (dJ hg1)
 ·intro hg1 K hK
  refine aH hg1 rfl rfl rfl rfl (aH hg1 rfl rfl rfl rfl (aH hg1 rfl rfl rfl rfl (aH hg1 rfl rfl rfl rfl (tv (bV hg1 rfl rfl) ?_))))
  iterate 4 refine Tr.weak2 rfl ?_
  exact hK _ (dK hg1)
 refine tv (aC rfl) ?_
 apply aZ 8 (s := 17) (d := 25) rfl
 ·intro hg2 K hK
  refine bE hg2 rfl rfl (aI jB rfl) (bE hg2 rfl rfl (aG dQ rfl (aK (.head _) rfl)) (bE hg2 rfl rfl (aP Tryz.underlying24 rfl) (bE hg2 rfl rfl (aI kM rfl) (bE hg2 rfl rfl (aG bB rfl (aK (.head _) rfl)) (bE hg2 rfl rfl (cP rfl rfl (by have h9 := hg2; simp [eK] at h9; omega)) ?_)))))
  refine bE hg2 rfl rfl (eF rfl rfl) (tv (bW hg2 rfl rfl) ?_)
  iterate 7 refine Tr.weak2 rfl ?_
  exact hK _ (dJ hg2)
 ·intro hg2 K hK
  refine aH hg2 rfl rfl rfl rfl (aH hg2 rfl rfl rfl rfl (aH hg2 rfl rfl rfl rfl (aH hg2 rfl rfl rfl rfl (aH hg2 rfl rfl rfl rfl (aH hg2 rfl rfl rfl rfl ?_)))))
  refine aH hg2 rfl rfl rfl rfl (tv (bV hg2 rfl rfl) ?_)
  iterate 7 refine Tr.weak2 rfl ?_
  exact hK _ (dK hg2)
 refine tv (aC rfl) ?_
 apply aZ 4 (s := 26) (d := 30) rfl
 ·intro hg3 K hK
  refine bE hg3 rfl rfl (aC rfl) (bE hg3 rfl rfl (aP Tryz.underlying27 rfl) (bE hg3 rfl rfl (fC rfl rfl) (tv (bW hg3 rfl rfl) ?_)))
  iterate 3 refine Tr.weak2 rfl ?_
  exact hK _ (dJ hg3)
 ·intro hg3 K hK
  refine aH hg3 rfl rfl rfl rfl (aH hg3 rfl rfl rfl rfl (aH hg3 rfl rfl rfl rfl (tv (bV hg3 rfl rfl) ?_)))
  iterate 3 refine Tr.weak2 rfl ?_
  exact hK _ (dK hg3)
 refine aF (Tr.keep (env' := [(1, _), (2, _), (30, _)]) ⟨rfl, rfl, rfl, trivial⟩ (aB ?_))
 refine bD rfl (fun hv => ?_) (fun hv => ?_)
 ·skip
  refine aE (aA (tv (aD rfl) (aF (Tr.keep (env' := [(4, _)]) ⟨rfl, trivial⟩ (aB ?_)))))
  refine aQ (aN (aW rfl rfl (fun w hw => ?_)))
  exact ⟨by rw [show fR cars places least srcs = false from by unfold fR; rw [hv]; rfl]; first | rfl | done, Ok.sub hw (.cons _ (.refl _))⟩
 ·skip
  refine aO (aB (aE (aE (aA (tv (aD rfl) ?_)))))
  refine aF (Tr.keep (env' := [(1, _), (2, _), (5, _)]) ⟨rfl, rfl, rfl, trivial⟩ (aB (aX (dW (fun k : Nat => [(1, .slice B srcs.length cB), (2, .pointer (some ⟨b2, 0, none⟩)), (5, .int .i64 (k : Int))]) (fun k : Nat => cel b2 26 [.int .i64 cars, .int .i64 places, .slice A least.length cA] :: M) (fun k : Nat => k ≤ least.length ∧ ∀ j, j < k → ∀ y, least[j]? = some y → eK y 0 100000000 = true) (fun k : Nat => least.length - k) 0 ⟨Nat.zero_le _, by omega⟩ ⟨rfl, rfl, rfl, trivial⟩ (.refl _) ?_))))
  intro K k ⟨hk, hp⟩ IH
  refine aE (aE (aA (tv (aC rfl) (tv (aI jB rfl) (tv (aG dQ rfl (aK (.head _) rfl)) ?_)))))
  refine tv (aP Tryz.underlying24 rfl) (tv (dI rfl rfl) (aF (Tr.keep (env' := [(1, _), (2, _), (5, _), (35, _)]) ⟨rfl, rfl, rfl, rfl, trivial⟩ (aB ?_))))
  refine bD rfl (fun hc1 => ?_) (fun hc1 => ?_)
  ·have hlt : k < least.length := by have := of_decide_eq_true hc1; omega
   obtain ⟨b, o, hA', hrd⟩ := hA.at' (by omega)
   obtain ⟨x, hx⟩ : ∃ x, least[k]? = some x := ⟨_, List.getElem?_eq_getElem hlt⟩
   refine aO (aB (aE (aX (aE (aA ?_)))))
   refine tv (aI jB rfl) (tv (aG dQ rfl (aK (.head _) rfl)) (tv (aC rfl) (tv (cL k Tryz.underlying24 eR hA' rfl rfl rfl hlt) ?_)))
   refine tv (aG bB rfl (Rd.sub (hrd k (encI x) (by rw [List.getElem?_map, hx]; rfl) 0 _ rfl) (.cons _ (.refl _)))) ?_
   refine te (aJ aJ2 rfl rfl rfl rfl (oD _ _ _) (tv (bF rfl) (aF (Tr.keep (env' := [(1, _), (2, _), (5, _), (44, _)]) ⟨rfl, rfl, rfl, rfl, trivial⟩ (aB ?_)))))
   refine bD rfl (fun hc2 => ?_) (fun hc2 => ?_)
   ·skip
    refine aE (aA (tv (aD rfl) (aF (Tr.keep (env' := [(4, _)]) ⟨rfl, trivial⟩ (aB ?_)))))
    refine aQ (bM (aN (aN (bM (aN ?_)))))
    refine aW rfl rfl (fun w hw => ?_)
    exact ⟨by rw [show fR cars places least srcs = false from by
     have h9 : (least.any fun n => !eK n 0 100000000) = true := by rw [List.any_eq_true]; exact ⟨x, List.mem_of_getElem? hx, hc2⟩
     unfold fR; rw [h9]; simp]; first | rfl | done, Ok.sub hw (.cons _ (.refl _))⟩
   ·skip
    refine aO (cX (aB (aA (tv (aC rfl) (tv (cC rfl rfl (by omega)) ?_)))))
    refine tv (aD rfl) (aF (Tr.keep (env' := [(1, _), (2, _), (5, _)]) ⟨rfl, rfl, rfl, trivial⟩ (aB (nD (IH (k + 1) ⟨by omega, fun j hj y hy => ?_⟩ (by omega)) ⟨rfl, rfl, rfl, trivial⟩ (.refl _)))))
    rcases Nat.lt_or_ge j k with h8 | h8
    ·exact hp j h8 y hy
    ·obtain rfl : j = k := by omega
     rw [hx] at hy; cases hy; simpa using hc2
  ·have h9 : ¬ k < least.length := by have := of_decide_eq_false hc1; omega
   obtain rfl : k = least.length := by omega
   refine cY (aS (aS (bX (aB (aE ?_)))))
   refine aE (aA (tv (aD rfl) (aF (Tr.keep (env' := [(1, _), (6, _)]) ⟨rfl, rfl, trivial⟩ (aB ?_)))))
   refine aX (dW (fun k : Nat => [(1, .slice B srcs.length cB), (6, .int .i64 (k : Int))]) (fun k : Nat => cel b2 26 [.int .i64 cars, .int .i64 places, .slice A least.length cA] :: M) (fun k : Nat => k ≤ srcs.length ∧ ∀ j, j < k → ∀ y, srcs[j]? = some y → y.bad = false) (fun k : Nat => srcs.length - k) 0 ⟨Nat.zero_le _, by omega⟩ ⟨rfl, rfl, trivial⟩ (.refl _) ?_)
   intro K k ⟨hk, hp2⟩ IH
   refine aE (aE (aA (tv (aC rfl) (tv (aC rfl) (tv (aP Tryz.underlying27 rfl) ?_)))))
   refine tv (dI rfl rfl) (aF (Tr.keep (env' := [(1, _), (6, _), (48, _)]) ⟨rfl, rfl, rfl, trivial⟩ (aB ?_)))
   refine bD rfl (fun hc3 => ?_) (fun hc3 => ?_)
   ·have hlt : k < srcs.length := by have := of_decide_eq_true hc3; omega
    obtain ⟨b, o, hA', hrd⟩ := hB.at' (by omega)
    obtain ⟨x, hx⟩ : ∃ x, srcs[k]? = some x := ⟨_, List.getElem?_eq_getElem hlt⟩
    refine aO (aB (aE (aX (aE (aA ?_)))))
    refine tv (aC rfl) (tv (aC rfl) (tv (cL k Tryz.underlying27 aM6 hA' rfl rfl rfl hlt) (tv (aI sH rfl) ?_)))
    refine tv (aG aM7 rfl (Rd.sub (hrd k (Src.cells x) (by rw [List.getElem?_map, hx]; rfl) 0 _ rfl) (.cons _ (.refl _)))) ?_
    refine tv (dI rfl rfl) (tv (aC rfl) ?_)
    apply aZ 7 (s := 57) (d := 64) rfl
    ·intro hg8 K hK
     refine bE hg8 rfl rfl (aC rfl) (bE hg8 rfl rfl (aC rfl) (bE hg8 rfl rfl (cL k Tryz.underlying27 aM6 hA' rfl rfl rfl hlt) (bE hg8 rfl rfl (aI sH rfl) ?_)))
     refine bE hg8 rfl rfl (aG aM7 rfl (Rd.sub (hrd k (Src.cells x) (by rw [List.getElem?_map, hx]; rfl) 0 _ rfl) (.cons _ (.refl _)))) ?_
     refine bE hg8 rfl rfl (fC rfl rfl) (tv (bW hg8 rfl rfl) ?_)
     iterate 6 refine Tr.weak2 rfl ?_
     exact hK _ (dJ hg8)
    ·intro hg8 K hK
     refine aH hg8 rfl rfl rfl rfl (aH hg8 rfl rfl rfl rfl (aH hg8 rfl rfl rfl rfl (aH hg8 rfl rfl rfl rfl (aH hg8 rfl rfl rfl rfl (aH hg8 rfl rfl rfl rfl ?_)))))
     refine tv (bV hg8 rfl rfl) ?_
     iterate 6 refine Tr.weak2 rfl ?_
     exact hK _ (dK hg8)
    refine tv (aC rfl) ?_
    apply aZ 8 (s := 65) (d := 73) rfl
    ·intro hg9 K hK
     refine bE hg9 rfl rfl (aC rfl) (bE hg9 rfl rfl (aC rfl) (bE hg9 rfl rfl (cL k Tryz.underlying27 aM6 hA' rfl rfl rfl hlt) (bE hg9 rfl rfl (aI aW4 rfl) ?_)))
     refine bE hg9 rfl rfl (aG bB rfl (Rd.sub (hrd k (Src.cells x) (by rw [List.getElem?_map, hx]; rfl) 1 _ rfl) (.cons _ (.refl _)))) ?_
     refine dB hg9 rfl rfl (aJ aJ2 rfl rfl rfl rfl (oD _ _ _) (bE hg9 rfl rfl (bF rfl) (tv (bW hg9 rfl rfl) ?_)))
     iterate 7 refine Tr.weak2 rfl ?_
     exact hK _ (dJ hg9)
    ·intro hg9 K hK
     refine aH hg9 rfl rfl rfl rfl (aH hg9 rfl rfl rfl rfl (aH hg9 rfl rfl rfl rfl (aH hg9 rfl rfl rfl rfl (aH hg9 rfl rfl rfl rfl (aH hg9 rfl rfl rfl rfl ?_)))))
     refine aH hg9 rfl rfl rfl rfl (tv (bV hg9 rfl rfl) ?_)
     iterate 7 refine Tr.weak2 rfl ?_
     exact hK _ (dK hg9)
    refine aF (Tr.keep (env' := [(1, _), (6, _), (73, _)]) ⟨rfl, rfl, rfl, trivial⟩ (aB ?_))
    refine bD rfl (fun hc4 => ?_) (fun hc4 => ?_)
    ·skip
     refine aE (aA (tv (aD rfl) (aF (Tr.keep (env' := [(4, _)]) ⟨rfl, trivial⟩ (aB ?_)))))
     refine aQ (bM (aN (aN (bM (aN ?_)))))
     refine aW rfl rfl (fun w hw => ?_)
     exact ⟨by rw [show fR cars places least srcs = false from by
      have h9 : (srcs.any Src.bad) = true := by rw [List.any_eq_true]; exact ⟨x, List.mem_of_getElem? hx, hc4⟩
      unfold fR; rw [h9]; simp]; first | rfl | done, Ok.sub hw (.cons _ (.refl _))⟩
    ·skip
     refine aO (cX (aB (aA (tv (aC rfl) (tv (cC rfl rfl (by omega)) ?_)))))
     refine tv (aD rfl) (aF (Tr.keep (env' := [(1, _), (6, _)]) ⟨rfl, rfl, trivial⟩ (aB (nD (IH (k + 1) ⟨by omega, fun j hj y hy => ?_⟩ (by omega)) ⟨rfl, rfl, trivial⟩ (.refl _)))))
     rcases Nat.lt_or_ge j k with h8 | h8
     ·exact hp2 j h8 y hy
     ·obtain rfl : j = k := by omega
      rw [hx] at hy; cases hy; exact hc4
   ·have h9 : ¬ k < srcs.length := by have := of_decide_eq_false hc3; omega
    obtain rfl : k = srcs.length := by omega
    refine cY (aS (aS (bX (aB (aE ?_)))))
    refine aA (tv (aD rfl) (aF (Tr.keep (env' := [(4, _)]) ⟨rfl, trivial⟩ (aB (aQ ?_)))))
    refine aW rfl rfl (fun w hw => ?_)
    exact ⟨by rw [show fR cars places least srcs = true from by
     have h9 : (least.any fun n => !eK n 0 100000000) = false := by
      rw [List.any_eq_false]; intro y hy; obtain ⟨j, hj⟩ := List.getElem?_of_mem hy; simp [hp j (by have := (List.getElem?_eq_some_iff.1 hj).1; omega) y hj]
     have h8 : (srcs.any Src.bad) = false := by
      rw [List.any_eq_false]; intro y hy; obtain ⟨j, hj⟩ := List.getElem?_of_mem hy; simp [hp2 j (by have := (List.getElem?_eq_some_iff.1 hj).1; omega) y hj]
     unfold fR; rw [hv, h9, h8]; rfl]; first | rfl | done, Ok.sub hw (.cons _ (.refl _))⟩
theorem yP {A : Option Addr} {n c : Nat} {xs : List Int} (hs : SlRd w0 M 1 A n (xs.map encI)) (least most hi : Int) : ∀ w, Ok w0 M w → Calls Tryz.prog 114 #[.slice A n c, .int .i64 least, .int .i64 most, .int .i64 0, .int .i64 hi] w (fun e w' => e = .returned (.bool (eX xs least most hi)) ∧ Ok w0 M w') := by
 have hn : n = xs.length := by have := hs.len; simpa using this.symm
 subst hn
 have b1 := hs.big
 refine enter (vs := [_, _, _, _, _]) Tryz.func114 rfl Tryz.ntmps114 rfl (aE (aA (tv (aD rfl) (aF (Tr.keep (env' := [(0, _), (1, _), (2, _), (3, _), (4, _)]) ⟨rfl, rfl, rfl, rfl, rfl, trivial⟩ ?_)))))
 refine aB (aE (aE (aA (tv (aD rfl) (aF ?_)))))
 refine Tr.keep (env' := [(0, _), (1, _), (2, _), (3, _), (4, _), (11, _)]) ⟨rfl, rfl, rfl, rfl, rfl, rfl, trivial⟩ (aB (aX (dW (fun k : Nat => [(0, .slice A xs.length c), (1, .int .i64 least), (2, .int .i64 most), (3, .int .i64 0), (4, .int .i64 hi), (11, .int .i64 (k : Int))]) (fun k : Nat => M) (fun k : Nat => k ≤ xs.length ∧ ∀ j, j < k → ∀ y, xs[j]? = some y → eK y 0 hi = true) (fun k : Nat => xs.length - k) 0 ⟨Nat.zero_le _, by omega⟩ ⟨rfl, rfl, rfl, rfl, rfl, rfl, trivial⟩ (.refl _) ?_)))
 intro K k ⟨hk, hp⟩ IH
 refine aE (aE (aA (tv (aC rfl) (tv (aC rfl) (tv (aP Tryz.underlying24 rfl) ?_)))))
 refine tv (dI rfl rfl) (aF (Tr.keep (env' := [(0, _), (1, _), (2, _), (3, _), (4, _), (11, _), (15, _)]) ⟨rfl, rfl, rfl, rfl, rfl, rfl, rfl, trivial⟩ (aB ?_)))
 refine bD rfl (fun hc1 => ?_) (fun hc1 => ?_)
 ·have hlt : k < xs.length := by have := of_decide_eq_true hc1; omega
  obtain ⟨b, o, hA', hrd⟩ := hs.at' (by omega)
  obtain ⟨x, hx⟩ : ∃ x, xs[k]? = some x := ⟨_, List.getElem?_eq_getElem hlt⟩
  refine aO (aB (aE (aX (aE (aA ?_)))))
  refine tv (aC rfl) (tv (aC rfl) (tv (cL k Tryz.underlying24 eR hA' rfl rfl rfl hlt) ?_))
  refine tv (aG bB rfl (Rd.sub (hrd k (encI x) (by rw [List.getElem?_map, hx]; rfl) 0 _ rfl) (.refl _))) ?_
  refine tv (aC rfl) (tv (aC rfl) (te (aJ kG rfl rfl rfl rfl (fB _ _ _) (tv (bF rfl) (aF (Tr.keep (env' := [(0, _), (1, _), (2, _), (3, _), (4, _), (11, _), (25, _)]) ⟨rfl, rfl, rfl, rfl, rfl, rfl, rfl, trivial⟩ ?_))))))
  refine aB ?_
  refine bD rfl (fun hc2 => ?_) (fun hc2 => ?_)
  ·skip
   refine aE (aA (tv (aD rfl) (aF (Tr.keep (env' := [(10, _)]) ⟨rfl, trivial⟩ (aB ?_)))))
   refine aQ (bM (aN (aN (bM (aN ?_)))))
   refine aW rfl rfl (fun w hw => ?_)
   exact ⟨by
    have h9 : (xs.any fun n => !eK n 0 hi) = true := by rw [List.any_eq_true]; exact ⟨x, List.mem_of_getElem? hx, hc2⟩
    unfold eX; rw [h9]; simp, hw⟩
  ·skip
   refine aO (cX (aB (aA (tv (aC rfl) (tv (cC rfl rfl (by omega)) ?_)))))
   refine tv (aD rfl) (aF (Tr.keep (env' := [(0, _), (1, _), (2, _), (3, _), (4, _), (11, _)]) ⟨rfl, rfl, rfl, rfl, rfl, rfl, trivial⟩ (aB (nD (IH (k + 1) ⟨by omega, fun j hj y hy => ?_⟩ (by omega)) ⟨rfl, rfl, rfl, rfl, rfl, rfl, trivial⟩ (.refl _)))))
   rcases Nat.lt_or_ge j k with h8 | h8
   ·exact hp j h8 y hy
   ·obtain rfl : j = k := by omega
    rw [hx] at hy; cases hy; simpa using hc2
 ·have h9 : ¬ k < xs.length := by have := of_decide_eq_false hc1; omega
  obtain rfl : k = xs.length := by omega
  refine cY (aS (aS (bX (aB (aE ?_)))))
  refine aA (tv (aC rfl) (tv (aP Tryz.underlying24 rfl) (tv (aC rfl) (tv (aC rfl) (te (aJ kG rfl rfl rfl rfl (fB _ _ _) ?_))))))
  refine tv (aD rfl) (aF (Tr.keep (env' := [(10, _)]) ⟨rfl, trivial⟩ (aB (aQ (aW rfl rfl (fun w hw => ?_))))))
  exact ⟨by
   have h9 : (xs.any fun n => !eK n 0 hi) = false := by
    rw [List.any_eq_false]; intro y hy; obtain ⟨j, hj⟩ := List.getElem?_of_mem hy; simp [hp j (by have := (List.getElem?_eq_some_iff.1 hj).1; omega) y hj]
   unfold eX; rw [h9]; simp, hw⟩
end
end Go.Proofs.W
