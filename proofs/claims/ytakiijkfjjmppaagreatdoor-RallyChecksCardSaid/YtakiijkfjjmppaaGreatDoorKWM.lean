/-
 What functions of the program that RallyChecks reaches do, one contract each, part 13.
-/
import Derived.Test.YtakiijkfjjmppaaGreatDoorKWL
set_option linter.unusedVariables false
set_option linter.unusedSimpArgs false
set_option linter.unusedSectionVars false
set_option maxRecDepth 100000
set_option maxHeartbeats 1000000
namespace Go.Proofs.W
open Go Go.Sl Go.RowKit Go.Proofs
attribute [local irreducible] Go.Sl.Eff
theorem en_60 : aV Tryz.prog 60 := aL Tryz.func60 (by kernel_rfl) (by kernel_rfl)
theorem aM0 : aV Tryz.prog 61 := aL Tryz.func61 (by kernel_rfl) (by kernel_rfl)
theorem bF7 : bC Tryz.prog 160 2 = some 7 := by kernel_rfl
theorem aF6 : bC Tryz.prog 60 4 = some 33 := by kernel_rfl
structure RGAt where
 g : Nat
 c : Nat
abbrev rgE (p : GPlan) (l : RGAt) (ev : Value) (n : Nat) : Ent := cel l.g 160 [.int .i64 p.posts, .int .i64 p.silence, .int .i64 p.clear, .int .i64 p.interval, .int .i64 p.missing, .int .i64 p.cars, ev, slv l.c n]
abbrev rgC (l : RGAt) (cs : List GState) : Ent := cel l.c 156 (bT (cs.map GState.cells))
structure RevX where
 b : Nat
 gl : RGAt
 cv : Value
 cE : List Ent
 rl : List CardX
abbrev RevX.ev (e : RevX) (s : SetupV) (a : SetupAt) (rv av cv lv : Value) : Ent := cel e.b 60 [.int .i64 s.g.posts, .int .i64 s.g.silence, .int .i64 s.g.clear, .int .i64 s.g.interval, .int .i64 s.g.missing, .int .i64 s.g.cars, .int .i64 s.cars, .int .i64 s.places, .slice a.L s.least.length a.cl, .slice a.S s.srcs.length a.cs, .slice a.p.I s.plan.items.length a.p.ci, .int .i64 s.plan.classes, .int .i64 s.plan.late, .int .i64 s.plan.early, .int .i64 s.plan.maxLate, .int .i64 s.plan.legLate, .slice a.p.J s.plan.jumps.length a.p.cj, .bool s.plan.b5, .int .i64 s.plan.missed, .int .i64 s.plan.notional, .int .i64 s.plan.percent, .int .i64 s.plan.power, .slice a.p.X s.plan.points.length a.p.cx, .slice a.p.Y s.plan.extra.length a.p.cy, .int .i64 s.code.cars, .slice a.A s.code.arts.length a.ca, .int .i64 s.code.window, .int .i64 s.code.second, .int .i64 s.code.fee, .int .i64 s.code.price, .pointer (some ⟨e.gl.g, 0, none⟩), rv, av, cv, lv]
section
variable {w0 : World} {M : List Ent}
theorem aZ0 {p : GPlan} (hp : p.ok = true) : ∀ w, Ok w0 M w → Calls Tryz.prog 60 #[.agg p.cells.toArray] w
  (fun e w' => ∃ l : RGAt, e = .returned (.pointer (some ⟨l.g, 0, none⟩)) ∧ True ∧ Ok w0 (rgE p l (.slice none 0 0) p.cars.toNat :: rgC l (List.replicate p.cars.toNat .new) :: M) w') := by
 obtain ⟨h1, h2, h3, h4, h5, h6⟩ := GPlan.ok_iff.1 hp
 obtain ⟨nc, hnc⟩ := Int.eq_ofNat_of_zero_le (show 0 ≤ p.cars by omega)
 refine enter (vs := [_]) Tryz.func60 rfl Tryz.ntmps60 rfl (aE (aA (te (cH rfl rfl fun b1 => (tv (aD rfl) (aF ?_))))))
 refine Tr.keep (env' := [(1, _)]) ⟨rfl, trivial⟩ (aB (aE (cI cK rfl (dv 0 rfl (.refl _) (aY pQ rfl (bL (n := 6) (vs := [_, _, _, _, _, _]) (.head _) rfl) rfl) (dv 1 rfl (.refl _) (aI jK rfl) ?_)))))
 refine dv 2 rfl (.refl _) (aG bB rfl (aK (.head _) rfl)) (de 3 rfl (cU (zs := [.bool false, .int .i64 0, .int .i64 0, .bool false, .bool false]) Tryz.underlying158 pG rfl (by decide) (m := nc) (by rw [← hnc]; rfl) (by omega) (by omega) rfl fun b8 => (aU (.cons _ (.refl _)) (dv 4 rfl (.cons _ (.refl _)) (bU rfl (v := .agg #[.int .i64 p.posts, .int .i64 p.silence, .int .i64 p.clear, .int .i64 p.interval, .int .i64 p.missing, .int .i64 p.cars, .slice none 0 0, .slice (some ⟨b8, 0, none⟩) nc nc]) (fun w => by kernel_rfl)) (de 5 rfl (cH rfl rfl fun b10 => (aU (.cons _ (.cons _ (.refl _))) ?_)))))))
 refine dv 6 rfl (.cons _ (.cons _ (.refl _))) (aD rfl) (bQ (by kernel_rfl) (Tr.keep (env' := [(1, _), (3, _)]) ⟨rfl, rfl, trivial⟩ (aB (aE (aE ?_)))))
 refine aA (tv (aD rfl) (aF (Tr.keep (env' := [(1, _), (3, _), (4, _)]) ⟨rfl, rfl, rfl, trivial⟩ (aB (aX ?_)))))
 refine dW (fun k : Nat => [(1, .pointer (some ⟨b1, 0, none⟩)), (3, .pointer (some ⟨b10, 0, none⟩)), (4, .int .i64 (k : Int))]) (fun k : Nat => cel b10 160 [.int .i64 p.posts, .int .i64 p.silence, .int .i64 p.clear, .int .i64 p.interval, .int .i64 p.missing, .int .i64 p.cars, .slice none 0 0, .slice (some ⟨b8, 0, none⟩) nc nc] :: cel b8 156 (bT ((List.replicate k GState.new ++ List.replicate (nc - k) GState.zero).map GState.cells)) :: cel b1 23 [.int .i64 p.posts, .int .i64 p.silence, .int .i64 p.clear, .int .i64 p.interval, .int .i64 p.missing, .int .i64 p.cars] :: M) (fun k : Nat => k ≤ nc) (fun k : Nat => nc - k) 0 (Nat.zero_le _) ⟨rfl, rfl, rfl, trivial⟩ (by simp [GState.cells, GState.zero]; exact .refl _) ?_
 intro K k hk IH
 refine aE (aE (aA (tv (aC rfl) (tv (aI jK rfl) (tv (aG bB rfl (aK (.tail _ (.tail _ (.head _))) rfl)) ?_)))))
 refine tv (dI rfl rfl) (aF (Tr.keep (env' := [(1, _), (3, _), (4, _), (14, _)]) ⟨rfl, rfl, rfl, rfl, trivial⟩ (aB ?_)))
 refine bD rfl (fun hc1 => ?_) (fun hc1 => ?_)
 ·have hlt : k < nc := by have := of_decide_eq_true hc1; omega
  rw [bH2 nc k hlt]
  refine aO (aB (aE (aX (aA (tv (aC rfl) ?_)))))
  refine tv (aM rfl) (tv (aI bF7 rfl) (tv (aG kV rfl (aK (.head _) rfl)) (tv (aC rfl) (tv (nT k (bT ((List.replicate k GState.new).map GState.cells)).length Tryz.underlying158 mS rfl rfl rfl rfl (by simpa using hlt) (by rw [aW1]; simp)) (tv (aI mV rfl) ?_)))))
  refine te (bR eR rfl rfl rfl (.app (.succ (.succ .zero))) (.there .here) (aF (Tr.keep (env' := [(1, _), (3, _), (4, _)]) ⟨rfl, rfl, rfl, trivial⟩ (cX (aB (aA ?_))))))
  refine tv (aC rfl) (tv (cC rfl rfl (by omega)) (tv (aD rfl) (aF (Tr.keep (env' := [(1, _), (3, _), (4, _)]) ⟨rfl, rfl, rfl, trivial⟩ (aB ?_)))))
  refine nD (IH (k + 1) (by omega) (by omega)) ⟨rfl, rfl, rfl, trivial⟩ (by rw [bH3 nc k hlt]; exact .refl _)
 ·have h9 : ¬ k < nc := by have := of_decide_eq_false hc1; omega
  have hge : k = nc := by omega
  refine cY (aS (aS (bX (aB (aE ?_)))))
  refine aA (tv (aC rfl) (tv (aD rfl) (aF (Tr.keep (env' := [(2, _)]) ⟨rfl, trivial⟩ (aB ?_)))))
  refine aQ (aW rfl rfl (fun w hw => (⟨⟨b10, b8⟩, rfl, trivial, ?_⟩)))
  subst hge
  have e : p.cars.toNat = k := by omega
  rw [e]
  have hw2 := hw.sub (.cons_cons _ (.cons_cons _ (.cons _ (.refl M))))
  simpa [rgE, rgC, slv] using hw2
theorem aZ1 {s : SetupV} {a : SetupAt} {nl : Nat} (h : s.In w0 M a) (hok : fA s = true) (hwf : LegWf s.plan.items) (hnl : (cF s.plan.items (s.plan.items.length - 1)).leg + 1 = (nl : Int)) :
  ∀ w, Ok w0 M w → Calls Tryz.prog 19 #[.agg (s.cells a).toArray] w (fun r w' => ∃ e : RevX, r = .returned (.pointer (some ⟨e.b, 0, none⟩)) ∧ (Own 111 3 e.cv (e.rl.reverse.map CardX.cells) e.cE ∧ (e.rl.length : Int) = s.cars ∧ ∀ c ∈ e.rl, ∃ x y, c = iN nl s.plan.items.length x y) ∧
  Ok w0 (e.cE ++ (hG e.rl ++ (e.ev s a (.slice none 0 0) (.slice none 0 0) e.cv (.slice none 0 0) :: rgE s.g e.gl (.slice none 0 0) s.g.cars.toNat :: rgC e.gl (List.replicate s.g.cars.toNat .new) :: M))) w' ) := by
 have F := oY hok
 have hleg := vZ F.p hwf (s.plan.items.length - 1) (by have := F.pos; omega)
 have hpos := F.pos; have hmost := F.most; have hcars := F.cars
 have hnl6 : nl ≤ 6 := by omega
 obtain ⟨nc, hnc⟩ := Int.eq_ofNat_of_zero_le (show 0 ≤ s.cars by omega)
 refine enter (vs := [_]) Tryz.func19 rfl Tryz.ntmps19 rfl (aE (aA (te (cH rfl rfl fun b1 => (tv (aD rfl) (aF ?_))))))
 refine Tr.keep (env' := [(1, _)]) ⟨rfl, trivial⟩ (aB (aE (cI cK rfl (dv 0 rfl (.refl _) (aY iH rfl (bL (n := 30) (vs := [_, _, _, _, _, _, _, _, _, _, _, _, _, _, _, _, _, _, _, _, _, _, _, _, _, _, _, _, _, _]) (.head _) rfl) rfl) (dv 1 rfl (.refl _) (aI iD rfl) ?_)))))
 refine dv 2 rfl (.refl _) (aY pQ rfl (bL (n := 6) (vs := [_, _, _, _, _, _]) (.head _) rfl) rfl) (de 3 rfl (bP en_60 rfl rfl rfl rfl (aZ0 (p := s.g) F.g) fun gl _ => (aU (.cons _ (.cons _ (.refl _))) (dv 4 rfl (.cons _ (.cons _ (.refl _))) (bU rfl (v := .agg #[.int .i64 s.g.posts, .int .i64 s.g.silence, .int .i64 s.g.clear, .int .i64 s.g.interval, .int .i64 s.g.missing, .int .i64 s.g.cars, .int .i64 s.cars, .int .i64 s.places, .slice a.L s.least.length a.cl, .slice a.S s.srcs.length a.cs, .slice a.p.I s.plan.items.length a.p.ci, .int .i64 s.plan.classes, .int .i64 s.plan.late, .int .i64 s.plan.early, .int .i64 s.plan.maxLate, .int .i64 s.plan.legLate, .slice a.p.J s.plan.jumps.length a.p.cj, .bool s.plan.b5, .int .i64 s.plan.missed, .int .i64 s.plan.notional, .int .i64 s.plan.percent, .int .i64 s.plan.power, .slice a.p.X s.plan.points.length a.p.cx, .slice a.p.Y s.plan.extra.length a.p.cy, .int .i64 s.code.cars, .slice a.A s.code.arts.length a.ca, .int .i64 s.code.window, .int .i64 s.code.second, .int .i64 s.code.fee, .int .i64 s.code.price, .pointer (some ⟨gl.g, 0, none⟩), .slice none 0 0, .slice none 0 0, .slice none 0 0, .slice none 0 0]) (fun w => by kernel_rfl)) (de 5 rfl (cH rfl rfl fun b12 => (aU (.cons _ (.cons _ (.cons _ (.refl _)))) ?_)))))))
 refine dv 6 rfl (.cons _ (.cons _ (.cons _ (.refl _)))) (aD rfl) (bQ (by kernel_rfl) (Tr.keep (env' := [(1, _), (3, _)]) ⟨rfl, rfl, trivial⟩ (aB (aE (aE ?_)))))
 refine aA (tv (aD rfl) (aF (Tr.keep (env' := [(1, _), (3, _), (4, _)]) ⟨rfl, rfl, rfl, trivial⟩ (aB (aX ?_)))))
 refine dW (fun z : Nat × Value × List Ent × List CardX => [(1, .pointer (some ⟨b1, 0, none⟩)), (3, .pointer (some ⟨b12, 0, none⟩)), (4, .int .i64 (z.1 : Int))]) (fun z : Nat × Value × List Ent × List CardX => z.2.2.1 ++ (hG z.2.2.2 ++ (cel b12 60 [.int .i64 s.g.posts, .int .i64 s.g.silence, .int .i64 s.g.clear, .int .i64 s.g.interval, .int .i64 s.g.missing, .int .i64 s.g.cars, .int .i64 s.cars, .int .i64 s.places, .slice a.L s.least.length a.cl, .slice a.S s.srcs.length a.cs, .slice a.p.I s.plan.items.length a.p.ci, .int .i64 s.plan.classes, .int .i64 s.plan.late, .int .i64 s.plan.early, .int .i64 s.plan.maxLate, .int .i64 s.plan.legLate, .slice a.p.J s.plan.jumps.length a.p.cj, .bool s.plan.b5, .int .i64 s.plan.missed, .int .i64 s.plan.notional, .int .i64 s.plan.percent, .int .i64 s.plan.power, .slice a.p.X s.plan.points.length a.p.cx, .slice a.p.Y s.plan.extra.length a.p.cy, .int .i64 s.code.cars, .slice a.A s.code.arts.length a.ca, .int .i64 s.code.window, .int .i64 s.code.second, .int .i64 s.code.fee, .int .i64 s.code.price, .pointer (some ⟨gl.g, 0, none⟩), .slice none 0 0, .slice none 0 0, z.2.1, .slice none 0 0] :: rgE s.g gl (.slice none 0 0) s.g.cars.toNat :: rgC gl (List.replicate s.g.cars.toNat .new) :: cel b1 38 (s.cells a) :: M))) (fun z : Nat × Value × List Ent × List CardX => z.1 ≤ nc ∧ Own 111 3 z.2.1 (z.2.2.2.reverse.map CardX.cells) z.2.2.1 ∧ z.2.2.2.length = z.1 ∧ ∀ c ∈ z.2.2.2, ∃ x y, c = iN nl s.plan.items.length x y) (fun z : Nat × Value × List Ent × List CardX => nc - z.1) (0, .slice none 0 0, [], []) ⟨Nat.zero_le _, Own.nil _ _, rfl, by simp⟩ ⟨rfl, rfl, rfl, trivial⟩ (.refl _) ?_
 intro K ⟨k, v, E, rl⟩ ⟨hk, hO, hrl, hall⟩ IH
 dsimp only at hk hO hrl hall IH ⊢
 refine aE (aE (aA (tv (aC rfl) (tv (aI eG rfl) (tv (aI gM rfl) ?_)))))
 refine tv (aG bB rfl (aK (List.mem_append_right _ (List.mem_append_right _ (.tail _ (.tail _ (.tail _ (.head _)))))) rfl)) (tv (dI rfl rfl) (aF (Tr.keep (env' := [(1, _), (3, _), (4, _), (17, _)]) ⟨rfl, rfl, rfl, rfl, trivial⟩ (aB ?_))))
 refine bD rfl (fun hc1 => ?_) (fun hc1 => ?_)
 ·have hlt : k < nc := by have := of_decide_eq_true hc1; omega
  refine aO (aB (aE (aX (aE (Tr.keep (env' := [(1, _), (3, _), (4, _)]) ⟨rfl, rfl, rfl, trivial⟩ ?_)))))
  refine aP7 (α := Nat × Nat × Nat) (fun x => [(1, .pointer (some ⟨b1, 0, none⟩)), (3, .pointer (some ⟨b12, 0, none⟩)), (4, .int .i64 (k : Int)), (5, .pointer (some ⟨x.1, 0, none⟩))]) (fun x => [cel x.1 111 [.int .i64 0, .slice (some ⟨x.2.1, 0, none⟩) nl nl, .slice (some ⟨x.2.2, 0, none⟩) s.plan.items.length s.plan.items.length], cel x.2.1 3 (bT (List.replicate nl [.int .i64 0])), cel x.2.2 114 (bT (List.replicate s.plan.items.length [.int .i64 0, .int .i64 0, .bool false, .int .i64 0]))]) (fun _ => True) ?_ ?_
  ·intro K hK
   refine cI cK rfl (dv 0 rfl (.refl _) (aI eA rfl) (dv 1 rfl (.refl _) (aY uL rfl (bL (n := 14) (vs := [_, _, _, _, _, _, _, _, _, _, _, _, _, _]) (List.mem_append_right _ (List.mem_append_right _ (.tail _ (.tail _ (.tail _ (.head _)))))) rfl) rfl) (dv 4 rfl (.refl _) (aI eA rfl) (dv 5 rfl (.refl _) (aI cQ rfl) (dv 6 rfl (.refl _) (aG eJ rfl (aK (List.mem_append_right _ (List.mem_append_right _ (.tail _ (.tail _ (.tail _ (.head _)))))) rfl)) ?_)))))
   refine dv 7 rfl (.refl _) (aP Tryz.underlying28 rfl) ?_
   refine xS 2 8 10 rfl rfl rfl  rfl rfl rfl  (by kernel_rfl) ?_ ?_ ?_
   ·refine (aJ aM0 rfl rfl rfl rfl (nC (p := s.plan) (h.plan.sub (List.Sublist.trans (List.Sublist.trans (.cons _ (.cons _ (.cons _ (.cons _ (.refl _))))) (List.sublist_append_right _ _)) (List.sublist_append_right _ _))) F.pos hnl (by omega)) (aU (.refl _) ?_))
    refine xS 3 8 10 rfl rfl rfl  rfl rfl rfl  (by kernel_rfl) ?_ ?_ ?_
    ·refine (cU (zs := [.int .i64 0]) Tryz.underlying24 eQ rfl (by decide) (m := nl) rfl (by omega) (by omega) rfl fun b23 => (aU (.cons _ (.refl _)) ?_))
     refine gP 8 10 rfl rfl  rfl rfl  (by kernel_rfl) ?_ ?_
     ·refine (cU (zs := [.int .i64 0, .int .i64 0, .bool false, .int .i64 0]) Tryz.underlying109 eU rfl (by decide) (m := s.plan.items.length) rfl (by omega) (by omega) rfl fun b28 => (aU (.cons _ (.cons _ (.refl _))) (dv 9 rfl (.cons _ (.cons _ (.refl _))) (bU rfl (v := .agg #[.int .i64 0, .slice (some ⟨b23, 0, none⟩) nl nl, .slice (some ⟨b28, 0, none⟩) s.plan.items.length s.plan.items.length]) (fun w => by kernel_rfl)) (de 10 rfl (bO eB (l := [.int .i64 0, .slice none 0 0, .slice none 0 0]) rfl rfl fun b5 => (aU (.cons _ (.cons _ (.cons _ (.refl _)))) (de 11 rfl (bJ dA rfl rfl (vs := [_, _, _]) rfl rfl (by simp [Value.oneCell']) (.cons .zero (.cons (.succ .zero) (.cons (.succ (.succ .zero)) .nil))) .here ?_))))))))
      refine aU (.cons _ (.cons _ (.cons _ (.refl _)))) (bQ (by kernel_rfl) ?_)
      exact dO (hK ⟨b5, b23, b28⟩ trivial) ⟨rfl, rfl, rfl, rfl, trivial⟩ (pk .here (pk (.there .here) (pk .here (.refl _)))) (.refl _)
     ·refine (bO eB (l := [.int .i64 0, .slice none 0 0, .slice none 0 0]) rfl rfl fun b5 => (aU (.cons _ (.cons _ (.refl _))) (de 8 rfl (cU (zs := [.int .i64 0, .int .i64 0, .bool false, .int .i64 0]) Tryz.underlying109 eU rfl (by decide) (m := s.plan.items.length) rfl (by omega) (by omega) rfl fun b28 => (aU (.cons _ (.cons _ (.cons _ (.refl _)))) (dv 9 rfl (.cons _ (.cons _ (.cons _ (.refl _)))) (bU rfl (v := .agg #[.int .i64 0, .slice (some ⟨b23, 0, none⟩) nl nl, .slice (some ⟨b28, 0, none⟩) s.plan.items.length s.plan.items.length]) (fun w => by kernel_rfl)) (de 11 rfl (bJ dA rfl rfl (vs := [_, _, _]) rfl rfl (by simp [Value.oneCell']) (.cons .zero (.cons (.succ .zero) (.cons (.succ (.succ .zero)) .nil))) (.there .here) ?_))))))))
      refine aU (.cons _ (.cons _ (.cons _ (.refl _)))) (bQ (by kernel_rfl) ?_)
      exact dO (hK ⟨b5, b23, b28⟩ trivial) ⟨rfl, rfl, rfl, rfl, trivial⟩ (pk (.there .here) (pk (.there .here) (pk .here (.refl _)))) (.refl _)
    ·refine (cU (zs := [.int .i64 0, .int .i64 0, .bool false, .int .i64 0]) Tryz.underlying109 eU rfl (by decide) (m := s.plan.items.length) rfl (by omega) (by omega) rfl fun b28 => (aU (.cons _ (.refl _)) ?_))
     refine gP 3 10 rfl rfl  rfl rfl  (by kernel_rfl) ?_ ?_
     ·refine (cU (zs := [.int .i64 0]) Tryz.underlying24 eQ rfl (by decide) (m := nl) rfl (by omega) (by omega) rfl fun b23 => (aU (.cons _ (.cons _ (.refl _))) (dv 9 rfl (.cons _ (.cons _ (.refl _))) (bU rfl (v := .agg #[.int .i64 0, .slice (some ⟨b23, 0, none⟩) nl nl, .slice (some ⟨b28, 0, none⟩) s.plan.items.length s.plan.items.length]) (fun w => by kernel_rfl)) (de 10 rfl (bO eB (l := [.int .i64 0, .slice none 0 0, .slice none 0 0]) rfl rfl fun b5 => (aU (.cons _ (.cons _ (.cons _ (.refl _)))) (de 11 rfl (bJ dA rfl rfl (vs := [_, _, _]) rfl rfl (by simp [Value.oneCell']) (.cons .zero (.cons (.succ .zero) (.cons (.succ (.succ .zero)) .nil))) .here ?_))))))))
      refine aU (.cons _ (.cons _ (.cons _ (.refl _)))) (bQ (by kernel_rfl) ?_)
      exact dO (hK ⟨b5, b23, b28⟩ trivial) ⟨rfl, rfl, rfl, rfl, trivial⟩ (pk .here (pk .here (pk .here (.refl _)))) (.refl _)
     ·refine (bO eB (l := [.int .i64 0, .slice none 0 0, .slice none 0 0]) rfl rfl fun b5 => (aU (.cons _ (.cons _ (.refl _))) (de 3 rfl (cU (zs := [.int .i64 0]) Tryz.underlying24 eQ rfl (by decide) (m := nl) rfl (by omega) (by omega) rfl fun b23 => (aU (.cons _ (.cons _ (.cons _ (.refl _)))) (dv 9 rfl (.cons _ (.cons _ (.cons _ (.refl _)))) (bU rfl (v := .agg #[.int .i64 0, .slice (some ⟨b23, 0, none⟩) nl nl, .slice (some ⟨b28, 0, none⟩) s.plan.items.length s.plan.items.length]) (fun w => by kernel_rfl)) (de 11 rfl (bJ dA rfl rfl (vs := [_, _, _]) rfl rfl (by simp [Value.oneCell']) (.cons .zero (.cons (.succ .zero) (.cons (.succ (.succ .zero)) .nil))) (.there .here) ?_))))))))
      refine aU (.cons _ (.cons _ (.cons _ (.refl _)))) (bQ (by kernel_rfl) ?_)
      exact dO (hK ⟨b5, b23, b28⟩ trivial) ⟨rfl, rfl, rfl, rfl, trivial⟩ (pk (.there .here) (pk .here (pk .here (.refl _)))) (.refl _)
    ·refine (bO eB (l := [.int .i64 0, .slice none 0 0, .slice none 0 0]) rfl rfl fun b5 => (aU (.cons _ (.refl _)) ?_))
     refine gP 3 8 rfl rfl  rfl rfl  (by kernel_rfl) ?_ ?_
     ·refine (cU (zs := [.int .i64 0]) Tryz.underlying24 eQ rfl (by decide) (m := nl) rfl (by omega) (by omega) rfl fun b23 => (aU (.cons _ (.cons _ (.refl _))) (de 8 rfl (cU (zs := [.int .i64 0, .int .i64 0, .bool false, .int .i64 0]) Tryz.underlying109 eU rfl (by decide) (m := s.plan.items.length) rfl (by omega) (by omega) rfl fun b28 => (aU (.cons _ (.cons _ (.cons _ (.refl _)))) (dv 9 rfl (.cons _ (.cons _ (.cons _ (.refl _)))) (bU rfl (v := .agg #[.int .i64 0, .slice (some ⟨b23, 0, none⟩) nl nl, .slice (some ⟨b28, 0, none⟩) s.plan.items.length s.plan.items.length]) (fun w => by kernel_rfl)) (de 11 rfl (bJ dA rfl rfl (vs := [_, _, _]) rfl rfl (by simp [Value.oneCell']) (.cons .zero (.cons (.succ .zero) (.cons (.succ (.succ .zero)) .nil))) (.there (.there .here)) ?_))))))))
      refine aU (.cons _ (.cons _ (.cons _ (.refl _)))) (bQ (by kernel_rfl) ?_)
      exact dO (hK ⟨b5, b23, b28⟩ trivial) ⟨rfl, rfl, rfl, rfl, trivial⟩ (pk (.there (.there .here)) (pk (.there .here) (pk .here (.refl _)))) (.refl _)
     ·refine (cU (zs := [.int .i64 0, .int .i64 0, .bool false, .int .i64 0]) Tryz.underlying109 eU rfl (by decide) (m := s.plan.items.length) rfl (by omega) (by omega) rfl fun b28 => (aU (.cons _ (.cons _ (.refl _))) (de 3 rfl (cU (zs := [.int .i64 0]) Tryz.underlying24 eQ rfl (by decide) (m := nl) rfl (by omega) (by omega) rfl fun b23 => (aU (.cons _ (.cons _ (.cons _ (.refl _)))) (dv 9 rfl (.cons _ (.cons _ (.cons _ (.refl _)))) (bU rfl (v := .agg #[.int .i64 0, .slice (some ⟨b23, 0, none⟩) nl nl, .slice (some ⟨b28, 0, none⟩) s.plan.items.length s.plan.items.length]) (fun w => by kernel_rfl)) (de 11 rfl (bJ dA rfl rfl (vs := [_, _, _]) rfl rfl (by simp [Value.oneCell']) (.cons .zero (.cons (.succ .zero) (.cons (.succ (.succ .zero)) .nil))) (.there (.there .here)) ?_))))))))
      refine aU (.cons _ (.cons _ (.cons _ (.refl _)))) (bQ (by kernel_rfl) ?_)
      exact dO (hK ⟨b5, b23, b28⟩ trivial) ⟨rfl, rfl, rfl, rfl, trivial⟩ (pk (.there (.there .here)) (pk .here (pk .here (.refl _)))) (.refl _)
   ·refine (cU (zs := [.int .i64 0, .int .i64 0, .bool false, .int .i64 0]) Tryz.underlying109 eU rfl (by decide) (m := s.plan.items.length) rfl (by omega) (by omega) rfl fun b28 => (aU (.cons _ (.refl _)) ?_))
    refine gP 2 10 rfl rfl  rfl rfl  (by kernel_rfl) ?_ ?_
    ·refine (aJ aM0 rfl rfl rfl rfl (nC (p := s.plan) (h.plan.sub (.cons _ (List.Sublist.trans (List.Sublist.trans (.cons _ (.cons _ (.cons _ (.cons _ (.refl _))))) (List.sublist_append_right _ _)) (List.sublist_append_right _ _)))) F.pos hnl (by omega)) (aU (.cons _ (.refl _)) ?_))
     refine gP 3 10 rfl rfl  rfl rfl  (by kernel_rfl) ?_ ?_
     ·refine (cU (zs := [.int .i64 0]) Tryz.underlying24 eQ rfl (by decide) (m := nl) rfl (by omega) (by omega) rfl fun b23 => (aU (.cons _ (.cons _ (.refl _))) (dv 9 rfl (.cons _ (.cons _ (.refl _))) (bU rfl (v := .agg #[.int .i64 0, .slice (some ⟨b23, 0, none⟩) nl nl, .slice (some ⟨b28, 0, none⟩) s.plan.items.length s.plan.items.length]) (fun w => by kernel_rfl)) (de 10 rfl (bO eB (l := [.int .i64 0, .slice none 0 0, .slice none 0 0]) rfl rfl fun b5 => (aU (.cons _ (.cons _ (.cons _ (.refl _)))) (de 11 rfl (bJ dA rfl rfl (vs := [_, _, _]) rfl rfl (by simp [Value.oneCell']) (.cons .zero (.cons (.succ .zero) (.cons (.succ (.succ .zero)) .nil))) .here ?_))))))))
      refine aU (.cons _ (.cons _ (.cons _ (.refl _)))) (bQ (by kernel_rfl) ?_)
      exact dO (hK ⟨b5, b23, b28⟩ trivial) ⟨rfl, rfl, rfl, rfl, trivial⟩ (pk .here (pk .here (pk .here (.refl _)))) (.refl _)
     ·refine (bO eB (l := [.int .i64 0, .slice none 0 0, .slice none 0 0]) rfl rfl fun b5 => (aU (.cons _ (.cons _ (.refl _))) (de 3 rfl (cU (zs := [.int .i64 0]) Tryz.underlying24 eQ rfl (by decide) (m := nl) rfl (by omega) (by omega) rfl fun b23 => (aU (.cons _ (.cons _ (.cons _ (.refl _)))) (dv 9 rfl (.cons _ (.cons _ (.cons _ (.refl _)))) (bU rfl (v := .agg #[.int .i64 0, .slice (some ⟨b23, 0, none⟩) nl nl, .slice (some ⟨b28, 0, none⟩) s.plan.items.length s.plan.items.length]) (fun w => by kernel_rfl)) (de 11 rfl (bJ dA rfl rfl (vs := [_, _, _]) rfl rfl (by simp [Value.oneCell']) (.cons .zero (.cons (.succ .zero) (.cons (.succ (.succ .zero)) .nil))) (.there .here) ?_))))))))
      refine aU (.cons _ (.cons _ (.cons _ (.refl _)))) (bQ (by kernel_rfl) ?_)
      exact dO (hK ⟨b5, b23, b28⟩ trivial) ⟨rfl, rfl, rfl, rfl, trivial⟩ (pk (.there .here) (pk .here (pk .here (.refl _)))) (.refl _)
    ·refine (bO eB (l := [.int .i64 0, .slice none 0 0, .slice none 0 0]) rfl rfl fun b5 => (aU (.cons _ (.cons _ (.refl _))) (de 2 rfl (aJ aM0 rfl rfl rfl rfl (nC (p := s.plan) (h.plan.sub (.cons _ (.cons _ (List.Sublist.trans (List.Sublist.trans (.cons _ (.cons _ (.cons _ (.cons _ (.refl _))))) (List.sublist_append_right _ _)) (List.sublist_append_right _ _))))) F.pos hnl (by omega)) (aU (.cons _ (.cons _ (.refl _))) (de 3 rfl (cU (zs := [.int .i64 0]) Tryz.underlying24 eQ rfl (by decide) (m := nl) rfl (by omega) (by omega) rfl fun b23 => (aU (.cons _ (.cons _ (.cons _ (.refl _)))) ?_))))))))
     refine dv 9 rfl (.cons _ (.cons _ (.cons _ (.refl _)))) (bU rfl (v := .agg #[.int .i64 0, .slice (some ⟨b23, 0, none⟩) nl nl, .slice (some ⟨b28, 0, none⟩) s.plan.items.length s.plan.items.length]) (fun w => by kernel_rfl)) (de 11 rfl (bJ dA rfl rfl (vs := [_, _, _]) rfl rfl (by simp [Value.oneCell']) (.cons .zero (.cons (.succ .zero) (.cons (.succ (.succ .zero)) .nil))) (.there .here) (aU (.cons _ (.cons _ (.cons _ (.refl _)))) (bQ (by kernel_rfl) ?_))))
     exact dO (hK ⟨b5, b23, b28⟩ trivial) ⟨rfl, rfl, rfl, rfl, trivial⟩ (pk (.there .here) (pk .here (pk .here (.refl _)))) (.refl _)
   ·refine (bO eB (l := [.int .i64 0, .slice none 0 0, .slice none 0 0]) rfl rfl fun b5 => (aU (.cons _ (.refl _)) ?_))
    refine gP 2 8 rfl rfl  rfl rfl  (by kernel_rfl) ?_ ?_
    ·refine (aJ aM0 rfl rfl rfl rfl (nC (p := s.plan) (h.plan.sub (.cons _ (List.Sublist.trans (List.Sublist.trans (.cons _ (.cons _ (.cons _ (.cons _ (.refl _))))) (List.sublist_append_right _ _)) (List.sublist_append_right _ _)))) F.pos hnl (by omega)) (aU (.cons _ (.refl _)) ?_))
     refine gP 3 8 rfl rfl  rfl rfl  (by kernel_rfl) ?_ ?_
     ·refine (cU (zs := [.int .i64 0]) Tryz.underlying24 eQ rfl (by decide) (m := nl) rfl (by omega) (by omega) rfl fun b23 => (aU (.cons _ (.cons _ (.refl _))) (de 8 rfl (cU (zs := [.int .i64 0, .int .i64 0, .bool false, .int .i64 0]) Tryz.underlying109 eU rfl (by decide) (m := s.plan.items.length) rfl (by omega) (by omega) rfl fun b28 => (aU (.cons _ (.cons _ (.cons _ (.refl _)))) (dv 9 rfl (.cons _ (.cons _ (.cons _ (.refl _)))) (bU rfl (v := .agg #[.int .i64 0, .slice (some ⟨b23, 0, none⟩) nl nl, .slice (some ⟨b28, 0, none⟩) s.plan.items.length s.plan.items.length]) (fun w => by kernel_rfl)) (de 11 rfl (bJ dA rfl rfl (vs := [_, _, _]) rfl rfl (by simp [Value.oneCell']) (.cons .zero (.cons (.succ .zero) (.cons (.succ (.succ .zero)) .nil))) (.there (.there .here)) ?_))))))))
      refine aU (.cons _ (.cons _ (.cons _ (.refl _)))) (bQ (by kernel_rfl) ?_)
      exact dO (hK ⟨b5, b23, b28⟩ trivial) ⟨rfl, rfl, rfl, rfl, trivial⟩ (pk (.there (.there .here)) (pk (.there .here) (pk .here (.refl _)))) (.refl _)
     ·refine (cU (zs := [.int .i64 0, .int .i64 0, .bool false, .int .i64 0]) Tryz.underlying109 eU rfl (by decide) (m := s.plan.items.length) rfl (by omega) (by omega) rfl fun b28 => (aU (.cons _ (.cons _ (.refl _))) (de 3 rfl (cU (zs := [.int .i64 0]) Tryz.underlying24 eQ rfl (by decide) (m := nl) rfl (by omega) (by omega) rfl fun b23 => (aU (.cons _ (.cons _ (.cons _ (.refl _)))) (dv 9 rfl (.cons _ (.cons _ (.cons _ (.refl _)))) (bU rfl (v := .agg #[.int .i64 0, .slice (some ⟨b23, 0, none⟩) nl nl, .slice (some ⟨b28, 0, none⟩) s.plan.items.length s.plan.items.length]) (fun w => by kernel_rfl)) (de 11 rfl (bJ dA rfl rfl (vs := [_, _, _]) rfl rfl (by simp [Value.oneCell']) (.cons .zero (.cons (.succ .zero) (.cons (.succ (.succ .zero)) .nil))) (.there (.there .here)) ?_))))))))
      refine aU (.cons _ (.cons _ (.cons _ (.refl _)))) (bQ (by kernel_rfl) ?_)
      exact dO (hK ⟨b5, b23, b28⟩ trivial) ⟨rfl, rfl, rfl, rfl, trivial⟩ (pk (.there (.there .here)) (pk .here (pk .here (.refl _)))) (.refl _)
    ·refine (cU (zs := [.int .i64 0, .int .i64 0, .bool false, .int .i64 0]) Tryz.underlying109 eU rfl (by decide) (m := s.plan.items.length) rfl (by omega) (by omega) rfl fun b28 => (aU (.cons _ (.cons _ (.refl _))) (de 2 rfl (aJ aM0 rfl rfl rfl rfl (nC (p := s.plan) (h.plan.sub (.cons _ (.cons _ (List.Sublist.trans (List.Sublist.trans (.cons _ (.cons _ (.cons _ (.cons _ (.refl _))))) (List.sublist_append_right _ _)) (List.sublist_append_right _ _))))) F.pos hnl (by omega)) (aU (.cons _ (.cons _ (.refl _))) (de 3 rfl (cU (zs := [.int .i64 0]) Tryz.underlying24 eQ rfl (by decide) (m := nl) rfl (by omega) (by omega) rfl fun b23 => (aU (.cons _ (.cons _ (.cons _ (.refl _)))) ?_))))))))
     refine dv 9 rfl (.cons _ (.cons _ (.cons _ (.refl _)))) (bU rfl (v := .agg #[.int .i64 0, .slice (some ⟨b23, 0, none⟩) nl nl, .slice (some ⟨b28, 0, none⟩) s.plan.items.length s.plan.items.length]) (fun w => by kernel_rfl)) (de 11 rfl (bJ dA rfl rfl (vs := [_, _, _]) rfl rfl (by simp [Value.oneCell']) (.cons .zero (.cons (.succ .zero) (.cons (.succ (.succ .zero)) .nil))) (.there (.there .here)) (aU (.cons _ (.cons _ (.cons _ (.refl _)))) (bQ (by kernel_rfl) ?_))))
     exact dO (hK ⟨b5, b23, b28⟩ trivial) ⟨rfl, rfl, rfl, rfl, trivial⟩ (pk (.there (.there .here)) (pk .here (pk .here (.refl _)))) (.refl _)
  intro x _
  simp only [List.cons_append, List.nil_append]
  refine Tr.keep (env' := [(1, _), (3, _), (4, _), (5, _)]) ⟨rfl, rfl, rfl, rfl, trivial⟩ (aB (aE (aE (aA (tv (aD rfl) ?_)))))
  refine aF (Tr.keep (env' := [(1, _), (3, _), (4, _), (5, _), (6, _)]) ⟨rfl, rfl, rfl, rfl, rfl, trivial⟩ (aB (aX (dW (fun j : Nat => [(1, .pointer (some ⟨b1, 0, none⟩)), (3, .pointer (some ⟨b12, 0, none⟩)), (4, .int .i64 (k : Int)), (5, .pointer (some ⟨x.1, 0, none⟩)), (6, .int .i64 (j : Int))]) (fun j : Nat => cel x.1 111 [.int .i64 0, .slice (some ⟨x.2.1, 0, none⟩) nl nl, .slice (some ⟨x.2.2, 0, none⟩) s.plan.items.length s.plan.items.length] :: cel x.2.1 3 (bT (List.replicate nl [.int .i64 0])) :: cel x.2.2 114 (bT ((List.replicate j eZ ++ List.replicate (s.plan.items.length - j) sY).map CLine.cells)) :: (E ++ (hG rl ++ (cel b12 60 [.int .i64 s.g.posts, .int .i64 s.g.silence, .int .i64 s.g.clear, .int .i64 s.g.interval, .int .i64 s.g.missing, .int .i64 s.g.cars, .int .i64 s.cars, .int .i64 s.places, .slice a.L s.least.length a.cl, .slice a.S s.srcs.length a.cs, .slice a.p.I s.plan.items.length a.p.ci, .int .i64 s.plan.classes, .int .i64 s.plan.late, .int .i64 s.plan.early, .int .i64 s.plan.maxLate, .int .i64 s.plan.legLate, .slice a.p.J s.plan.jumps.length a.p.cj, .bool s.plan.b5, .int .i64 s.plan.missed, .int .i64 s.plan.notional, .int .i64 s.plan.percent, .int .i64 s.plan.power, .slice a.p.X s.plan.points.length a.p.cx, .slice a.p.Y s.plan.extra.length a.p.cy, .int .i64 s.code.cars, .slice a.A s.code.arts.length a.ca, .int .i64 s.code.window, .int .i64 s.code.second, .int .i64 s.code.fee, .int .i64 s.code.price, .pointer (some ⟨gl.g, 0, none⟩), .slice none 0 0, .slice none 0 0, v, .slice none 0 0] :: rgE s.g gl (.slice none 0 0) s.g.cars.toNat :: rgC gl (List.replicate s.g.cars.toNat .new) :: cel b1 38 (s.cells a) :: M)))) (fun j : Nat => j ≤ s.plan.items.length) (fun j : Nat => s.plan.items.length - j) 0 (Nat.zero_le _) ⟨rfl, rfl, rfl, rfl, rfl, trivial⟩ (by rw [l_new]; exact .refl _) ?_))))
  intro K2 j hj IH2
  refine aE (aE (aA (tv (aC rfl) (tv (aI eH rfl) (tv (aG gF rfl (aK (.head _) rfl)) ?_)))))
  refine tv (aP Tryz.underlying109 rfl) (tv (dI rfl rfl) (aF (Tr.keep (env' := [(1, _), (3, _), (4, _), (5, _), (6, _), (34, _)]) ⟨rfl, rfl, rfl, rfl, rfl, rfl, trivial⟩ (aB ?_))))
  refine bD rfl (fun hc2 => ?_) (fun hc2 => ?_)
  ·have hlt2 : j < s.plan.items.length := by have := of_decide_eq_true hc2; omega
   rw [l_at _ j hlt2]
   refine aO (aB (aE (aX (aA (tv (aI eH rfl) ?_)))))
   refine tv (aG gF rfl (aK (.head _) rfl)) (tv (aC rfl) (tv (nT j (bT ((List.replicate j eZ).map CLine.cells)).length Tryz.underlying109 jF rfl rfl rfl rfl (by omega) (by rw [l_len]; simp)) (tv (aI iW rfl) (te (bR wI rfl rfl rfl (.app (.succ (.succ (.succ .zero)))) (.there (.there .here)) (aF ?_))))))
   refine Tr.keep (env' := [(1, _), (3, _), (4, _), (5, _), (6, _)]) ⟨rfl, rfl, rfl, rfl, rfl, trivial⟩ (cX (aB (aA (tv (aC rfl) (tv (cC rfl rfl (by omega)) ?_)))))
   refine tv (aD rfl) (aF (Tr.keep (env' := [(1, _), (3, _), (4, _), (5, _), (6, _)]) ⟨rfl, rfl, rfl, rfl, rfl, trivial⟩ (aB ?_)))
   refine nD (IH2 (j + 1) (by omega) (by omega)) ⟨rfl, rfl, rfl, rfl, rfl, trivial⟩ (by rw [l_to _ j hlt2]; exact .refl _)
  ·have h92 : ¬ j < s.plan.items.length := by have := of_decide_eq_false hc2; omega
   rw [l_end (show j = s.plan.items.length by omega)]
   refine cY (aS (aS (bX (aB (wU (S1 := [cel x.1 111 [.int .i64 0, .slice (some ⟨x.2.1, 0, none⟩) nl nl, .slice (some ⟨x.2.2, 0, none⟩) s.plan.items.length s.plan.items.length], cel b12 60 [.int .i64 s.g.posts, .int .i64 s.g.silence, .int .i64 s.g.clear, .int .i64 s.g.interval, .int .i64 s.g.missing, .int .i64 s.g.cars, .int .i64 s.cars, .int .i64 s.places, .slice a.L s.least.length a.cl, .slice a.S s.srcs.length a.cs, .slice a.p.I s.plan.items.length a.p.ci, .int .i64 s.plan.classes, .int .i64 s.plan.late, .int .i64 s.plan.early, .int .i64 s.plan.maxLate, .int .i64 s.plan.legLate, .slice a.p.J s.plan.jumps.length a.p.cj, .bool s.plan.b5, .int .i64 s.plan.missed, .int .i64 s.plan.notional, .int .i64 s.plan.percent, .int .i64 s.plan.power, .slice a.p.X s.plan.points.length a.p.cx, .slice a.p.Y s.plan.extra.length a.p.cy, .int .i64 s.code.cars, .slice a.A s.code.arts.length a.ca, .int .i64 s.code.window, .int .i64 s.code.second, .int .i64 s.code.fee, .int .i64 s.code.price, .pointer (some ⟨gl.g, 0, none⟩), .slice none 0 0, .slice none 0 0, v, .slice none 0 0]]) (S2 := [cel x.1 111 [.int .i64 0, .slice (some ⟨x.2.1, 0, none⟩) nl nl, .slice (some ⟨x.2.2, 0, none⟩) s.plan.items.length s.plan.items.length]]) 10 cK rfl ?_)))))
   refine fX 0 rfl (.cons_cons _ (List.nil_sublist _)) (.cons_cons _ (.cons _ (.cons _ (List.Sublist.trans (List.Sublist.trans (.cons_cons _ (List.nil_sublist _)) (List.sublist_append_right _ _)) (List.sublist_append_right _ _))))) (aC rfl) (fX 1 rfl (.cons_cons _ (List.nil_sublist _)) (.cons_cons _ (.cons _ (.cons _ (List.Sublist.trans (List.Sublist.trans (.cons_cons _ (List.nil_sublist _)) (List.sublist_append_right _ _)) (List.sublist_append_right _ _))))) (aC rfl) (fX 2 rfl (.cons_cons _ (List.nil_sublist _)) (.cons_cons _ (.cons _ (.cons _ (List.Sublist.trans (List.Sublist.trans (.cons_cons _ (List.nil_sublist _)) (List.sublist_append_right _ _)) (List.sublist_append_right _ _))))) (aM rfl) (fX 3 rfl (.cons_cons _ (List.nil_sublist _)) (.cons_cons _ (.cons _ (.cons _ (List.Sublist.trans (List.Sublist.trans (.cons_cons _ (List.nil_sublist _)) (List.sublist_append_right _ _)) (List.sublist_append_right _ _))))) (aI aF6 rfl) (kv 4 rfl (.cons_cons _ (.cons _ (.cons _ (List.Sublist.trans (List.Sublist.trans (.cons_cons _ (List.nil_sublist _)) (List.sublist_append_right _ _)) (List.sublist_append_right _ _))))) (aG pO rfl (aK (.tail _ (.head _)) rfl)) (fX 5 rfl (.cons_cons _ (List.nil_sublist _)) (.cons_cons _ (.cons _ (.cons _ (List.Sublist.trans (List.Sublist.trans (.cons_cons _ (List.nil_sublist _)) (List.sublist_append_right _ _)) (List.sublist_append_right _ _))))) (aY jP rfl (bL (n := 3) (vs := [_, _, _]) (.head _) rfl) rfl) ?_)))))
   refine eM 6 rfl rfl (by kernel_rfl) (bN (E := 111) (l := [.int .i64 0, .slice (some ⟨x.2.1, 0, none⟩) nl nl, .slice (some ⟨x.2.2, 0, none⟩) s.plan.items.length s.plan.items.length]) rfl (fun w => by kernel_rfl) rfl fun b48 => (fQ (by kernel_rfl) (.cons _ (.cons_cons _ (.cons _ (.cons _ (List.Sublist.trans (List.Sublist.trans (.cons_cons _ (List.nil_sublist _)) (List.sublist_append_right _ _)) (List.sublist_append_right _ _)))))) (eM 7 rfl rfl (by kernel_rfl) (fN Tryz.underlying53 eB rfl (by decide) rfl rfl hO (pk .here (mH (.there (.there (.there .here))) (.refl _))) rfl (by simp [Value.oneCell']) (by simp; omega) (by simp [maxLen]; omega) rfl fun v1 E1 hO1 => (fQ (by kernel_rfl) (List.Sublist.trans (.cons_cons _ (.cons _ (.cons _ (List.Sublist.trans (.cons_cons _ (List.nil_sublist _)) (List.sublist_append_right _ _))))) (List.sublist_append_right _ _)) (fX 8 rfl (.cons_cons _ (List.nil_sublist _)) (List.Sublist.trans (.cons_cons _ (.cons _ (.cons _ (List.Sublist.trans (.cons_cons _ (List.nil_sublist _)) (List.sublist_append_right _ _))))) (List.sublist_append_right _ _)) (aM rfl) (fX 9 rfl (.cons_cons _ (List.nil_sublist _)) (List.Sublist.trans (.cons_cons _ (.cons _ (.cons _ (List.Sublist.trans (.cons_cons _ (List.nil_sublist _)) (List.sublist_append_right _ _))))) (List.sublist_append_right _ _)) (aI aF6 rfl) ?_)))))))
   refine eM 10 rfl rfl (by kernel_rfl) (bR bE4 rfl rfl (Own.one hO1) (.succ (.succ (.succ (.succ (.succ (.succ (.succ (.succ (.succ (.succ (.succ (.succ (.succ (.succ (.succ (.succ (.succ (.succ (.succ (.succ (.succ (.succ (.succ (.succ (.succ (.succ (.succ (.succ (.succ (.succ (.succ (.succ (.succ .zero))))))))))))))))))))))))))))))))) (.right (.there (.there (.there (.right .here))))) (eS (by kernel_rfl) (List.Sublist.trans (.cons_cons _ (List.nil_sublist _)) (List.sublist_append_right _ _)) (rS (by kernel_rfl) (Tr.keep (env' := [(1, _), (3, _), (4, _)]) ⟨rfl, rfl, rfl, trivial⟩ (cX (aB ?_))))))
   refine aA (tv (aC rfl) (tv (cC rfl rfl (by omega)) (tv (aD rfl) (aF (Tr.keep (env' := [(1, _), (3, _), (4, _)]) ⟨rfl, rfl, rfl, trivial⟩ ?_)))))
   refine aB ?_
   refine nD (IH (k + 1, v1, E1, iN nl s.plan.items.length x.2.1 x.2.2 :: rl) ⟨by omega, by simpa [pZ] using hO1, by simp [hrl], fun c hc => by
  rcases List.mem_cons.1 hc with rfl | hc
  ·exact ⟨_, _, rfl⟩
  ·exact hall c hc⟩ (by simp; omega)) ⟨rfl, rfl, rfl, trivial⟩ (by rw [hG, yM, yN]; exact (List.Sublist.append (.refl _) (.cons _ (.refl _))))
 ·have h9 : ¬ k < nc := by have := of_decide_eq_false hc1; omega
  have hkn : k = nc := by omega
  refine cY (aS (aS (bX (aB (aE ?_)))))
  refine aA (tv (aC rfl) (tv (aD rfl) (aF (Tr.keep (env' := [(2, _)]) ⟨rfl, trivial⟩ (aB ?_)))))
  refine aQ (aW rfl rfl (fun w hw => ?_))
  exact ⟨⟨b12, gl, v, E, rl⟩, rfl, ⟨hO, (by show (rl.length : Int) = s.cars; omega), hall⟩, Ok.sub hw (List.Sublist.append (.refl _) (List.Sublist.append (.refl _) (.cons_cons _ (.cons_cons _ (.cons_cons _ (.cons _ (.refl _)))))))⟩
end
end Go.Proofs.W
set_option linter.unusedVariables false
set_option linter.unusedSimpArgs false
set_option linter.unusedSectionVars false
set_option maxRecDepth 100000
namespace Go.Proofs.W
open Go Go.Sl Go.RowKit Go.Proofs
attribute [local irreducible] Go.Sl.Eff
theorem bF8 : aV Tryz.prog 10 := aL Tryz.func10 (by kernel_rfl) (by kernel_rfl)
theorem en_12 : aV Tryz.prog 12 := aL Tryz.func12 (by kernel_rfl) (by kernel_rfl)
theorem en_16 : aV Tryz.prog 16 := aL Tryz.func16 (by kernel_rfl) (by kernel_rfl)
theorem en_17 : aV Tryz.prog 17 := aL Tryz.func17 (by kernel_rfl) (by kernel_rfl)
theorem en_19 : aV Tryz.prog 19 := aL Tryz.func19 (by kernel_rfl) (by kernel_rfl)
theorem en_9 : aV Tryz.prog 9 := aL Tryz.func9 (by kernel_rfl) (by kernel_rfl)
theorem jE {c : CardX} : ∀ {rl : List CardX}, c ∈ rl → c.es ∈ hG rl ∧ c.el ∈ hG rl
 | x :: r, h => by
  rcases List.mem_cons.1 h with rfl | h
  ·simp [hG]
  ·have := jE h
   simp [hG, this.1, this.2]
abbrev tH (nl ni : Nat) : Int × List Int × List CLine := (0, List.replicate nl 0, List.replicate ni eZ)
theorem rW {nl ni : Nat} {rl : List CardX} (h : ∀ c ∈ rl, ∃ x y, c = iN nl ni x y) : rl.map CardX.con = List.replicate rl.length (tH nl ni) := by
 induction rl with
 | nil => rfl
 | cons c r ih =>
  obtain ⟨x, y, e⟩ := h c (by simp)
  rw [List.map_cons, ih fun d hd => h d (by simp [hd]), List.length_cons, List.replicate_succ, e]
  rfl
theorem aQ9 {nl ni n : Nat} {cl : List CardX} {M : List Ent} (hcon : cl.map CardX.con = List.replicate n (tH nl ni)) (hnl : 0 < nl ∧ nl ≤ 1000) (hni : 0 < ni ∧ ni ≤ 1000) (hM : ∀ c ∈ cl, c.es ∈ M ∧ c.el ∈ M) : ∀ c ∈ cl, c.In M := by
 intro c hc
 have h1 : c.con ∈ List.replicate n (tH nl ni) := hcon ▸ List.mem_map_of_mem hc
 have h2 := (List.mem_replicate.1 h1).2
 simp [CardX.con, tH] at h2
 refine ⟨(hM c hc).1, (hM c hc).2, ?_, ?_⟩
 ·rw [h2.2.1]; simpa using hnl
 ·rw [h2.2.2]; simpa using hni
theorem con_len {cl : List CardX} {n : Nat} {x : Int × List Int × List CLine} (h : cl.map CardX.con = List.replicate n x) : cl.length = n := by
 have := congrArg List.length h
 simpa using this
section
variable {w0 : World} {M : List Ent}
theorem rX (hT : Tab w0) {s : SetupV} {a : SetupAt} (h : s.In w0 M a) (hsm : xL s = false) : ∀ w, Ok w0 M w → Calls Tryz.prog 4 #[.agg (s.cells a).toArray] w (fun e w' => e = .returned (.bool true) ∧ Ok w0 M w') := by
 refine enter (vs := [_]) Tryz.func4 rfl Tryz.ntmps4 rfl (aE (aA (te (cH rfl rfl fun b1 => (tv (aD rfl) (aF ?_))))))
 refine Tr.keep (env' := [(1, _)]) ⟨rfl, trivial⟩ (aB (aE (aE (aA (tv (aY iH rfl (bL (n := 30) (vs := [_, _, _, _, _, _, _, _, _, _, _, _, _, _, _, _, _, _, _, _, _, _, _, _, _, _, _, _, _, _]) (.head _) rfl) rfl) ?_)))))
 refine te (aJ en_9 rfl rfl rfl rfl (tQ s a) ?_)
 rw [hsm]
 refine tv (bF rfl) (aF (Tr.keep (env' := [(1, _), (7, _)]) ⟨rfl, rfl, trivial⟩ (aB (bI rfl (aE ?_)))))
 refine aA (te (aJ bF8 rfl rfl rfl rfl (aJ1 hT) (tv (aD rfl) (aF (Tr.keep (env' := [(2, _)]) ⟨rfl, trivial⟩ (aB ?_))))))
 refine aQ (aN (aW rfl rfl (fun w hw => ?_)))
 exact ⟨rfl, Ok.sub hw (.cons _ (.refl _))⟩
theorem uS (hT : Tab w0) {s : SetupV} {a : SetupAt} (h : s.In w0 M a) (hsm : xL s = true) (hok : fA s = false) : ∀ w, Ok w0 M w → Calls Tryz.prog 4 #[.agg (s.cells a).toArray] w (fun e w' => e = .returned (.bool true) ∧ Ok w0 M w') := by
 refine enter (vs := [_]) Tryz.func4 rfl Tryz.ntmps4 rfl (aE (aA (te (cH rfl rfl fun b1 => (tv (aD rfl) (aF ?_))))))
 refine Tr.keep (env' := [(1, _)]) ⟨rfl, trivial⟩ (aB (aE (aE (aA (tv (aY iH rfl (bL (n := 30) (vs := [_, _, _, _, _, _, _, _, _, _, _, _, _, _, _, _, _, _, _, _, _, _, _, _, _, _, _, _, _, _]) (.head _) rfl) rfl) ?_)))))
 refine te (aJ en_9 rfl rfl rfl rfl (tQ s a) ?_)
 rw [hsm]
 refine tv (bF rfl) (aF (Tr.keep (env' := [(1, _), (7, _)]) ⟨rfl, rfl, trivial⟩ (aB (aR rfl (aO ?_)))))
 refine aB (aE (aA (tv (aY iH rfl (bL (n := 30) (vs := [_, _, _, _, _, _, _, _, _, _, _, _, _, _, _, _, _, _, _, _, _, _, _, _, _, _, _, _, _, _]) (.head _) rfl) rfl) (te (aJ aX4 rfl rfl rfl rfl (bO2 (h.sub (.cons _ (.refl _))) hok) (tv (aC rfl) ?_))))))
 refine tv (bA rfl rfl) (tv (bA rfl rfl) (tv (aD rfl) (tv (aD rfl) (aF (Tr.keep (env' := [(1, _), (3, _), (4, _)]) ⟨rfl, rfl, rfl, trivial⟩ ?_)))))
 refine aB (aE (aE (aA (tv (aY iH rfl (bL (n := 30) (vs := [_, _, _, _, _, _, _, _, _, _, _, _, _, _, _, _, _, _, _, _, _, _, _, _, _, _, _, _, _, _]) (.head _) rfl) rfl) (te (aJ en_12 rfl rfl rfl rfl (xK (h.sub (.cons _ (.refl _)))) ?_))))))
 rw [hok]
 refine tv (bF rfl) (aF (Tr.keep (env' := [(1, _), (3, _), (4, _), (16, _)]) ⟨rfl, rfl, rfl, rfl, trivial⟩ (aB (bI rfl (aE ?_)))))
 refine aA (tv (aY iH rfl (bL (n := 30) (vs := [_, _, _, _, _, _, _, _, _, _, _, _, _, _, _, _, _, _, _, _, _, _, _, _, _, _, _, _, _, _]) (.head _) rfl) rfl) (te (aJ aK5 rfl rfl rfl rfl (kK (h.sub (.cons _ (.refl _)))) ?_)))
 rw [hok]
 refine tv (cW rfl rfl) (tv (aC rfl) (cV rfl rfl (aC rfl) (cV rfl rfl (cW rfl rfl) (tv (cG rfl rfl) (tv (aC rfl) ?_)))))
 refine cV rfl rfl (aC rfl) (cV rfl rfl (cM (v2 := .bool true) (vU Tryz.underlying46 rfl rfl) rfl) (tv (cG rfl rfl) (tv (aC rfl) (gB rfl rfl (aJ bF8 rfl rfl rfl rfl (aJ1 hT) (tv (cG rfl rfl) ?_))))))
 refine tv (aD rfl) (aF (Tr.keep (env' := [(2, _)]) ⟨rfl, trivial⟩ (aB (aQ (aN ?_)))))
 refine aW rfl rfl (fun w hw => ?_)
 exact ⟨rfl, Ok.sub hw (.cons _ (.refl _))⟩
theorem tI (hT : Tab w0) {s : SetupV} {a : SetupAt} (h : s.In w0 M a) (hsm : xL s = true) (hok : fA s = true) (hwf : LegWf s.plan.items) : ∀ w, Ok w0 M w → Calls Tryz.prog 4 #[.agg (s.cells a).toArray] w (fun e w' => e = .returned (.bool true) ∧ Ok w0 M w') := by
 have F := oY hok
 have hleg := vZ F.p hwf (s.plan.items.length - 1) (by have := F.pos; omega)
 have hpos := F.pos; have hmost := F.most; have hcars := F.cars
 obtain ⟨nl, hnl'⟩ := Int.eq_ofNat_of_zero_le (show 0 ≤ (cF s.plan.items (s.plan.items.length - 1)).leg + 1 by omega)
 have hnl : (cF s.plan.items (s.plan.items.length - 1)).leg + 1 = (nl : Int) := hnl'
 have hnlp : 0 < nl ∧ nl ≤ 1000 := by omega
 have hnip : 0 < s.plan.items.length ∧ s.plan.items.length ≤ 1000 := by omega
 refine enter (vs := [_]) Tryz.func4 rfl Tryz.ntmps4 rfl (aE (aA (te (cH rfl rfl fun b1 => (tv (aD rfl) (aF ?_))))))
 refine Tr.keep (env' := [(1, _)]) ⟨rfl, trivial⟩ (aB (aE (aE (aA (tv (aY iH rfl (bL (n := 30) (vs := [_, _, _, _, _, _, _, _, _, _, _, _, _, _, _, _, _, _, _, _, _, _, _, _, _, _, _, _, _, _]) (.head _) rfl) rfl) ?_)))))
 refine te (aJ en_9 rfl rfl rfl rfl (tQ s a) ?_)
 rw [hsm]
 refine tv (bF rfl) (aF (Tr.keep (env' := [(1, _), (7, _)]) ⟨rfl, rfl, trivial⟩ (aB (aR rfl (aO ?_)))))
 refine aB (aE (aA (tv (aY iH rfl (bL (n := 30) (vs := [_, _, _, _, _, _, _, _, _, _, _, _, _, _, _, _, _, _, _, _, _, _, _, _, _, _, _, _, _, _]) (.head _) rfl) rfl) (te (bP aX4 rfl rfl rfl rfl (bB9 (h.sub (.cons _ (.refl _))) hok hwf hnl) fun e he => ?_)))))
 obtain ⟨eb, q, gl, wl, cb, qc, cv, cE, rl⟩ := e
 obtain ⟨hq, hwl, hqc, hO, hrl, hall⟩ := he
 dsimp only at hq hwl hqc hO hrl hall ⊢
 obtain ⟨A, cA, hcv, _, _, hrd⟩ := hO.rd (by simp; omega)
 subst hcv
 have hrl' : rl.reverse.length = rl.length := List.length_reverse
 simp only [List.length_map] at hO hrd ⊢
 have hcon0 : rl.reverse.map CardX.con = List.replicate rl.length (tH nl s.plan.items.length) := by rw [List.map_reverse, rW hall, List.reverse_replicate]
 have hin0 : ∀ M', (∀ x ∈ hG rl, x ∈ M') → ∀ c ∈ rl.reverse, c.In M' := fun M' hM => aQ9 hcon0 hnlp hnip (fun c hc => ⟨hM _ (jE (List.mem_reverse.1 hc)).1, hM _ (jE (List.mem_reverse.1 hc)).2⟩)
 refine tv (aC rfl) (tv (bA rfl rfl) (tv (bA rfl rfl) (tv (aD rfl) (tv (aD rfl) (aF ?_)))))
 refine Tr.keep (env' := [(1, _), (3, _), (4, _)]) ⟨rfl, rfl, rfl, trivial⟩ (aB (aE (aE (aA (tv (aY iH rfl (bL (n := 30) (vs := [_, _, _, _, _, _, _, _, _, _, _, _, _, _, _, _, _, _, _, _, _, _, _, _, _, _, _, _, _, _]) (List.mem_append_right _ (List.mem_append_right _ (.tail _ (List.mem_append_right _ (.tail _ (.tail _ (List.mem_append_right _ (List.mem_append_right _ (.tail _ (.tail _ (.tail _ (.tail _ (.tail _ (List.mem_append_right _ (List.mem_append_right _ (List.mem_append_right _ (List.mem_append_right _ (List.mem_append_right _ (List.mem_append_right _ (List.mem_append_right _ (.head _))))))))))))))))))))) rfl) rfl) ?_)))))
 refine te (aJ en_12 rfl rfl rfl rfl (xK (h.sub (List.Sublist.trans (List.Sublist.trans (.cons _ (List.Sublist.trans (.cons _ (.cons _ (List.Sublist.trans (List.Sublist.trans (.cons _ (.cons _ (.cons _ (.cons _ (.cons _ (List.Sublist.trans (List.Sublist.trans (List.Sublist.trans (List.Sublist.trans (List.Sublist.trans (List.Sublist.trans (List.Sublist.trans (.cons _ (.refl _)) (List.sublist_append_right _ _)) (List.sublist_append_right _ _)) (List.sublist_append_right _ _)) (List.sublist_append_right _ _)) (List.sublist_append_right _ _)) (List.sublist_append_right _ _)) (List.sublist_append_right _ _))))))) (List.sublist_append_right _ _)) (List.sublist_append_right _ _)))) (List.sublist_append_right _ _))) (List.sublist_append_right _ _)) (List.sublist_append_right _ _)))) ?_)
 rw [hok]
 refine tv (bF rfl) (aF (Tr.keep (env' := [(1, _), (3, _), (4, _), (16, _)]) ⟨rfl, rfl, rfl, rfl, trivial⟩ (aB (aR rfl (aO ?_)))))
 refine aB (aE (cI cK rfl (dv 0 rfl (.refl _) (aY iH rfl (bL (n := 30) (vs := [_, _, _, _, _, _, _, _, _, _, _, _, _, _, _, _, _, _, _, _, _, _, _, _, _, _, _, _, _, _]) (List.mem_append_right _ (List.mem_append_right _ (.tail _ (List.mem_append_right _ (.tail _ (.tail _ (List.mem_append_right _ (List.mem_append_right _ (.tail _ (.tail _ (.tail _ (.tail _ (.tail _ (List.mem_append_right _ (List.mem_append_right _ (List.mem_append_right _ (List.mem_append_right _ (List.mem_append_right _ (List.mem_append_right _ (List.mem_append_right _ (.head _))))))))))))))))))))) rfl) rfl) (de 1 rfl (aJ aK5 rfl rfl rfl rfl (kK (h.sub (List.Sublist.trans (List.Sublist.trans (.cons _ (List.Sublist.trans (.cons _ (.cons _ (List.Sublist.trans (List.Sublist.trans (.cons _ (.cons _ (.cons _ (.cons _ (.cons _ (List.Sublist.trans (List.Sublist.trans (List.Sublist.trans (List.Sublist.trans (List.Sublist.trans (List.Sublist.trans (List.Sublist.trans (.cons _ (.refl _)) (List.sublist_append_right _ _)) (List.sublist_append_right _ _)) (List.sublist_append_right _ _)) (List.sublist_append_right _ _)) (List.sublist_append_right _ _)) (List.sublist_append_right _ _)) (List.sublist_append_right _ _))))))) (List.sublist_append_right _ _)) (List.sublist_append_right _ _)))) (List.sublist_append_right _ _))) (List.sublist_append_right _ _)) (List.sublist_append_right _ _)))) ?_)))))
 rw [hok]
 refine aU (.refl _) (dv 2 rfl (.refl _) (cW rfl rfl) (dv 3 rfl (.refl _) (aC rfl) (eI 4 rfl (.refl _) rfl rfl (aC rfl) (eI 5 rfl (.refl _) rfl rfl (cW rfl rfl) (dv 6 rfl (.refl _) (cG rfl rfl) ?_)))))
 refine dv 7 rfl (.refl _) (aC rfl) (eI 8 rfl (.refl _) rfl rfl (aC rfl) (eI 9 rfl (.refl _) rfl rfl (cM (v2 := .bool true) (nQ Tryz.underlying46 rfl rfl) rfl) (dv 10 rfl (.refl _) (cG rfl rfl) (dv 11 rfl (.refl _) (aC rfl) (eI 12 rfl (.refl _) rfl rfl (aC rfl) ?_)))))
 refine jU 13 rfl (by kernel_rfl) rfl rfl (bP en_16 rfl rfl rfl rfl (logG_c (e := ⟨eb, q, gl, wl, cb, qc, .slice A rl.reverse.length cA, cE, rl⟩) (s := s) (cv := .slice A rl.reverse.length cA) (A := none) (cA := 0) (log := []) (List.mem_append_right _ (List.mem_append_right _ (.tail _ (List.mem_append_right _ (.tail _ (.tail _ (List.mem_append_right _ (List.mem_append_right _ (.tail _ (.tail _ (.tail _ (.tail _ (.head _))))))))))))) SlRd.nil (fun _ => ⟨rfl, rfl⟩) (by decide)) fun y hy => ?_)
 obtain ⟨v1, E1⟩ := y
 obtain rfl : v1 = .slice none 0 0 := hy.2.2 rfl
 dsimp only
 refine aU (List.Sublist.trans (.refl _) (List.sublist_append_right _ _)) (eI 14 rfl (List.Sublist.trans (.refl _) (List.sublist_append_right _ _)) rfl rfl (aP Tryz.underlying50 rfl) (eI 15 rfl (List.Sublist.trans (.refl _) (List.sublist_append_right _ _)) rfl rfl (cW rfl rfl) (dv 16 rfl (List.Sublist.trans (.refl _) (List.sublist_append_right _ _)) (cG rfl rfl) (dv 17 rfl (List.Sublist.trans (.refl _) (List.sublist_append_right _ _)) (aC rfl) (eI 18 rfl (List.Sublist.trans (.refl _) (List.sublist_append_right _ _)) rfl rfl (aC rfl) ?_)))))
 refine eI 20 rfl (List.Sublist.trans (.refl _) (List.sublist_append_right _ _)) rfl rfl (aY iH rfl (bL (n := 30) (vs := [_, _, _, _, _, _, _, _, _, _, _, _, _, _, _, _, _, _, _, _, _, _, _, _, _, _, _, _, _, _]) (List.mem_append_right _ (List.mem_append_right _ (.tail _ (List.mem_append_right _ (.tail _ (.tail _ (List.mem_append_right _ (List.mem_append_right _ (.tail _ (.tail _ (.tail _ (.tail _ (.tail _ (List.mem_append_right _ (List.mem_append_right _ (List.mem_append_right _ (List.mem_append_right _ (List.mem_append_right _ (List.mem_append_right _ (List.mem_append_right _ (.head _))))))))))))))))))))) rfl) rfl) (jU 19 rfl (by kernel_rfl) rfl rfl (bP en_18 rfl rfl rfl rfl (bO1 (e := ⟨eb, q, gl, wl, cb, qc, .slice A rl.reverse.length cA, cE, rl⟩) (s := s) (lv := .slice none 0 0) (cl := rl.reverse) (List.mem_append_right _ (List.mem_append_right _ (List.mem_append_right _ (.tail _ (List.mem_append_right _ (.tail _ (.tail _ (List.mem_append_right _ (List.mem_append_right _ (.tail _ (.tail _ (.tail _ (.tail _ (.head _)))))))))))))) (hrd w0 _ (fun z hz => (List.mem_append_right _ (List.mem_append_left _ hz)))) (hin0 _ (fun z hz => (List.mem_append_right _ (List.mem_append_right _ (List.mem_append_left _ hz))))) (by rw [hrl']; omega)) fun y hy => ?_))
 obtain ⟨yv, yE, yl⟩ := y
 obtain ⟨hyO, hyc⟩ := hy
 dsimp only at hyO hyc ⊢
 rw [hcon0] at hyc
 have hyn : yl.reverse.length = rl.length := con_len hyc
 obtain ⟨yA, yc, hyv, _, _, hyrd⟩ := hyO.rd (by rw [List.length_map, hyn]; omega)
 subst hyv
 simp only [List.length_map] at hyO hyrd ⊢
 have hyin : ∀ M', (∀ x ∈ hG yl, x ∈ M') → ∀ c ∈ yl.reverse, c.In M' := fun M' hM => aQ9 hyc hnlp hnip (fun c hc => ⟨hM _ (jE (List.mem_reverse.1 hc)).1, hM _ (jE (List.mem_reverse.1 hc)).2⟩)
 refine aU (List.Sublist.trans (List.Sublist.trans (List.Sublist.trans (.refl _) (List.sublist_append_right _ _)) (List.sublist_append_right _ _)) (List.sublist_append_right _ _)) (jU 21 rfl (by kernel_rfl) rfl rfl (bP en_19 rfl rfl rfl rfl (aZ1 (h.sub (List.Sublist.trans (List.Sublist.trans (List.Sublist.trans (List.Sublist.trans (List.Sublist.trans (.cons _ (List.Sublist.trans (.cons _ (.cons _ (List.Sublist.trans (List.Sublist.trans (.cons _ (.cons _ (.cons _ (.cons _ (.cons _ (List.Sublist.trans (List.Sublist.trans (List.Sublist.trans (List.Sublist.trans (List.Sublist.trans (List.Sublist.trans (List.Sublist.trans (.cons _ (.refl _)) (List.sublist_append_right _ _)) (List.sublist_append_right _ _)) (List.sublist_append_right _ _)) (List.sublist_append_right _ _)) (List.sublist_append_right _ _)) (List.sublist_append_right _ _)) (List.sublist_append_right _ _))))))) (List.sublist_append_right _ _)) (List.sublist_append_right _ _)))) (List.sublist_append_right _ _))) (List.sublist_append_right _ _)) (List.sublist_append_right _ _)) (List.sublist_append_right _ _)) (List.sublist_append_right _ _)) (List.sublist_append_right _ _))) hok hwf hnl) fun r hr => ?_))
 obtain ⟨rb, rgl, zv, zE, zl⟩ := r
 obtain ⟨hzO, hzl, hzall⟩ := hr
 dsimp only at hzO hzl hzall ⊢
 have hzr' : zl.reverse.length = zl.length := List.length_reverse
 obtain ⟨zA, zc, hzv, _, _, hzrd⟩ := hzO.rd (by simp; omega)
 subst hzv
 simp only [List.length_map] at hzO hzrd ⊢
 have hzlr : zl.length = rl.length := by omega
 have hzcon : zl.reverse.map CardX.con = List.replicate rl.length (tH nl s.plan.items.length) := by rw [List.map_reverse, rW hzall, List.reverse_replicate, hzlr]
 have hzin : ∀ M', (∀ x ∈ hG zl, x ∈ M') → ∀ c ∈ zl.reverse, c.In M' := fun M' hM => aQ9 hzcon hnlp hnip (fun c hc => ⟨hM _ (jE (List.mem_reverse.1 hc)).1, hM _ (jE (List.mem_reverse.1 hc)).2⟩)
 have hzn : zl.reverse.length = yl.reverse.length := by rw [hzr', hyn, hzlr]
 refine aU (List.Sublist.trans (List.Sublist.trans (.cons _ (.cons _ (.cons _ (List.Sublist.trans (List.Sublist.trans (List.Sublist.trans (.refl _) (List.sublist_append_right _ _)) (List.sublist_append_right _ _)) (List.sublist_append_right _ _))))) (List.sublist_append_right _ _)) (List.sublist_append_right _ _)) (eI 22 rfl (List.Sublist.trans (List.Sublist.trans (.cons _ (.cons _ (.cons _ (List.Sublist.trans (List.Sublist.trans (List.Sublist.trans (.refl _) (List.sublist_append_right _ _)) (List.sublist_append_right _ _)) (List.sublist_append_right _ _))))) (List.sublist_append_right _ _)) (List.sublist_append_right _ _)) rfl rfl (aM rfl) (eI 23 rfl (List.Sublist.trans (List.Sublist.trans (.cons _ (.cons _ (.cons _ (List.Sublist.trans (List.Sublist.trans (List.Sublist.trans (.refl _) (List.sublist_append_right _ _)) (List.sublist_append_right _ _)) (List.sublist_append_right _ _))))) (List.sublist_append_right _ _)) (List.sublist_append_right _ _)) rfl rfl (aI aF6 rfl) (jU 24 rfl (by kernel_rfl) rfl rfl (iK (cM (v2 := .slice zA yl.reverse.length zc) (aG pO rfl (aK (List.mem_append_right _ (List.mem_append_right _ (.head _))) rfl)) (congrArg (fun n => Value.slice zA n zc) hzn)) rfl (aU (List.Sublist.trans (List.Sublist.trans (.cons _ (.cons _ (.cons _ (List.Sublist.trans (List.Sublist.trans (List.Sublist.trans (.refl _) (List.sublist_append_right _ _)) (List.sublist_append_right _ _)) (List.sublist_append_right _ _))))) (List.sublist_append_right _ _)) (List.sublist_append_right _ _)) (jU 25 rfl (by kernel_rfl) rfl rfl (aJ en_17 rfl rfl rfl rfl (aR7 (n := yl.reverse.length) (hyrd w0 _ (fun z hz => (List.mem_append_right _ (List.mem_append_right _ (.tail _ (.tail _ (.tail _ (List.mem_append_left _ hz)))))))) (hzn ▸ hzrd w0 _ (fun z hz => (List.mem_append_left _ hz))) (hyin _ (fun z hz => (List.mem_append_right _ (List.mem_append_right _ (.tail _ (.tail _ (.tail _ (List.mem_append_right _ (List.mem_append_left _ hz))))))))) (hzin _ (fun z hz => (List.mem_append_right _ (List.mem_append_left _ hz)))) (hyc.trans hzcon.symm)) ?_)))))))
 refine aU (List.Sublist.trans (List.Sublist.trans (.cons _ (.cons _ (.cons _ (List.Sublist.trans (List.Sublist.trans (List.Sublist.trans (.refl _) (List.sublist_append_right _ _)) (List.sublist_append_right _ _)) (List.sublist_append_right _ _))))) (List.sublist_append_right _ _)) (List.sublist_append_right _ _)) (dv 26 rfl (List.Sublist.trans (List.Sublist.trans (.cons _ (.cons _ (.cons _ (List.Sublist.trans (List.Sublist.trans (List.Sublist.trans (.refl _) (List.sublist_append_right _ _)) (List.sublist_append_right _ _)) (List.sublist_append_right _ _))))) (List.sublist_append_right _ _)) (List.sublist_append_right _ _)) (cG rfl rfl) (dv 27 rfl (List.Sublist.trans (List.Sublist.trans (.cons _ (.cons _ (.cons _ (List.Sublist.trans (List.Sublist.trans (List.Sublist.trans (.refl _) (List.sublist_append_right _ _)) (List.sublist_append_right _ _)) (List.sublist_append_right _ _))))) (List.sublist_append_right _ _)) (List.sublist_append_right _ _)) (aC rfl) (jU 28 rfl (by kernel_rfl) rfl rfl (aJ bF8 rfl rfl rfl rfl (aJ1 hT) (aU (List.Sublist.trans (List.Sublist.trans (.cons _ (.cons _ (.cons _ (List.Sublist.trans (List.Sublist.trans (List.Sublist.trans (.refl _) (List.sublist_append_right _ _)) (List.sublist_append_right _ _)) (List.sublist_append_right _ _))))) (List.sublist_append_right _ _)) (List.sublist_append_right _ _)) (dv 29 rfl (List.Sublist.trans (List.Sublist.trans (.cons _ (.cons _ (.cons _ (List.Sublist.trans (List.Sublist.trans (List.Sublist.trans (.refl _) (List.sublist_append_right _ _)) (List.sublist_append_right _ _)) (List.sublist_append_right _ _))))) (List.sublist_append_right _ _)) (List.sublist_append_right _ _)) (cG rfl rfl) ?_))))))
 refine dv 30 rfl (List.Sublist.trans (List.Sublist.trans (.cons _ (.cons _ (.cons _ (List.Sublist.trans (List.Sublist.trans (List.Sublist.trans (.refl _) (List.sublist_append_right _ _)) (List.sublist_append_right _ _)) (List.sublist_append_right _ _))))) (List.sublist_append_right _ _)) (List.sublist_append_right _ _)) (aD rfl) (bQ (by kernel_rfl) (Tr.keep (env' := [(2, _)]) ⟨rfl, trivial⟩ (aB (aQ (aW rfl rfl (fun w hw => ?_))))))
 exact ⟨rfl, Ok.sub hw (List.Sublist.trans (List.Sublist.trans (.cons _ (.cons _ (.cons _ (List.Sublist.trans (List.Sublist.trans (List.Sublist.trans (List.Sublist.trans (List.Sublist.trans (.cons _ (List.Sublist.trans (.cons _ (.cons _ (List.Sublist.trans (List.Sublist.trans (.cons _ (.cons _ (.cons _ (.cons _ (.cons _ (List.Sublist.trans (List.Sublist.trans (List.Sublist.trans (List.Sublist.trans (List.Sublist.trans (List.Sublist.trans (List.Sublist.trans (.cons _ (.refl _)) (List.sublist_append_right _ _)) (List.sublist_append_right _ _)) (List.sublist_append_right _ _)) (List.sublist_append_right _ _)) (List.sublist_append_right _ _)) (List.sublist_append_right _ _)) (List.sublist_append_right _ _))))))) (List.sublist_append_right _ _)) (List.sublist_append_right _ _)))) (List.sublist_append_right _ _))) (List.sublist_append_right _ _)) (List.sublist_append_right _ _)) (List.sublist_append_right _ _)) (List.sublist_append_right _ _)) (List.sublist_append_right _ _))))) (List.sublist_append_right _ _)) (List.sublist_append_right _ _))⟩
theorem rallyChecks_c (hT : Tab w0) {s : SetupV} {a : SetupAt} (h : s.In w0 M a) (hwf : LegWf s.plan.items) : ∀ w, Ok w0 M w → Calls Tryz.prog 4 #[.agg (s.cells a).toArray] w (fun e w' => e = .returned (.bool true) ∧ Ok w0 M w') := by
 rcases hsm : xL s with _ | _
 ·exact rX hT h hsm
 ·rcases hok : fA s with _ | _
  ·exact uS hT h hsm hok
  ·exact tI hT h hsm hok hwf
end
end Go.Proofs.W
