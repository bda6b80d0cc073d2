/-
 What functions of the program that RallyChecks reaches do, one contract each, part 5.
-/
import Derived.Test.YtakiijkfjjmppaaGreatDoorKWD
set_option linter.unusedVariables false
set_option linter.unusedSimpArgs false
set_option linter.unusedSectionVars false
set_option maxRecDepth 100000
set_option maxHeartbeats 1000000
namespace Go.Proofs.W
open Go Go.Sl Go.RowKit Go.Proofs
attribute [local irreducible] Go.Sl.Eff
theorem aF7 : bY Tryz.prog 262 = some (none) := by kernel_rfl
theorem aF8 : bY Tryz.prog 264 = some (some 2) := by kernel_rfl
theorem bF9 : bY Tryz.prog 265 = some (none) := by kernel_rfl
theorem en_154 : aV Tryz.prog 154 := aL Tryz.func154 (by kernel_rfl) (by kernel_rfl)
theorem en_213 : aV Tryz.prog 213 := aL Tryz.func213 (by kernel_rfl) (by kernel_rfl)
theorem bG0 : aV Tryz.prog 40 := aL Tryz.func40 (by kernel_rfl) (by kernel_rfl)
theorem inf_262 : (Tryz.prog.info? 262).map (fun i => (i.zero, i.size, i.bytes)) = some (some ((.map none)), 1, 8) := by kernel_rfl
theorem aF9 : (Tryz.prog.info? 264).map (fun i => (i.zero, i.size, i.bytes)) = some (some (.agg #[.int .i64 0, .int .i64 0]), 2, 16) := by kernel_rfl
theorem inf_265 : (Tryz.prog.info? 265).map (fun i => (i.zero, i.size, i.bytes)) = some (some ((.map none)), 1, 8) := by kernel_rfl
theorem inf_4 : (Tryz.prog.info? 4).map (fun i => (i.zero, i.size, i.bytes)) = some (some ((.bool false)), 1, 1) := by kernel_rfl
theorem iz_262 : (Tryz.prog.info? 262).map (·.size) = some 1 := by kernel_rfl
theorem aR0 : (Tryz.prog.info? 264).map (·.size) = some 2 := by kernel_rfl
theorem iz_265 : (Tryz.prog.info? 265).map (·.size) = some 1 := by kernel_rfl
abbrev yX (p : Int × Int) : Value := .agg (gI [p.1, p.2]).toArray
theorem jA : KeyK Tryz.prog 264 yX := KeyK.ints (fun p : Int × Int => [p.1, p.2]) Tryz.underlying264 (by kernel_rfl) (by
 intro j f h
 match j, h with
 | 0, h => cases h; exact ⟨by decide, rfl, Tryz.underlying3⟩
 | 1, h => cases h; exact ⟨by decide, rfl, Tryz.underlying3⟩
 | j + 2, h => simp at h) (fun _ => rfl) (fun a b h => by simp at h; exact Prod.ext h.1 h.2)
structure VAt where
 vb : Nat
 db : Nat
 c : Nat
 ib : Nat
 c2 : Nat
 sp : List Value
 si : List Value
abbrev VAt.ev (v : VAt) (lb : Nat) : Ent := cel v.vb 261 [.pointer (some ⟨lb, 0, none⟩), .slice (some ⟨v.db, 0, none⟩) 2 v.c, .slice (some ⟨v.ib, 0, none⟩) 2 v.c2]
abbrev VAt.ed (v : VAt) : Ent := cel v.db 100 (row2 v.sp)
abbrev VAt.ei (v : VAt) : Ent := cel v.ib 3 (.int .i64 0 :: .int .i64 1 :: v.si)
theorem aZ2 {v x y : Value} {E : List Ent} (h : Own 3 1 v [[x], [y]] E) : ∃ b c si, v = .slice (some ⟨b, 0, none⟩) 2 c ∧ E = [cel b 3 (x :: y :: si)] := by
 rcases h.sh with ⟨_, h0, _⟩ | ⟨b, c, l, rfl, rfl, h2, h3, h4, h5⟩
 ·simp at h0
 ·simp at h3 h5
  refine ⟨b, c, l.drop 2, rfl, ?_⟩
  have hl : l = x :: y :: l.drop 2 := by
   conv => lhs; rw [← List.take_append_drop 2 l, h5]
   simp [bT]
  rw [← hl]
theorem repR : tC R1 R2 < 0 ∧ ¬ tC R2 R1 < 0 := by decide
section
variable {w0 : World} {M : List Ent}
theorem bG1 {g : WLog} {l : WAt} (hb : g.eb l ∈ M) (hm : g.em l ∈ M) (hkv : g.kv = [(R1, 2000), (R2, 302000)]) :
  ∀ w, Ok w0 M w → Calls Tryz.prog 102 #[.pointer (some ⟨l.b, 0, none⟩), .int .i64 400000] w (fun e w' => ∃ x : VAt, e = .returned (.pointer (some ⟨x.vb, 0, none⟩)) ∧ True ∧ Ok w0 (x.ev l.b :: x.ed :: x.ei :: M) w') := by
 refine rA (vs := [_, _]) Tryz.func102 rfl Tryz.ntmps102 rfl (tD (aE (aA (te (eL rfl rfl rfl fun b3 => (tv (aD rfl) ?_))))))
 refine aF (Tr.keep (env' := [(0, _), (3, _), (4, _)]) ⟨rfl, rfl, rfl, trivial⟩ (aB (aE (aA (tv (aC rfl) ?_)))))
 refine tv (aC rfl) (te (bP bG0 rfl rfl rfl rfl (oP R1 R2 2000 302000 (.tail _ hb) (.tail _ hm) hkv repR.1 repR.2) fun x hO => ?_))
 obtain ⟨v, E⟩ := x
 obtain ⟨db, c, sp, hv, hE, _⟩ := rO hO
 dsimp only at hv hE ⊢
 subst hv hE
 simp only [List.singleton_append]
 show Tr _ _ _ _ (cel db 100 (row2 sp) :: _) _
 refine tv (bU rfl (v := .agg #[.pointer (some ⟨l.b, 0, none⟩), .slice (some ⟨db, 0, none⟩) 2 c, .slice none 0 0]) (fun w => by kernel_rfl)) (te (cH rfl rfl fun b20 => (tv (aD rfl) (aF (Tr.keep (env' := [(3, _), (4, _), (5, _)]) ⟨rfl, rfl, rfl, trivial⟩ (aB ?_))))))
 refine aE (aA (te (gQ (yX) rfl fun b21 => (te (bO inf_262 (l := [.map none]) rfl rfl fun b6 => (te (bR iz_262 rfl rfl rfl .zero .here (aF ?_))))))))
 refine Tr.keep (env' := [(3, _), (4, _), (5, _), (6, _)]) ⟨rfl, rfl, rfl, rfl, trivial⟩ (aB (aE (aE (aA (tv (aC rfl) ?_)))))
 refine tv (aM rfl) (tv (aI oQ rfl) (tv (aG uE rfl (aK (.tail _ (.tail _ (.head _))) rfl)) (tv (aP Tryz.underlying56 rfl) (tv (aC rfl) (aF ?_)))))
 refine Tr.keep (env' := [(3, _), (4, _), (5, _), (6, _), (25, _), (26, _), (27, _)]) ⟨rfl, rfl, rfl, rfl, rfl, rfl, rfl, trivial⟩ (aB (aX (eN (cR (aE ?_)))))
 refine aA (tv (dI rfl rfl) (aF (Tr.keep (env' := [(3, _), (4, _), (5, _), (6, _), (25, _), (26, _), (27, _), (28, _)]) ⟨rfl, rfl, rfl, rfl, rfl, rfl, rfl, rfl, trivial⟩ (aB (aE ?_)))))
 refine bI rfl (aO (aB (aE (aX (aE ?_)))))
 refine aA (tv (dE (j := 0) Tryz.underlying56 dP rfl rfl rfl (by decide)) (tv (aY eY rfl (bL (n := 7) (vs := [_, _, _, _, _, _, _]) (.tail _ (.tail _ (.tail _ (.head _)))) rfl) rfl) (te (bO gW (l := [.int .i64 0, .int .i64 0, .int .i64 0, .int .i64 0, .int .i64 0, .int .i64 0, .int .i64 0]) rfl rfl fun b8 => (te (bJ dP rfl rfl (vs := [_, _, _, _, _, _, _]) rfl rfl (by simp [Value.oneCell']) (.cons .zero (.cons (.succ .zero) (.cons (.succ (.succ .zero)) (.cons (.succ (.succ (.succ .zero))) (.cons (.succ (.succ (.succ (.succ .zero)))) (.cons (.succ (.succ (.succ (.succ (.succ .zero))))) (.cons (.succ (.succ (.succ (.succ (.succ (.succ .zero)))))) .nil))))))) .here (aF ?_)))))))
 refine Tr.keep (env' := [(3, _), (4, _), (5, _), (6, _), (8, _), (25, _), (26, _), (27, _)]) ⟨rfl, rfl, rfl, rfl, rfl, rfl, rfl, rfl, trivial⟩ (aB (aE (aA (tv (aI iS rfl) (tv (aG bB rfl (aK (.head _) rfl)) ?_)))))
 refine tv (aG bB rfl (aK (.tail _ (.tail _ (.tail _ (.tail _ (.tail _ (.head _)))))) rfl)) (tv (iF rfl rfl) (aF (Tr.keep (env' := [(3, _), (4, _), (5, _), (6, _), (8, _), (25, _), (26, _), (27, _), (34, _)]) ⟨rfl, rfl, rfl, rfl, rfl, rfl, rfl, rfl, rfl, trivial⟩ (aB (bI rfl ?_)))))
 refine Tr.keep (env' := [(3, _), (4, _), (5, _), (6, _), (8, _), (25, _), (26, _), (27, _)]) ⟨rfl, rfl, rfl, rfl, rfl, rfl, rfl, rfl, trivial⟩ (Tr.keep (env' := [(3, _), (4, _), (5, _), (6, _), (8, _), (25, _), (26, _), (27, _)]) ⟨rfl, rfl, rfl, rfl, rfl, rfl, rfl, rfl, trivial⟩ ?_)
 refine bE8 [] (y := kE b21 yX (fO (0, 0) (.int .i64 1) [])) (.there (.there .here)) ?_ ?_
 ·intro K hK
  refine dV (.cons_cons _ (.cons_cons _ (.cons _ (.refl _)))) cK rfl (dv 0 rfl (.cons_cons _ (.cons_cons _ (.cons _ (.refl _)))) (aG aF7 rfl (aK (.tail _ (.head _)) rfl)) (dv 1 rfl (.cons_cons _ (.cons_cons _ (.cons _ (.refl _)))) (aI jL rfl) (dv 2 rfl (.cons_cons _ (.cons_cons _ (.cons _ (.refl _)))) (aG bB rfl (aK (.head _) rfl)) (dv 3 rfl (.cons_cons _ (.cons_cons _ (.cons _ (.refl _)))) (aI jM rfl) (dv 4 rfl (.cons_cons _ (.cons_cons _ (.cons _ (.refl _)))) (aG bB rfl (aK (.head _) rfl)) ?_)))))
  refine dv 5 rfl (.cons_cons _ (.cons_cons _ (.cons _ (.refl _)))) (bU rfl (v := yX (0, 0)) (fun w => by kernel_rfl)) ?_
  refine gP 6 8 rfl rfl  rfl rfl  (by kernel_rfl) ?_ ?_
  ·refine (iK (fF (v' := .int .i64 0) (fK ((0, 0)) Tryz.underlying262 jA eQ rfl rfl (.tail _ (.tail _ (.head _)))) rfl) rfl (aU (.cons_cons _ (.cons_cons _ (.cons _ (.refl _)))) (dv 7 rfl (.cons_cons _ (.cons_cons _ (.cons _ (.refl _)))) (cC rfl rfl (by omega)) (de 8 rfl (mM (a := (0, 0)) Tryz.underlying262 jA eQ rfl rfl rfl (fun _ => (.there (.there .here))) fun l' j' u' hj' hu' hmg' hset' => (aU (.cons_cons _ (.cons_cons _ (.cons _ (.refl _)))) (dv 9 rfl (.cons_cons _ (.cons_cons _ (.cons _ (.refl _)))) (bA rfl rfl) ?_)))))))
   refine de 10 rfl (lN rfl rfl rfl hj' (.there (.there .here)) ?_)
   rw [hset']
   refine aU (.cons_cons _ (.cons_cons _ (.cons _ (.refl _)))) (bQ (by kernel_rfl) ?_)
   exact dF hK ⟨rfl, rfl, rfl, rfl, rfl, rfl, rfl, rfl, trivial⟩ (.refl _)
  ·refine (mM (a := (0, 0)) Tryz.underlying262 jA eQ rfl rfl rfl (fun _ => (.there (.there .here))) fun l' j' u' hj' hu' hmg' hset' => (aU (.cons_cons _ (.cons_cons _ (.cons _ (.refl _)))) (dv 9 rfl (.cons_cons _ (.cons_cons _ (.cons _ (.refl _)))) (bA rfl rfl) (de 6 rfl (iK (fF (v' := .int .i64 0) (fK ((0, 0)) Tryz.underlying262 jA eQ rfl rfl (.tail _ (.tail _ (.head _)))) (by rw [hmg', hu']; rfl)) rfl (aU (.cons_cons _ (.cons_cons _ (.cons _ (.refl _)))) (dv 7 rfl (.cons_cons _ (.cons_cons _ (.cons _ (.refl _)))) (cC rfl rfl (by omega)) ?_)))))))
   refine de 10 rfl (lN rfl rfl rfl hj' (.there (.there .here)) ?_)
   rw [hset']
   refine aU (.cons_cons _ (.cons_cons _ (.cons _ (.refl _)))) (bQ (by kernel_rfl) ?_)
   exact dF hK ⟨rfl, rfl, rfl, rfl, rfl, rfl, rfl, rfl, trivial⟩ (.refl _)
 skip
 refine Tr.keep (env' := [(3, _), (4, _), (5, _), (6, _), (25, _), (26, _), (27, _)]) ⟨rfl, rfl, rfl, rfl, rfl, rfl, rfl, trivial⟩ (cX (aB (aA (tv (cC rfl rfl (by omega)) (tv (aC rfl) ?_)))))
 refine aF (Tr.keep (env' := [(3, _), (4, _), (5, _), (6, _), (25, _), (26, _), (27, _)]) ⟨rfl, rfl, rfl, rfl, rfl, rfl, rfl, trivial⟩ (aB (cR (aE (aA ?_)))))
 refine tv (dI rfl rfl) (aF (Tr.keep (env' := [(3, _), (4, _), (5, _), (6, _), (25, _), (26, _), (27, _), (28, _)]) ⟨rfl, rfl, rfl, rfl, rfl, rfl, rfl, rfl, trivial⟩ (aB (aE (bI rfl ?_)))))
 refine aO (aB (aE (aX (aE (aA ?_)))))
 refine tv (dE (j := 1) Tryz.underlying56 dP rfl rfl rfl (by decide)) (tv (aY eY rfl (bL (n := 7) (vs := [_, _, _, _, _, _, _]) (.tail _ (.tail _ (.tail _ (.tail _ (.head _))))) rfl) rfl) (te (bO gW (l := [.int .i64 0, .int .i64 0, .int .i64 0, .int .i64 0, .int .i64 0, .int .i64 0, .int .i64 0]) rfl rfl fun b8 => (te (bJ dP rfl rfl (vs := [_, _, _, _, _, _, _]) rfl rfl (by simp [Value.oneCell']) (.cons .zero (.cons (.succ .zero) (.cons (.succ (.succ .zero)) (.cons (.succ (.succ (.succ .zero))) (.cons (.succ (.succ (.succ (.succ .zero)))) (.cons (.succ (.succ (.succ (.succ (.succ .zero))))) (.cons (.succ (.succ (.succ (.succ (.succ (.succ .zero)))))) .nil))))))) .here (aF (Tr.keep (env' := [(3, _), (4, _), (5, _), (6, _), (8, _), (25, _), (26, _), (27, _)]) ⟨rfl, rfl, rfl, rfl, rfl, rfl, rfl, rfl, trivial⟩ ?_)))))))
 refine aB (aE (aA (tv (aI iS rfl) (tv (aG bB rfl (aK (.head _) rfl)) (tv (aG bB rfl (aK (.tail _ (.tail _ (.tail _ (.tail _ (.tail _ (.tail _ (.head _))))))) rfl)) ?_)))))
 refine tv (iF rfl rfl) (aF (Tr.keep (env' := [(3, _), (4, _), (5, _), (6, _), (8, _), (25, _), (26, _), (27, _), (34, _)]) ⟨rfl, rfl, rfl, rfl, rfl, rfl, rfl, rfl, rfl, trivial⟩ (aB (bI rfl (Tr.keep (env' := [(3, _), (4, _), (5, _), (6, _), (8, _), (25, _), (26, _), (27, _)]) ⟨rfl, rfl, rfl, rfl, rfl, rfl, rfl, rfl, trivial⟩ ?_)))))
 refine Tr.keep (env' := [(3, _), (4, _), (5, _), (6, _), (8, _), (25, _), (26, _), (27, _)]) ⟨rfl, rfl, rfl, rfl, rfl, rfl, rfl, rfl, trivial⟩ ?_
 refine bE8 [] (y := kE b21 yX (fO (0, 1) (.int .i64 1) (fO (0, 0) (.int .i64 1) []))) (.there (.there (.there .here))) ?_ ?_
 ·intro K hK
  refine dV (.cons_cons _ (.cons_cons _ (.cons_cons _ (.cons _ (.refl _))))) cK rfl (dv 0 rfl (.cons_cons _ (.cons_cons _ (.cons_cons _ (.cons _ (.refl _))))) (aG aF7 rfl (aK (.tail _ (.tail _ (.head _))) rfl)) (dv 1 rfl (.cons_cons _ (.cons_cons _ (.cons_cons _ (.cons _ (.refl _))))) (aI jL rfl) (dv 2 rfl (.cons_cons _ (.cons_cons _ (.cons_cons _ (.cons _ (.refl _))))) (aG bB rfl (aK (.head _) rfl)) (dv 3 rfl (.cons_cons _ (.cons_cons _ (.cons_cons _ (.cons _ (.refl _))))) (aI jM rfl) (dv 4 rfl (.cons_cons _ (.cons_cons _ (.cons_cons _ (.cons _ (.refl _))))) (aG bB rfl (aK (.head _) rfl)) ?_)))))
  refine dv 5 rfl (.cons_cons _ (.cons_cons _ (.cons_cons _ (.cons _ (.refl _))))) (bU rfl (v := yX (0, 1)) (fun w => by kernel_rfl)) ?_
  refine gP 6 8 rfl rfl  rfl rfl  (by kernel_rfl) ?_ ?_
  ·refine (iK (fF (v' := .int .i64 0) (fK ((0, 1)) Tryz.underlying262 jA eQ rfl rfl (.tail _ (.tail _ (.tail _ (.head _))))) rfl) rfl (aU (.cons_cons _ (.cons_cons _ (.cons_cons _ (.cons _ (.refl _))))) (dv 7 rfl (.cons_cons _ (.cons_cons _ (.cons_cons _ (.cons _ (.refl _))))) (cC rfl rfl (by omega)) (de 8 rfl (mM (a := (0, 1)) Tryz.underlying262 jA eQ rfl rfl rfl (fun _ => (.there (.there (.there .here)))) fun l' j' u' hj' hu' hmg' hset' => (aU (.cons_cons _ (.cons_cons _ (.cons_cons _ (.cons _ (.refl _))))) (dv 9 rfl (.cons_cons _ (.cons_cons _ (.cons_cons _ (.cons _ (.refl _))))) (bA rfl rfl) ?_)))))))
   refine de 10 rfl (lN rfl rfl rfl hj' (.there (.there (.there .here))) ?_)
   rw [hset']
   refine aU (.cons_cons _ (.cons_cons _ (.cons_cons _ (.cons _ (.refl _))))) (bQ (by kernel_rfl) ?_)
   exact dF hK ⟨rfl, rfl, rfl, rfl, rfl, rfl, rfl, rfl, trivial⟩ (.refl _)
  ·refine (mM (a := (0, 1)) Tryz.underlying262 jA eQ rfl rfl rfl (fun _ => (.there (.there (.there .here)))) fun l' j' u' hj' hu' hmg' hset' => (aU (.cons_cons _ (.cons_cons _ (.cons_cons _ (.cons _ (.refl _))))) (dv 9 rfl (.cons_cons _ (.cons_cons _ (.cons_cons _ (.cons _ (.refl _))))) (bA rfl rfl) (de 6 rfl (iK (fF (v' := .int .i64 0) (fK ((0, 1)) Tryz.underlying262 jA eQ rfl rfl (.tail _ (.tail _ (.tail _ (.head _))))) (by rw [hmg', hu']; rfl)) rfl (aU (.cons_cons _ (.cons_cons _ (.cons_cons _ (.cons _ (.refl _))))) (dv 7 rfl (.cons_cons _ (.cons_cons _ (.cons_cons _ (.cons _ (.refl _))))) (cC rfl rfl (by omega)) ?_)))))))
   refine de 10 rfl (lN rfl rfl rfl hj' (.there (.there (.there .here))) ?_)
   rw [hset']
   refine aU (.cons_cons _ (.cons_cons _ (.cons_cons _ (.cons _ (.refl _))))) (bQ (by kernel_rfl) ?_)
   exact dF hK ⟨rfl, rfl, rfl, rfl, rfl, rfl, rfl, rfl, trivial⟩ (.refl _)
 skip
 refine Tr.keep (env' := [(3, _), (4, _), (5, _), (6, _), (25, _), (26, _), (27, _)]) ⟨rfl, rfl, rfl, rfl, rfl, rfl, rfl, trivial⟩ (cX (aB (aA (tv (cC rfl rfl (by omega)) (tv (aC rfl) ?_)))))
 refine aF (Tr.keep (env' := [(3, _), (4, _), (5, _), (6, _), (25, _), (26, _), (27, _)]) ⟨rfl, rfl, rfl, rfl, rfl, rfl, rfl, trivial⟩ (aB (cR (aE (aA ?_)))))
 refine tv (dI rfl rfl) (aF (Tr.keep (env' := [(3, _), (4, _), (5, _), (6, _), (25, _), (26, _), (27, _), (28, _)]) ⟨rfl, rfl, rfl, rfl, rfl, rfl, rfl, rfl, trivial⟩ (aB (aE (aR rfl ?_)))))
 refine cY (aS (aS (bX (aB (aE ?_)))))
 refine aA (te (gQ (yX) rfl fun b46 => (te (bO inf_265 (l := [.map none]) rfl rfl fun b9 => (te (bR iz_265 rfl rfl rfl .zero .here (aF (Tr.keep (env' := [(3, _), (4, _), (5, _), (6, _), (9, _)]) ⟨rfl, rfl, rfl, rfl, rfl, trivial⟩ ?_))))))))
 refine aB (aE (aE (aA (tv (aC rfl) (tv (aM rfl) ?_)))))
 refine tv (aI oQ rfl) (tv (aG uE rfl (aK (.tail _ (.tail _ (.tail _ (.tail _ (.tail _ (.tail _ (.head _))))))) rfl)) (te (bP en_154 rfl rfl rfl rfl (aP2 _ rfl) fun bb _ => (aF (Tr.keep (env' := [(3, _), (4, _), (5, _), (6, _), (9, _), (51, _)]) ⟨rfl, rfl, rfl, rfl, rfl, rfl, trivial⟩ (aB ?_))))))
 refine aX (Tr.keep (env' := [(3, _), (5, _), (6, _), (9, _), (51, _)]) ⟨rfl, rfl, rfl, rfl, rfl, trivial⟩ ?_)
 refine jJ rfl en_213 (bD7) (fun _ => rfl) (by decide) ([(1, R2, 302000), (0, R1, 2000)]) (fun _ _ => True) (fun _ : Unit => _) (()) (trivial) rfl ?_ ?_ ?_
 ·exact fun l r Fr hy => aC7 (σ := Unit) (fun _ => (.head _)) (fun _ => (.tail _ (.tail _ (.tail _ (.tail _ (.tail _ (.tail _ (.tail _ (.tail _ (.head _)))))))))) hy () trivial
 ·intro l' rr Fr pre x post hx s hs
  have hk : x.2.1.kind = 1 := by
   have : x ∈ [((1 : Int), R2, (302000 : Int)), (0, R1, 2000)] := hx ▸ (by simp)
   simp at this
   rcases this with rfl | rfl <;> rfl
  refine Tr.keep (env' := [(3, _), (6, _), (9, _), (53, _)]) ⟨rfl, rfl, rfl, rfl, trivial⟩ (eE (gR rfl (bO gW (l := [.int .i64 0, .int .i64 0, .int .i64 0, .int .i64 0, .int .i64 0, .int .i64 0, .int .i64 0]) rfl rfl fun b11 => (gR rfl (bJ dP rfl rfl (vs := [_, _, _, _, _, _, _]) rfl rfl (by simp [Value.oneCell']) (.cons .zero (.cons (.succ .zero) (.cons (.succ (.succ .zero)) (.cons (.succ (.succ (.succ .zero))) (.cons (.succ (.succ (.succ (.succ .zero)))) (.cons (.succ (.succ (.succ (.succ (.succ .zero))))) (.cons (.succ (.succ (.succ (.succ (.succ (.succ .zero)))))) .nil))))))) .here (fZ (Tr.keep (env' := [(3, _), (6, _), (9, _), (11, _), (53, _)]) ⟨rfl, rfl, rfl, rfl, rfl, trivial⟩ ?_)))))))
  refine aB (oB (.there .here) (nZ (pT (eE (cJ (aI jL rfl) rfl ?_)))))
  refine cJ (aG bB rfl (aK (.head _) rfl)) rfl (cJ (aI jM rfl) rfl (cJ (aG bB rfl (aK (.head _) rfl)) rfl (cJ (bU rfl (v := yX (x.2.1.source, x.2.1.number)) (fun w => by kernel_rfl)) rfl (gR rfl (bO aF9 (l := [.int .i64 0, .int .i64 0]) rfl rfl fun b12 => (gR rfl (bJ aR0 rfl rfl (vs := [_, _]) rfl rfl (by simp [Value.oneCell']) (.cons .zero (.cons (.succ .zero) .nil)) .here ?_)))))))
  refine fZ (Tr.keep (env' := [(3, _), (6, _), (9, _), (11, _), (12, _)]) ⟨rfl, rfl, rfl, rfl, rfl, trivial⟩ (aB (pT (eE (cJ (aI iR rfl) rfl ?_)))))
  refine cJ (aG pM rfl (aK (.tail _ (.head _)) rfl)) rfl (cJ (fF (v' := .bool false) (cW rfl rfl) (by rw [hk]; rfl)) rfl (cJ (aC rfl) rfl (jD rfl rfl rfl rfl (jD rfl rfl rfl rfl (jD rfl rfl rfl rfl ?_)))))
  refine jD rfl rfl rfl rfl (cJ (bS rfl rfl) rfl (cJ (aC rfl) rfl (jD rfl rfl rfl rfl (jD rfl rfl rfl rfl (jD rfl rfl rfl rfl ?_)))))
  refine jD rfl rfl rfl rfl (cJ (bS rfl rfl) rfl (cJ (aC rfl) rfl (jD rfl rfl rfl rfl (jD rfl rfl rfl rfl (jD rfl rfl rfl rfl ?_)))))
  refine jD rfl rfl rfl rfl (cJ (bS rfl rfl) rfl (fZ (Tr.keep (env' := [(9, _), (11, _), (79, _)]) ⟨rfl, rfl, rfl, trivial⟩ (aB (bJ0 rfl ?_)))))
  refine vV (cX (fV (.there (.there .here)) (fun w hw => ?_)))
  exact ⟨rfl, (), trivial, Ok.sub (hw.perm (pk (.there (.there .here)) (.refl _))) (.cons_cons _ (.cons _ (.cons _ (.refl _))))⟩
 ·intro DD s hs
  refine cX (aB (aE (aE (aA (tv (aC rfl) ?_)))))
  refine tv (aM rfl) (tv (aI oQ rfl) (tv (aG uE rfl (aK (.tail _ (.tail _ (.tail _ (.tail _ (.tail _ (.tail _ (.tail _ (.tail _ (.head _))))))))) rfl)) (tv (aP Tryz.underlying56 rfl) (tv (aC rfl) (aF ?_)))))
  refine Tr.keep (env' := [(3, _), (5, _), (6, _), (9, _), (89, _), (90, _), (91, _)]) ⟨rfl, rfl, rfl, rfl, rfl, rfl, rfl, trivial⟩ (aB (aX (eN (cR (aE ?_)))))
  refine aA (tv (dI rfl rfl) (aF (Tr.keep (env' := [(3, _), (5, _), (6, _), (9, _), (89, _), (90, _), (91, _), (92, _)]) ⟨rfl, rfl, rfl, rfl, rfl, rfl, rfl, rfl, trivial⟩ (aB (aE ?_)))))
  refine bI rfl (aO (aB (aE (aX (aE ?_)))))
  refine aA (tv (aC rfl) (tv (dE (j := 0) Tryz.underlying56 dP rfl rfl rfl (by decide)) (tv (aY eY rfl (bL (n := 7) (vs := [_, _, _, _, _, _, _]) (.tail _ (.tail _ (.tail _ (.tail _ (.tail _ (.tail _ (.tail _ (.tail _ (.tail _ (.head _)))))))))) rfl) rfl) (te (bO gW (l := [.int .i64 0, .int .i64 0, .int .i64 0, .int .i64 0, .int .i64 0, .int .i64 0, .int .i64 0]) rfl rfl fun b14 => (tv (aD rfl) ?_))))))
  refine te (bJ dP rfl rfl (vs := [_, _, _, _, _, _, _]) rfl rfl (by simp [Value.oneCell']) (.cons .zero (.cons (.succ .zero) (.cons (.succ (.succ .zero)) (.cons (.succ (.succ (.succ .zero))) (.cons (.succ (.succ (.succ (.succ .zero)))) (.cons (.succ (.succ (.succ (.succ (.succ .zero))))) (.cons (.succ (.succ (.succ (.succ (.succ (.succ .zero)))))) .nil))))))) .here (aF (Tr.keep (env' := [(3, _), (5, _), (6, _), (9, _), (13, _), (14, _), (89, _), (90, _), (91, _)]) ⟨rfl, rfl, rfl, rfl, rfl, rfl, rfl, rfl, rfl, trivial⟩ (aB (aE (aA ?_))))))
  refine tv (aI jL rfl) (tv (aG bB rfl (aK (.head _) rfl)) (tv (aI jM rfl) (tv (aG bB rfl (aK (.head _) rfl)) (tv (bU rfl (v := yX (0, 0)) (fun w => by kernel_rfl)) (te (bO aF9 (l := [.int .i64 0, .int .i64 0]) rfl rfl fun b15 => ?_))))))
  refine te (bJ aR0 rfl rfl (vs := [_, _]) rfl rfl (by simp [Value.oneCell']) (.cons .zero (.cons (.succ .zero) .nil)) .here (aF (Tr.keep (env' := [(3, _), (5, _), (6, _), (9, _), (13, _), (14, _), (15, _), (89, _), (90, _), (91, _)]) ⟨rfl, rfl, rfl, rfl, rfl, rfl, rfl, rfl, rfl, rfl, trivial⟩ (aB (aE (aA ?_))))))
  refine tv (aI iS rfl) (tv (aG bB rfl (aK (.tail _ (.head _)) rfl)) (tv (aG bB rfl (aK (.tail _ (.tail _ (.tail _ (.tail _ (.tail _ (.tail _ (.tail _ (.tail _ (.tail _ (.tail _ (.tail _ (.tail _ (.head _))))))))))))) rfl)) (tv (iF rfl rfl) (tv (aC rfl) (cV rfl rfl (aG aF7 rfl (aK (.tail _ (.tail _ (.tail _ (.tail _ (.tail _ (.tail _ (.tail _ (.tail _ (.head _))))))))) rfl)) ?_)))))
  refine cV rfl rfl (aY aF8 rfl (bL (n := 2) (vs := [_, _]) (.head _) rfl) rfl) (cV rfl rfl (fF (v' := .int .i64 1) (fK ((0, 0)) Tryz.underlying262 jA eQ rfl rfl (.tail _ (.tail _ (.tail _ (.tail _ (.tail _ (.tail _ (.tail _ (.tail _ (.tail _ (.head _))))))))))) rfl) (cV rfl rfl (cW rfl rfl) (tv (cG rfl rfl) (tv (aC rfl) (cV rfl rfl (aG bF9 rfl (aK (.tail _ (.tail _ (.tail _ (.tail _ (.head _))))) rfl)) ?_)))))
  refine cV rfl rfl (aY aF8 rfl (bL (n := 2) (vs := [_, _]) (.head _) rfl) rfl) (cV rfl rfl (fF (v' := .bool false) (fK ((0, 0)) Tryz.underlying265 jA inf_4 rfl rfl (.tail _ (.tail _ (.tail _ (.tail _ (.tail _ (.head _))))))) rfl) (cV rfl rfl (bF rfl) (tv (cG rfl rfl) (aF (Tr.keep (env' := [(3, _), (5, _), (6, _), (9, _), (13, _), (89, _), (90, _), (91, _), (116, _)]) ⟨rfl, rfl, rfl, rfl, rfl, rfl, rfl, rfl, rfl, trivial⟩ ?_)))))
  refine aB (bI rfl (aA (tv (aC rfl) (tv (aC rfl) (tv (aM rfl) ?_)))))
  refine tv (aI oR rfl) (tv (aG dQ rfl (aK (.tail _ (.tail _ (.tail _ (.tail _ (.tail _ (.tail _ (.tail _ (.tail _ (.tail _ (.tail _ (.head _))))))))))) rfl)) (tv (aC rfl) (te (bN (E := 3) (l := [.int .i64 0]) rfl (fun w => by kernel_rfl) rfl fun b123 => (te (fN Tryz.underlying24 eQ rfl (by decide) rfl rfl (Own.nil 3 1) (.refl _) rfl (by simp [Value.oneCell']) (by decide) (by decide) rfl fun v1 E1 hO1 => (tv (aM rfl) ?_)))))))
  refine tv (aI oR rfl) (te (bR lG rfl rfl (Own.one (by assumption)) (.succ (.succ .zero)) (.right (.there (.there (.there (.there (.there (.there (.there (.there (.there (.there .here))))))))))) (aF (Tr.keep (env' := [(3, _), (5, _), (6, _), (9, _), (89, _), (90, _), (91, _)]) ⟨rfl, rfl, rfl, rfl, rfl, rfl, rfl, trivial⟩ (cX (aB ?_))))))
  refine aA (tv (cC rfl rfl (by omega)) (tv (aC rfl) (aF (Tr.keep (env' := [(3, _), (5, _), (6, _), (9, _), (89, _), (90, _), (91, _)]) ⟨rfl, rfl, rfl, rfl, rfl, rfl, rfl, trivial⟩ (aB ?_)))))
  refine cR (aE (aA (tv (dI rfl rfl) (aF (Tr.keep (env' := [(3, _), (5, _), (6, _), (9, _), (89, _), (90, _), (91, _), (92, _)]) ⟨rfl, rfl, rfl, rfl, rfl, rfl, rfl, rfl, trivial⟩ ?_)))))
  refine aB (aE (bI rfl (aO (aB (aE ?_)))))
  refine aX (aE (aA (tv (aC rfl) (tv (dE (j := 1) Tryz.underlying56 dP rfl rfl rfl (by decide)) (tv (aY eY rfl (bL (n := 7) (vs := [_, _, _, _, _, _, _]) (List.mem_append_right _ (.tail _ (.tail _ (.tail _ (.tail _ (.tail _ (.tail _ (.tail _ (.tail _ (.tail _ (.tail _ (.tail _ (.head _))))))))))))) rfl) rfl) ?_)))))
  refine te (bO gW (l := [.int .i64 0, .int .i64 0, .int .i64 0, .int .i64 0, .int .i64 0, .int .i64 0, .int .i64 0]) rfl rfl fun b14 => (tv (aD rfl) (te (bJ dP rfl rfl (vs := [_, _, _, _, _, _, _]) rfl rfl (by simp [Value.oneCell']) (.cons .zero (.cons (.succ .zero) (.cons (.succ (.succ .zero)) (.cons (.succ (.succ (.succ .zero))) (.cons (.succ (.succ (.succ (.succ .zero)))) (.cons (.succ (.succ (.succ (.succ (.succ .zero))))) (.cons (.succ (.succ (.succ (.succ (.succ (.succ .zero)))))) .nil))))))) .here (aF (Tr.keep (env' := [(3, _), (5, _), (6, _), (9, _), (13, _), (14, _), (89, _), (90, _), (91, _)]) ⟨rfl, rfl, rfl, rfl, rfl, rfl, rfl, rfl, rfl, trivial⟩ (aB ?_)))))))
  refine aE (aA (tv (aI jL rfl) (tv (aG bB rfl (aK (.head _) rfl)) (tv (aI jM rfl) (tv (aG bB rfl (aK (.head _) rfl)) ?_)))))
  refine tv (bU rfl (v := yX (0, 1)) (fun w => by kernel_rfl)) (te (bO aF9 (l := [.int .i64 0, .int .i64 0]) rfl rfl fun b15 => (te (bJ aR0 rfl rfl (vs := [_, _]) rfl rfl (by simp [Value.oneCell']) (.cons .zero (.cons (.succ .zero) .nil)) .here (aF (Tr.keep (env' := [(3, _), (5, _), (6, _), (9, _), (13, _), (14, _), (15, _), (89, _), (90, _), (91, _)]) ⟨rfl, rfl, rfl, rfl, rfl, rfl, rfl, rfl, rfl, rfl, trivial⟩ (aB ?_)))))))
  refine aE (aA (tv (aI iS rfl) (tv (aG bB rfl (aK (.tail _ (.head _)) rfl)) (tv (aG bB rfl (aK (.tail _ (.tail _ (List.mem_append_right _ (.tail _ (.tail _ (.tail _ (.tail _ (.tail _ (.tail _ (.tail _ (.tail _ (.tail _ (.tail _ (.tail _ (.tail _ (.head _)))))))))))))))) rfl)) (tv (iF rfl rfl) ?_)))))
  refine tv (aC rfl) (cV rfl rfl (aG aF7 rfl (aK (.tail _ (.tail _ (List.mem_append_right _ (.tail _ (.tail _ (.tail _ (.tail _ (.tail _ (.tail _ (.tail _ (.tail _ (.head _)))))))))))) rfl)) (cV rfl rfl (aY aF8 rfl (bL (n := 2) (vs := [_, _]) (.head _) rfl) rfl) (cV rfl rfl (fF (v' := .int .i64 1) (fK ((0, 1)) Tryz.underlying262 jA eQ rfl rfl (.tail _ (.tail _ (List.mem_append_right _ (.tail _ (.tail _ (.tail _ (.tail _ (.tail _ (.tail _ (.tail _ (.tail _ (.tail _ (.head _)))))))))))))) rfl) (cV rfl rfl (cW rfl rfl) (tv (cG rfl rfl) ?_)))))
  refine tv (aC rfl) (cV rfl rfl (aG bF9 rfl (aK (.tail _ (.tail _ (List.mem_append_right _ (.tail _ (.tail _ (.tail _ (.tail _ (.head _)))))))) rfl)) (cV rfl rfl (aY aF8 rfl (bL (n := 2) (vs := [_, _]) (.head _) rfl) rfl) (cV rfl rfl (fF (v' := .bool false) (fK ((0, 1)) Tryz.underlying265 jA inf_4 rfl rfl (.tail _ (.tail _ (List.mem_append_right _ (.tail _ (.tail _ (.tail _ (.tail _ (.tail _ (.head _)))))))))) rfl) (cV rfl rfl (bF rfl) (tv (cG rfl rfl) ?_)))))
  refine aF (Tr.keep (env' := [(3, _), (5, _), (6, _), (9, _), (13, _), (89, _), (90, _), (91, _), (116, _)]) ⟨rfl, rfl, rfl, rfl, rfl, rfl, rfl, rfl, rfl, trivial⟩ (aB (bI rfl (aA (tv (aC rfl) ?_)))))
  refine tv (aC rfl) (tv (aM rfl) (tv (aI oR rfl) (tv (aG dQ rfl (aK (.tail _ (.tail _ (List.mem_append_right _ (.tail _ (.tail _ (.tail _ (.tail _ (.tail _ (.tail _ (.tail _ (.tail _ (.tail _ (.tail _ (.head _)))))))))))))) rfl)) (tv (aC rfl) (te (bN (E := 3) (l := [.int .i64 1]) rfl (fun w => by kernel_rfl) rfl fun b123 => ?_))))))
  refine te (fN Tryz.underlying24 eQ rfl (by decide) rfl rfl hO1 (pk .here (mH (.there (.there .here)) (.refl _))) rfl (by simp [Value.oneCell']) (by decide) (by decide) rfl fun v2 E2 hO2 => (tv (aM rfl) (tv (aI oR rfl) (te (bR lG rfl rfl (Own.one (by assumption)) (.succ (.succ .zero)) (.right (.there (.there (.there (.there (.there (.there (.there (.there (.there (.there (.there (.there .here))))))))))))) (aF (Tr.keep (env' := [(3, _), (5, _), (6, _), (9, _), (89, _), (90, _), (91, _)]) ⟨rfl, rfl, rfl, rfl, rfl, rfl, rfl, trivial⟩ ?_)))))))
  refine cX (aB (aA (tv (cC rfl rfl (by omega)) (tv (aC rfl) (aF ?_)))))
  refine Tr.keep (env' := [(3, _), (5, _), (6, _), (9, _), (89, _), (90, _), (91, _)]) ⟨rfl, rfl, rfl, rfl, rfl, rfl, rfl, trivial⟩ (aB (cR (aE (aA (tv (dI rfl rfl) ?_)))))
  refine aF (Tr.keep (env' := [(3, _), (5, _), (6, _), (9, _), (89, _), (90, _), (91, _), (92, _)]) ⟨rfl, rfl, rfl, rfl, rfl, rfl, rfl, rfl, trivial⟩ (aB (aE (aR rfl (cY ?_)))))
  refine aS (aS (bX (aB (aE (aA ?_)))))
  refine tv (aC rfl) (tv (aD rfl) (aF (Tr.keep (env' := [(4, _)]) ⟨rfl, trivial⟩ (aB (aQ ?_)))))
  refine vW rfl rfl (pk (.right (.there (.there (.there (.there .here))))) (.refl _)) (fun w hw => ?_)
  have hO3 : Own 3 1 v2 [[.int .i64 0], [.int .i64 1]] E2 := hO2
  obtain ⟨ib, c2, si, rfl, rfl⟩ := aZ2 hO3
  simp only [List.singleton_append] at hw
  exact ⟨⟨b20, db, c, ib, c2, sp, si⟩, rfl, trivial, Ok.sub (hw.perm (pk (.there (.there (.there (.there (.there (.there (.there (.there (.there (.there (.there (.there .here)))))))))))) (pk (.there (.there (.there (.there (.there (.there (.there (.there (.there (.there (.there (.there .here)))))))))))) (pk .here (.refl _))))) (.cons_cons _ (.cons_cons _ (.cons_cons _ (.cons _ (.cons _ (.cons _ (.cons _ (.cons _ (.cons _ (.cons _ (.cons _ (.cons _ (.cons _ (.cons _ (.cons _ (.refl _))))))))))))))))⟩
end
end Go.Proofs.W
set_option linter.unusedVariables false
set_option linter.unusedSimpArgs false
set_option linter.unusedSectionVars false
set_option maxRecDepth 100000
namespace Go.Proofs.W
open Go Go.Sl Go.RowKit Go.Proofs
attribute [local irreducible] Go.Sl.Eff
theorem bG2 : aV Tryz.prog 155 := aL Tryz.func155 (by kernel_rfl) (by kernel_rfl)
theorem bG3 : aV Tryz.prog 156 := aL Tryz.func156 (by kernel_rfl) (by kernel_rfl)
theorem bG4 : aV Tryz.prog 214 := aL Tryz.func214 (by kernel_rfl) (by kernel_rfl)
theorem aG0 : (Tryz.prog.info? 24).map (fun i => (i.zero, i.size, i.bytes)) = some (some ((.slice none 0 0)), 1, 24) := by kernel_rfl
def yY (p : Int) (x : aV2) : Bool := (x.2.1.kind == 1) && (x.2.1.place == p)
theorem zW {v x : Value} {E : List Ent} (h : Own 3 1 v [[x]] E) : ∃ b c si, v = .slice (some ⟨b, 0, none⟩) 1 c ∧ E = [cel b 3 (x :: si)] := by
 rcases h.sh with ⟨_, h0, _⟩ | ⟨b, c, l, rfl, rfl, h2, h3, h4, h5⟩
 ·simp at h0
 ·simp at h3 h5
  refine ⟨b, c, l.drop 1, rfl, ?_⟩
  have hl : l = x :: l.drop 1 := by
   conv => lhs; rw [← List.take_append_drop 1 l, h5]
   simp [bT]
  rw [← hl]
section
variable {w0 : World} {M : List Ent}
theorem of_c (vb : Nat) (car : Int) : ∀ w, Ok w0 M w → Calls Tryz.prog 155 #[.pointer (some ⟨vb, 0, none⟩), .int .i64 car] w (fun e w' => ∃ b : Nat × Nat, e = .returned (.func (.func 214) #[] #[.pointer (some ⟨b.1, 0, none⟩), .pointer (some ⟨b.2, 0, none⟩)]) ∧ True ∧
  Ok w0 (cel b.2 3 [.int .i64 car] :: cel b.1 191 [.pointer (some ⟨vb, 0, none⟩)] :: M) w') := by
 refine enter (vs := [_, _]) Tryz.func155 rfl Tryz.ntmps155 rfl (aE (aA (te (eL rfl rfl rfl fun b2 => (te (eL rfl rfl rfl fun b3 => (tv (aD rfl) ?_)))))))
 refine aF (Tr.keep (env' := [(2, _), (3, _)]) ⟨rfl, rfl, trivial⟩ (aB (aE (aA (tv (bG rfl rfl) ?_)))))
 refine tv (aD rfl) (aF (Tr.keep (env' := [(4, _)]) ⟨rfl, trivial⟩ (aB (aQ (aW rfl rfl (fun w hw => ?_))))))
 exact ⟨(b2, b3), rfl, trivial, hw⟩
theorem zX {ab c : Nat} {x : Int} {sa : List Value} {F : Value} (ha : cel ab 3 (.int .i64 x :: sa) ∈ M) : ∀ w, Ok w0 M w → Calls Tryz.prog 156 #[.slice (some ⟨ab, 0, none⟩) 1 c, F] w (fun e w' => e = .returned (.tuple #[.int .i64 x, .bool true]) ∧ Ok w0 M w') := by
 refine enter (vs := [_, _]) Tryz.func156 rfl Tryz.ntmps156 rfl (aE (aA (tv (aD rfl) (tv (aD rfl) (aF ?_)))))
 refine Tr.keep (env' := [(0, _), (1, _)]) ⟨rfl, rfl, trivial⟩ (aB (aE (aA (tv (aD rfl) (aF ?_)))))
 refine Tr.keep (env' := [(0, _), (1, _), (6, _)]) ⟨rfl, rfl, rfl, trivial⟩ (aB (aE (aE (aA (tv (aC rfl) ?_)))))
 refine tv (aP Tryz.underlying24 rfl) (tv (aC rfl) (aF (Tr.keep (env' := [(0, _), (1, _), (6, _), (9, _), (10, _), (11, _)]) ⟨rfl, rfl, rfl, rfl, rfl, rfl, trivial⟩ (aB (aX ?_)))))
 refine eN (cR (aE (aA (tv (dI rfl rfl) (aF ?_)))))
 refine Tr.keep (env' := [(0, _), (1, _), (6, _), (9, _), (10, _), (11, _), (12, _)]) ⟨rfl, rfl, rfl, rfl, rfl, rfl, rfl, trivial⟩ (aB (aE (bI rfl (aO (aB ?_)))))
 refine aE (aX (aE (aA (tv (aC rfl) (tv (dE (j := 0) Tryz.underlying24 eR rfl rfl rfl (by decide)) ?_)))))
 refine tv (aG bB rfl (aK ha rfl)) (tv (aD rfl) (tv (aD rfl) (aF (Tr.keep (env' := [(0, _), (1, _), (6, _), (7, _), (8, _), (9, _), (10, _), (11, _)]) ⟨rfl, rfl, rfl, rfl, rfl, rfl, rfl, rfl, trivial⟩ (aB ?_)))))
 refine aE (aA (tv (aC rfl) (tv (cW rfl rfl) (tv (aC rfl) (lM rfl rfl rfl rfl ?_)))))
 refine lM rfl rfl rfl rfl (lM rfl rfl rfl rfl (lM rfl rfl rfl rfl (tv (cG rfl rfl) (aF (Tr.keep (env' := [(0, _), (1, _), (6, _), (8, _), (9, _), (10, _), (11, _), (23, _)]) ⟨rfl, rfl, rfl, rfl, rfl, rfl, rfl, rfl, trivial⟩ ?_)))))
 refine aB (bI rfl (aA (tv (aC rfl) (tv (aD rfl) (aF ?_)))))
 refine Tr.keep (env' := [(0, _), (1, _), (6, _), (9, _), (10, _), (11, _)]) ⟨rfl, rfl, rfl, rfl, rfl, rfl, trivial⟩ (cX (aB (aA (tv (cC rfl rfl (by omega)) (tv (aC rfl) ?_)))))
 refine aF (Tr.keep (env' := [(0, _), (1, _), (6, _), (9, _), (10, _), (11, _)]) ⟨rfl, rfl, rfl, rfl, rfl, rfl, trivial⟩ (aB (cR (aE (aA ?_)))))
 refine tv (dI rfl rfl) (aF (Tr.keep (env' := [(0, _), (1, _), (6, _), (9, _), (10, _), (11, _), (12, _)]) ⟨rfl, rfl, rfl, rfl, rfl, rfl, rfl, trivial⟩ (aB (aE (aR rfl ?_)))))
 refine cY (aS (aS (bX (aB (aE ?_)))))
 refine aA (tv (aC rfl) (tv (aC rfl) (tv (aP Tryz.underlying24 rfl) (tv (fC rfl rfl) (tv (aD rfl) ?_)))))
 refine tv (aD rfl) (aF (Tr.keep (env' := [(4, _), (5, _)]) ⟨rfl, rfl, trivial⟩ (aB (aQ (gG rfl rfl rfl (fun w hw => ?_))))))
 exact ⟨rfl, hw⟩
theorem best_0 {lb : Nat} (x : VAt) (hv : x.ev lb ∈ M) (hd : x.ed ∈ M) (hi : x.ei ∈ M) : ∀ w, Ok w0 M w → Calls Tryz.prog 103 #[.pointer (some ⟨x.vb, 0, none⟩), .int .i64 1, .int .i64 0] w (fun e w' => e = .returned (.int .i64 0) ∧ Ok w0 M w') := by
 refine rA (vs := [_, _, _]) Tryz.func103 rfl Tryz.ntmps103 rfl (tD (aE (aA (te (eL rfl rfl rfl fun b3 => (te (eL rfl rfl rfl fun b5 => ?_)))))))
 refine tv (aD rfl) (aF (Tr.keep (env' := [(1, _), (3, _), (5, _), (6, _)]) ⟨rfl, rfl, rfl, rfl, trivial⟩ (aB (aE (aA ?_)))))
 refine te (bO aG0 (l := [.slice none 0 0]) rfl rfl fun b7 => (aF (Tr.keep (env' := [(1, _), (3, _), (5, _), (6, _), (7, _)]) ⟨rfl, rfl, rfl, rfl, rfl, trivial⟩ (aB (aE (aE ?_))))))
 refine aA (tv (aG wD rfl (aK (.tail _ (.tail _ (.head _))) rfl)) (tv (aC rfl) (te (bP bG2 rfl rfl rfl rfl (of_c _ _) fun bp _ => ?_))))
 obtain ⟨bv, bc⟩ := bp
 dsimp only
 refine aF (Tr.keep (env' := [(3, _), (5, _), (6, _), (7, _), (14, _)]) ⟨rfl, rfl, rfl, rfl, rfl, trivial⟩ (aB (aX (Tr.keep (env' := [(3, _), (5, _), (7, _), (14, _)]) ⟨rfl, rfl, rfl, rfl, trivial⟩ ?_))))
 refine jJ rfl bG4 (bD7) (fun _ => rfl) (by decide) ([(0, R1, 2000), (1, R2, 302000)]) (fun pre (z : Value × List Ent) => Own 3 1 z.1 ((pre.filter (yY 0)).map fun y => encI y.1) z.2) (fun z : Value × List Ent => z.2 ++ (cel bc 3 [.int .i64 1] :: cel bv 191 [.pointer (some ⟨x.vb, 0, none⟩)] :: cel b7 24 [z.1] :: cel b5 3 [.int .i64 0] :: cel b3 191 [.pointer (some ⟨x.vb, 0, none⟩)] :: M)) ((.slice none 0 0, [])) (Own.nil _ _) rfl ?_ ?_ ?_
 ·exact fun l r Fr hy => bD8 (σ := Value × List Ent) (fun _ => (List.mem_append_right _ (.tail _ (.head _)))) (fun _ => (List.mem_append_right _ (.head _))) (fun _ => (List.mem_append_right _ (.tail _ (.tail _ (.tail _ (.tail _ (.tail _ hv))))))) (fun _ => (List.mem_append_right _ (.tail _ (.tail _ (.tail _ (.tail _ (.tail _ hd))))))) (fun _ => (List.mem_append_right _ (.tail _ (.tail _ (.tail _ (.tail _ (.tail _ hi))))))) hy (.slice none 0 0, []) (Own.nil _ _)
 ·intro l rr Fr pre y post hx z hz
  obtain ⟨v, E⟩ := z
  dsimp only at hz ⊢
  have hbb : ((pre.filter (yY 0)).map fun y => encI y.1).length ≤ 2 := by
   have h8 := List.length_filter_le (yY 0) pre
   have h9 : pre.length ≤ 2 := by have := congrArg List.length hx; simp at this; omega
   rw [List.length_map]; omega
  refine Tr.keep (env' := [(5, _), (7, _), (15, _), (16, _)]) ⟨rfl, rfl, rfl, rfl, trivial⟩ (pT (eE (cJ (aD rfl) rfl (fZ (Tr.keep (env' := [(5, _), (7, _), (8, _), (15, _), (16, _)]) ⟨rfl, rfl, rfl, rfl, rfl, trivial⟩ ?_)))))
  refine aB (eE (gR rfl (bO gW (l := [.int .i64 0, .int .i64 0, .int .i64 0, .int .i64 0, .int .i64 0, .int .i64 0, .int .i64 0]) rfl rfl fun b9 => (gR rfl (bJ dP rfl rfl (vs := [_, _, _, _, _, _, _]) rfl rfl (by simp [Value.oneCell']) (.cons .zero (.cons (.succ .zero) (.cons (.succ (.succ .zero)) (.cons (.succ (.succ (.succ .zero))) (.cons (.succ (.succ (.succ (.succ .zero)))) (.cons (.succ (.succ (.succ (.succ (.succ .zero))))) (.cons (.succ (.succ (.succ (.succ (.succ (.succ .zero)))))) .nil))))))) .here (fZ (Tr.keep (env' := [(5, _), (7, _), (8, _), (9, _), (15, _), (16, _)]) ⟨rfl, rfl, rfl, rfl, rfl, rfl, trivial⟩ ?_)))))))
  refine aB (oB (.there .here) (nZ (pT (eE (cJ (aI iR rfl) rfl ?_)))))
  refine cJ (aG pM rfl (aK (.head _) rfl)) rfl (cJ (cW rfl rfl) rfl (cJ (aC rfl) rfl ?_))
  apply uP 5 (s := 20) (d := 25) rfl
  ·intro hg1 K hK
   refine nW hg1 rfl rfl (aI lW rfl) rfl (nW hg1 rfl rfl (aG bB rfl (aK (.head _) rfl)) rfl (nW hg1 rfl rfl (aG bB rfl (aK (.tail _ (.tail _ (List.mem_append_right _ (List.mem_append_right _ (.tail _ (.tail _ (.tail _ (.head _)))))))) rfl)) rfl (nW hg1 rfl rfl (cW rfl rfl) rfl (cJ (bV hg1 rfl rfl) rfl ?_))))
   iterate 4 refine Tr.weak2 rfl ?_
   exact hK _ (dT hg1)
  ·intro hg1 K hK
   refine lO hg1 rfl rfl rfl rfl (lO hg1 rfl rfl rfl rfl (lO hg1 rfl rfl rfl rfl (lO hg1 rfl rfl rfl rfl (cJ (bW hg1 rfl rfl) rfl ?_))))
   iterate 4 refine Tr.weak2 rfl ?_
   exact hK _ (dU hg1)
  refine fZ (Tr.keep (env' := [(7, _), (8, _), (25, _)]) ⟨rfl, rfl, rfl, trivial⟩ (aB ?_))
  refine aH6 rfl (fun hc25 => ?_) (fun hc25 => ?_)
  ·skip
   refine eE (cJ (aG dQ rfl (aK (.tail _ (.tail _ (List.mem_append_right _ (List.mem_append_right _ (.tail _ (.tail _ (.head _))))))) rfl)) rfl (cJ (aC rfl) rfl (gR rfl (bN (E := 3) (l := encI y.1) rfl (fun w => by kernel_rfl) rfl fun b28 => (gR rfl (fN Tryz.underlying24 eQ rfl (by decide) rfl rfl hz (pk .here (mH (.there (.there (.right .here))) (.refl _))) rfl (by simp [encI, Value.oneCell']) (by omega) (by unfold maxLen; omega) rfl fun v2 E2 hO2 => (gR rfl (bR lG rfl rfl (Own.one (by assumption)) .zero (.right (.there (.there (.right (.there (.there .here)))))) ?_))))))))
   refine fZ (Tr.keep (env' := []) trivial (cX (fV (.right (.there .here)) (fun w hw => ?_))))
   have hsel : yY 0 y = true := hc25
   exact ⟨rfl, (v2, E2), by simp only [List.filter_append, List.map_append, List.filter_cons, hsel, if_true, List.filter_nil, List.map_cons, List.map_nil]; exact hO2, Ok.sub (hw.perm (pk (.right (.there .here)) (mH (.right (.there .here)) (mH .here (.refl _))))) (.cons_cons _ (List.Sublist.append (.refl _) (List.Sublist.append (.refl _) (.cons _ (.refl _)))))⟩
  ·skip
   refine vV (cX (fV (.there .here) (fun w hw => ?_)))
   have hsel : yY 0 y = false := hc25
   exact ⟨rfl, (v, E), by simp only [List.filter_append, List.map_append, List.filter_cons, hsel, if_false, List.filter_nil, List.map_nil, List.append_nil, Bool.false_eq_true]; exact hz, Ok.sub (hw.perm (pk (.there .here) (mH (.there .here) (mH (.there .here) (.refl _))))) (.cons_cons _ (List.Sublist.append (.refl _) (List.Sublist.append (.refl _) (.cons _ (.refl _)))))⟩
 ·intro D z hz
  obtain ⟨v, E⟩ := z
  obtain ⟨ab, ac, sa, rfl, rfl⟩ := zW (show Own 3 1 v [[.int .i64 0]] E from hz)
  show Tr w0 _ _ _ (jV D :: cel ab 3 (.int .i64 0 :: sa) :: cel bc 3 [.int .i64 1] :: cel bv 191 [.pointer (some ⟨x.vb, 0, none⟩)] :: cel b7 24 [.slice (some ⟨ab, 0, none⟩) 1 ac] :: cel b5 3 [.int .i64 0] :: cel b3 191 [.pointer (some ⟨x.vb, 0, none⟩)] :: M) _
  refine cX (aB (aE (aA (tv (aG dQ rfl (aK (.tail _ (.tail _ (.tail _ (.tail _ (.head _))))) rfl)) (tv (bG rfl rfl) ?_)))))
  refine te (aJ bG3 rfl rfl rfl rfl (zX (.tail _ (.head _))) (tv (aC rfl) (tv (bA rfl rfl) (tv (bA rfl rfl) (tv (aD rfl) (tv (aD rfl) ?_))))))
  refine aF (Tr.keep (env' := [(10, _), (11, _)]) ⟨rfl, rfl, trivial⟩ (aB (aE (aE (aA ?_)))))
  refine tv (aC rfl) (tv (bF rfl) (aF (Tr.keep (env' := [(10, _), (37, _)]) ⟨rfl, rfl, trivial⟩ (aB ?_))))
  refine bD rfl (fun hok => ?_) (fun hok => ?_)
  ·cases hok
  ·skip
   refine aO (aB (aE (aA (tv (aC rfl) (tv (aD rfl) ?_)))))
   refine aF (Tr.keep (env' := [(6, _)]) ⟨rfl, trivial⟩ (aB (aQ (vW rfl rfl (pk .here (.refl _)) (fun w hw => ?_)))))
   exact ⟨rfl, Ok.sub hw (.cons _ (.cons _ (.cons _ (.cons _ (.cons _ (.cons _ (.refl _)))))))⟩
theorem best_1 {lb : Nat} (x : VAt) (hv : x.ev lb ∈ M) (hd : x.ed ∈ M) (hi : x.ei ∈ M) : ∀ w, Ok w0 M w → Calls Tryz.prog 103 #[.pointer (some ⟨x.vb, 0, none⟩), .int .i64 1, .int .i64 1] w (fun e w' => e = .returned (.int .i64 1) ∧ Ok w0 M w') := by
 refine rA (vs := [_, _, _]) Tryz.func103 rfl Tryz.ntmps103 rfl (tD (aE (aA (te (eL rfl rfl rfl fun b3 => (te (eL rfl rfl rfl fun b5 => ?_)))))))
 refine tv (aD rfl) (aF (Tr.keep (env' := [(1, _), (3, _), (5, _), (6, _)]) ⟨rfl, rfl, rfl, rfl, trivial⟩ (aB (aE (aA ?_)))))
 refine te (bO aG0 (l := [.slice none 0 0]) rfl rfl fun b7 => (aF (Tr.keep (env' := [(1, _), (3, _), (5, _), (6, _), (7, _)]) ⟨rfl, rfl, rfl, rfl, rfl, trivial⟩ (aB (aE (aE ?_))))))
 refine aA (tv (aG wD rfl (aK (.tail _ (.tail _ (.head _))) rfl)) (tv (aC rfl) (te (bP bG2 rfl rfl rfl rfl (of_c _ _) fun bp _ => ?_))))
 obtain ⟨bv, bc⟩ := bp
 dsimp only
 refine aF (Tr.keep (env' := [(3, _), (5, _), (6, _), (7, _), (14, _)]) ⟨rfl, rfl, rfl, rfl, rfl, trivial⟩ (aB (aX (Tr.keep (env' := [(3, _), (5, _), (7, _), (14, _)]) ⟨rfl, rfl, rfl, rfl, trivial⟩ ?_))))
 refine jJ rfl bG4 (bD7) (fun _ => rfl) (by decide) ([(0, R1, 2000), (1, R2, 302000)]) (fun pre (z : Value × List Ent) => Own 3 1 z.1 ((pre.filter (yY 1)).map fun y => encI y.1) z.2) (fun z : Value × List Ent => z.2 ++ (cel bc 3 [.int .i64 1] :: cel bv 191 [.pointer (some ⟨x.vb, 0, none⟩)] :: cel b7 24 [z.1] :: cel b5 3 [.int .i64 1] :: cel b3 191 [.pointer (some ⟨x.vb, 0, none⟩)] :: M)) ((.slice none 0 0, [])) (Own.nil _ _) rfl ?_ ?_ ?_
 ·exact fun l r Fr hy => bD8 (σ := Value × List Ent) (fun _ => (List.mem_append_right _ (.tail _ (.head _)))) (fun _ => (List.mem_append_right _ (.head _))) (fun _ => (List.mem_append_right _ (.tail _ (.tail _ (.tail _ (.tail _ (.tail _ hv))))))) (fun _ => (List.mem_append_right _ (.tail _ (.tail _ (.tail _ (.tail _ (.tail _ hd))))))) (fun _ => (List.mem_append_right _ (.tail _ (.tail _ (.tail _ (.tail _ (.tail _ hi))))))) hy (.slice none 0 0, []) (Own.nil _ _)
 ·intro l rr Fr pre y post hx z hz
  obtain ⟨v, E⟩ := z
  dsimp only at hz ⊢
  have hbb : ((pre.filter (yY 1)).map fun y => encI y.1).length ≤ 2 := by
   have h8 := List.length_filter_le (yY 1) pre
   have h9 : pre.length ≤ 2 := by have := congrArg List.length hx; simp at this; omega
   rw [List.length_map]; omega
  refine Tr.keep (env' := [(5, _), (7, _), (15, _), (16, _)]) ⟨rfl, rfl, rfl, rfl, trivial⟩ (pT (eE (cJ (aD rfl) rfl (fZ (Tr.keep (env' := [(5, _), (7, _), (8, _), (15, _), (16, _)]) ⟨rfl, rfl, rfl, rfl, rfl, trivial⟩ ?_)))))
  refine aB (eE (gR rfl (bO gW (l := [.int .i64 0, .int .i64 0, .int .i64 0, .int .i64 0, .int .i64 0, .int .i64 0, .int .i64 0]) rfl rfl fun b9 => (gR rfl (bJ dP rfl rfl (vs := [_, _, _, _, _, _, _]) rfl rfl (by simp [Value.oneCell']) (.cons .zero (.cons (.succ .zero) (.cons (.succ (.succ .zero)) (.cons (.succ (.succ (.succ .zero))) (.cons (.succ (.succ (.succ (.succ .zero)))) (.cons (.succ (.succ (.succ (.succ (.succ .zero))))) (.cons (.succ (.succ (.succ (.succ (.succ (.succ .zero)))))) .nil))))))) .here (fZ (Tr.keep (env' := [(5, _), (7, _), (8, _), (9, _), (15, _), (16, _)]) ⟨rfl, rfl, rfl, rfl, rfl, rfl, trivial⟩ ?_)))))))
  refine aB (oB (.there .here) (nZ (pT (eE (cJ (aI iR rfl) rfl ?_)))))
  refine cJ (aG pM rfl (aK (.head _) rfl)) rfl (cJ (cW rfl rfl) rfl (cJ (aC rfl) rfl ?_))
  apply uP 5 (s := 20) (d := 25) rfl
  ·intro hg1 K hK
   refine nW hg1 rfl rfl (aI lW rfl) rfl (nW hg1 rfl rfl (aG bB rfl (aK (.head _) rfl)) rfl (nW hg1 rfl rfl (aG bB rfl (aK (.tail _ (.tail _ (List.mem_append_right _ (List.mem_append_right _ (.tail _ (.tail _ (.tail _ (.head _)))))))) rfl)) rfl (nW hg1 rfl rfl (cW rfl rfl) rfl (cJ (bV hg1 rfl rfl) rfl ?_))))
   iterate 4 refine Tr.weak2 rfl ?_
   exact hK _ (dT hg1)
  ·intro hg1 K hK
   refine lO hg1 rfl rfl rfl rfl (lO hg1 rfl rfl rfl rfl (lO hg1 rfl rfl rfl rfl (lO hg1 rfl rfl rfl rfl (cJ (bW hg1 rfl rfl) rfl ?_))))
   iterate 4 refine Tr.weak2 rfl ?_
   exact hK _ (dU hg1)
  refine fZ (Tr.keep (env' := [(7, _), (8, _), (25, _)]) ⟨rfl, rfl, rfl, trivial⟩ (aB ?_))
  refine aH6 rfl (fun hc25 => ?_) (fun hc25 => ?_)
  ·skip
   refine eE (cJ (aG dQ rfl (aK (.tail _ (.tail _ (List.mem_append_right _ (List.mem_append_right _ (.tail _ (.tail _ (.head _))))))) rfl)) rfl (cJ (aC rfl) rfl (gR rfl (bN (E := 3) (l := encI y.1) rfl (fun w => by kernel_rfl) rfl fun b28 => (gR rfl (fN Tryz.underlying24 eQ rfl (by decide) rfl rfl hz (pk .here (mH (.there (.there (.right .here))) (.refl _))) rfl (by simp [encI, Value.oneCell']) (by omega) (by unfold maxLen; omega) rfl fun v2 E2 hO2 => (gR rfl (bR lG rfl rfl (Own.one (by assumption)) .zero (.right (.there (.there (.right (.there (.there .here)))))) ?_))))))))
   refine fZ (Tr.keep (env' := []) trivial (cX (fV (.right (.there .here)) (fun w hw => ?_))))
   have hsel : yY 1 y = true := hc25
   exact ⟨rfl, (v2, E2), by simp only [List.filter_append, List.map_append, List.filter_cons, hsel, if_true, List.filter_nil, List.map_cons, List.map_nil]; exact hO2, Ok.sub (hw.perm (pk (.right (.there .here)) (mH (.right (.there .here)) (mH .here (.refl _))))) (.cons_cons _ (List.Sublist.append (.refl _) (List.Sublist.append (.refl _) (.cons _ (.refl _)))))⟩
  ·skip
   refine vV (cX (fV (.there .here) (fun w hw => ?_)))
   have hsel : yY 1 y = false := hc25
   exact ⟨rfl, (v, E), by simp only [List.filter_append, List.map_append, List.filter_cons, hsel, if_false, List.filter_nil, List.map_nil, List.append_nil, Bool.false_eq_true]; exact hz, Ok.sub (hw.perm (pk (.there .here) (mH (.there .here) (mH (.there .here) (.refl _))))) (.cons_cons _ (List.Sublist.append (.refl _) (List.Sublist.append (.refl _) (.cons _ (.refl _)))))⟩
 ·intro D z hz
  obtain ⟨v, E⟩ := z
  obtain ⟨ab, ac, sa, rfl, rfl⟩ := zW (show Own 3 1 v [[.int .i64 1]] E from hz)
  show Tr w0 _ _ _ (jV D :: cel ab 3 (.int .i64 1 :: sa) :: cel bc 3 [.int .i64 1] :: cel bv 191 [.pointer (some ⟨x.vb, 0, none⟩)] :: cel b7 24 [.slice (some ⟨ab, 0, none⟩) 1 ac] :: cel b5 3 [.int .i64 1] :: cel b3 191 [.pointer (some ⟨x.vb, 0, none⟩)] :: M) _
  refine cX (aB (aE (aA (tv (aG dQ rfl (aK (.tail _ (.tail _ (.tail _ (.tail _ (.head _))))) rfl)) (tv (bG rfl rfl) ?_)))))
  refine te (aJ bG3 rfl rfl rfl rfl (zX (.tail _ (.head _))) (tv (aC rfl) (tv (bA rfl rfl) (tv (bA rfl rfl) (tv (aD rfl) (tv (aD rfl) ?_))))))
  refine aF (Tr.keep (env' := [(10, _), (11, _)]) ⟨rfl, rfl, trivial⟩ (aB (aE (aE (aA ?_)))))
  refine tv (aC rfl) (tv (bF rfl) (aF (Tr.keep (env' := [(10, _), (37, _)]) ⟨rfl, rfl, trivial⟩ (aB ?_))))
  refine bD rfl (fun hok => ?_) (fun hok => ?_)
  ·cases hok
  ·skip
   refine aO (aB (aE (aA (tv (aC rfl) (tv (aD rfl) ?_)))))
   refine aF (Tr.keep (env' := [(6, _)]) ⟨rfl, trivial⟩ (aB (aQ (vW rfl rfl (pk .here (.refl _)) (fun w hw => ?_)))))
   exact ⟨rfl, Ok.sub hw (.cons _ (.cons _ (.cons _ (.cons _ (.cons _ (.cons _ (.refl _)))))))⟩
end
end Go.Proofs.W
set_option linter.unusedVariables false
set_option linter.unusedSimpArgs false
set_option linter.unusedSectionVars false
set_option maxRecDepth 100000
namespace Go.Proofs.W
open Go Go.Sl Go.RowKit Go.Proofs
attribute [local irreducible] Go.Sl.Eff
theorem bG5 : aV Tryz.prog 101 := aL Tryz.func101 (by kernel_rfl) (by kernel_rfl)
theorem bG6 : aV Tryz.prog 102 := aL Tryz.func102 (by kernel_rfl) (by kernel_rfl)
theorem bG7 : aV Tryz.prog 103 := aL Tryz.func103 (by kernel_rfl) (by kernel_rfl)
section
variable {w0 : World} {M : List Ent}
theorem aM1 {g : WLog} {l : WAt} (p : Int) (hb : g.eb l ∈ M) (hf : g.Fine) (hp : 0 ≤ p ∧ p ≤ 1) : ∀ w, Ok w0 M w → Calls Tryz.prog 101 #[.pointer (some ⟨l.b, 0, none⟩), .int .i64 1, .int .i64 p, .int .i64 400000] w
  (fun e w' => e = .returned (.int .i64 0) ∧ Ok w0 M w') := fun w hw => by
 have h := aC3 1 p 400000 hb hf w hw
 have h1 := hf.cars; have h2 := hf.places
 have e1 : eK 1 1 g.cars = true := rG.2 (by omega)
 have e2 : eK p 0 (g.places - 1) = true := rG.2 (by omega)
 rw [e1, e2] at h
 exact h
theorem aM2 {g : WLog} {l : WAt} (hb : g.eb l ∈ M) (hm : g.em l ∈ M) (hf : g.Fine) (hkv : g.kv = [(R1, 2000), (R2, 302000)]) : ∀ w, Ok w0 M w → Calls Tryz.prog 39 #[.pointer (some ⟨l.b, 0, none⟩), .int .i64 1, .int .i64 0, .int .i64 400000] w
   (fun e w' => e = .returned (.tuple #[.int .i64 0, .int .i64 0]) ∧ Ok w0 M w') := by
 refine enter (vs := [_, _, _, _]) Tryz.func39 rfl Tryz.ntmps39 rfl (aE (aA (tv (aD rfl) (tv (aD rfl) (aF ?_)))))
 refine Tr.keep (env' := [(0, _), (1, _), (2, _), (3, _)]) ⟨rfl, rfl, rfl, rfl, trivial⟩ (aB (aE (aE (aA (tv (aC rfl) ?_)))))
 refine tv (aC rfl) (tv (aC rfl) (tv (aC rfl) (te (aJ bG5 rfl rfl rfl rfl (aM1 0 hb hf (by decide)) (tv (aD rfl) (aF ?_))))))
 refine Tr.keep (env' := [(0, _), (1, _), (2, _), (3, _), (10, _)]) ⟨rfl, rfl, rfl, rfl, rfl, trivial⟩ (aB (aE (aA (tv (aC rfl) (tv (eF rfl rfl) ?_)))))
 refine aF (Tr.keep (env' := [(0, _), (1, _), (2, _), (3, _), (10, _), (18, _)]) ⟨rfl, rfl, rfl, rfl, rfl, rfl, trivial⟩ (aB (aR rfl (aO (aB ?_)))))
 refine aE (aA (tv (aC rfl) (tv (aC rfl) (te (bP bG6 rfl rfl rfl rfl (bG1 hb hm hkv) fun x _ => (tv (aC rfl) ?_))))))
 refine tv (aC rfl) (te (aJ bG7 rfl rfl rfl rfl (best_0 x (.head _) (.tail _ (.head _)) (.tail _ (.tail _ (.head _)))) (tv (aD rfl) (aF (Tr.keep (env' := [(11, _)]) ⟨rfl, trivial⟩ (aB ?_))))))
 refine aE (aE (aA (tv (aC rfl) (tv (dI rfl rfl) (aF ?_)))))
 refine Tr.keep (env' := [(11, _), (27, _)]) ⟨rfl, rfl, trivial⟩ (aB (aR rfl (aO (aB (aE ?_)))))
 refine aA (tv (aC rfl) (tv (aD rfl) (tv (aD rfl) (aF (Tr.keep (env' := [(8, _), (9, _)]) ⟨rfl, rfl, trivial⟩ ?_)))))
 refine aB (aQ (gG rfl rfl rfl (fun w hw => ?_)))
 exact ⟨rfl, Ok.sub hw (.cons _ (.cons _ (.cons _ (.refl _))))⟩
theorem aM3 {g : WLog} {l : WAt} (hb : g.eb l ∈ M) (hm : g.em l ∈ M) (hf : g.Fine) (hkv : g.kv = [(R1, 2000), (R2, 302000)]) : ∀ w, Ok w0 M w → Calls Tryz.prog 39 #[.pointer (some ⟨l.b, 0, none⟩), .int .i64 1, .int .i64 1, .int .i64 400000] w
   (fun e w' => e = .returned (.tuple #[.int .i64 1, .int .i64 0]) ∧ Ok w0 M w') := by
 refine enter (vs := [_, _, _, _]) Tryz.func39 rfl Tryz.ntmps39 rfl (aE (aA (tv (aD rfl) (tv (aD rfl) (aF ?_)))))
 refine Tr.keep (env' := [(0, _), (1, _), (2, _), (3, _)]) ⟨rfl, rfl, rfl, rfl, trivial⟩ (aB (aE (aE (aA (tv (aC rfl) ?_)))))
 refine tv (aC rfl) (tv (aC rfl) (tv (aC rfl) (te (aJ bG5 rfl rfl rfl rfl (aM1 1 hb hf (by decide)) (tv (aD rfl) (aF ?_))))))
 refine Tr.keep (env' := [(0, _), (1, _), (2, _), (3, _), (10, _)]) ⟨rfl, rfl, rfl, rfl, rfl, trivial⟩ (aB (aE (aA (tv (aC rfl) (tv (eF rfl rfl) ?_)))))
 refine aF (Tr.keep (env' := [(0, _), (1, _), (2, _), (3, _), (10, _), (18, _)]) ⟨rfl, rfl, rfl, rfl, rfl, rfl, trivial⟩ (aB (aR rfl (aO (aB ?_)))))
 refine aE (aA (tv (aC rfl) (tv (aC rfl) (te (bP bG6 rfl rfl rfl rfl (bG1 hb hm hkv) fun x _ => (tv (aC rfl) ?_))))))
 refine tv (aC rfl) (te (aJ bG7 rfl rfl rfl rfl (best_1 x (.head _) (.tail _ (.head _)) (.tail _ (.tail _ (.head _)))) (tv (aD rfl) (aF (Tr.keep (env' := [(11, _)]) ⟨rfl, trivial⟩ (aB ?_))))))
 refine aE (aE (aA (tv (aC rfl) (tv (dI rfl rfl) (aF ?_)))))
 refine Tr.keep (env' := [(11, _), (27, _)]) ⟨rfl, rfl, trivial⟩ (aB (aR rfl (aO (aB (aE ?_)))))
 refine aA (tv (aC rfl) (tv (aD rfl) (tv (aD rfl) (aF (Tr.keep (env' := [(8, _), (9, _)]) ⟨rfl, rfl, trivial⟩ ?_)))))
 refine aB (aQ (gG rfl rfl rfl (fun w hw => ?_)))
 exact ⟨rfl, Ok.sub hw (.cons _ (.cons _ (.cons _ (.refl _))))⟩
end
end Go.Proofs.W
set_option linter.unusedVariables false
set_option linter.unusedSimpArgs false
set_option linter.unusedSectionVars false
set_option maxRecDepth 100000
namespace Go.Proofs.W
open Go Go.Sl Go.RowKit Go.Proofs
attribute [local irreducible] Go.Sl.Eff
theorem jR : bY Tryz.prog 102 = some (none) := by kernel_rfl
theorem wX : bY Tryz.prog 112 = some (none) := by kernel_rfl
theorem gX : aV Tryz.prog 118 := aL Tryz.func118 (by kernel_rfl) (by kernel_rfl)
theorem en_168 : aV Tryz.prog 168 := aL Tryz.func168 (by kernel_rfl) (by kernel_rfl)
theorem gC : bC Tryz.prog 104 0 = some 0 := by kernel_rfl
theorem rY : bC Tryz.prog 114 0 = some 0 := by kernel_rfl
theorem kS : bC Tryz.prog 114 1 = some 1 := by kernel_rfl
theorem aM4 : bC Tryz.prog 114 2 = some 2 := by kernel_rfl
theorem iW : bC Tryz.prog 114 3 = some 3 := by kernel_rfl
structure SItem where
 kind : Int
 leg : Int
 target : Int
 free : Bool
def SItem.cells (x : SItem) : List Value := [.int .i64 x.kind, .int .i64 x.leg, .int .i64 x.target, .bool x.free]
structure CLine where
 minute : Int
 time : Int
 jump : Bool
 mark : Int
def CLine.cells (l : CLine) : List Value := [.int .i64 l.minute, .int .i64 l.time, .bool l.jump, .int .i64 l.mark]
theorem aR1 (x : SItem) : x.cells.length = 4 := rfl
theorem aR2 (x : CLine) : x.cells.length = 4 := rfl
def eX (l : List Int) (least many most : Int) : Bool := eK (l.length : Int) least many && !(l.any fun x => !eK x 0 most)
def uK (x : SItem) (l : CLine) : Bool :=
 bif !eK l.minute 0 100000 || !eK l.time 0 36000000 then false
 else bif l.mark == 0 then ((x.kind == 1) && (l.time == 0) && !l.jump) || (!(x.kind == 1) && decide (0 < l.time))
 else bif l.mark == 1 then !(x.kind == 1) && (l.time == 0)
 else bif l.mark == 2 then (l.minute == 0) && (l.time == 0) && !l.jump
 else false
section
variable {w0 : World} {M : List Ent}
theorem bG8 {b : Nat} {most : Int} (hb : cel b 3 [.int .i64 most] ∈ M) (x : Int) : ∀ w, Ok w0 M w → Calls Tryz.prog 168 #[.int .i64 x, .pointer (some ⟨b, 0, none⟩)] w (fun e w' => e = .returned (.bool (!eK x 0 most)) ∧ Ok w0 M w') := by
 refine enter (vs := [_, _]) Tryz.func168 rfl Tryz.ntmps168 rfl (aE (aA (tv (aD rfl) (aF (Tr.keep (env' := [(0, _), (1, _)]) ⟨rfl, rfl, trivial⟩ ?_)))))
 refine aB (aE (aA (tv (aC rfl) (tv (aG bB rfl (aK hb rfl)) (te (aJ gX rfl rfl rfl rfl (cO _ _ _) ?_))))))
 refine tv (bF rfl) (tv (aD rfl) (aF (Tr.keep (env' := [(3, _)]) ⟨rfl, trivial⟩ (aB (aQ ?_)))))
 refine aW rfl rfl (fun w hw => ?_)
 exact ⟨rfl, hw⟩
theorem jS {A : Option Addr} {n c : Nat} {xs : List Int} (hs : SlRd w0 M 1 A n (xs.map encI)) (least many most : Int) : ∀ w, Ok w0 M w → Calls Tryz.prog 119 #[.slice A n c, .int .i64 least, .int .i64 many, .int .i64 most] w (fun e w' => e = .returned (.bool (eX xs least many most)) ∧ Ok w0 M w') := by
 have hn : n = xs.length := by have := hs.len; simpa using this.symm
 subst hn
 refine enter (vs := [_, _, _, _]) Tryz.func119 rfl Tryz.ntmps119 rfl (aE (aA (te (eL rfl rfl rfl fun b7 => (tv (aD rfl) (aF ?_))))))
 refine Tr.keep (env' := [(0, _), (1, _), (2, _), (7, _)]) ⟨rfl, rfl, rfl, rfl, trivial⟩ (aB (aE (aA (tv (aC rfl) (tv (aP Tryz.underlying24 rfl) ?_)))))
 refine tv (aC rfl) (tv (aC rfl) (te (aJ gX rfl rfl rfl rfl (cO _ _ _) (tv (aC rfl) ?_))))
 apply bH 5 (s := 14) (d := 19) rfl
 ·intro hg1 K hK
  refine bE hg1 rfl rfl (aC rfl) (bE hg1 rfl rfl (bG rfl rfl) ?_)
  refine dB hg1 rfl rfl (aJ bH6 rfl rfl rfl rfl (mD (fun y => !eK (decI y) 0 most) en_168 hs.cons (by
     intro y hy v hv; obtain ⟨x, hx, rfl⟩ := List.mem_map.1 hy
     obtain rfl : v = .int .i64 x := by simpa [encI] using hv.symm
     exact bG8 (.head _) x)) ?_)
  refine bE hg1 rfl rfl (bF rfl) (tv (bV hg1 rfl rfl) ?_)
  iterate 4 refine Tr.weak2 rfl ?_
  exact hK _ (dT hg1)
 ·intro hg1 K hK
  refine aH hg1 rfl rfl rfl rfl (aH hg1 rfl rfl rfl rfl (aH hg1 rfl rfl rfl rfl (aH hg1 rfl rfl rfl rfl (tv (bW hg1 rfl rfl) ?_))))
  iterate 4 refine Tr.weak2 rfl ?_
  exact hK _ (dU hg1)
 refine tv (aD rfl) (aF (Tr.keep (env' := [(8, _)]) ⟨rfl, trivial⟩ (aB (aQ (aW rfl rfl (fun w hw => ?_))))))
 refine ⟨?_, Ok.sub hw (List.sublist_cons_self _ _)⟩
 simp [eX, List.any_map, Function.comp_def]
theorem line_c (x : SItem) (l : CLine) : ∀ w, Ok w0 M w → Calls Tryz.prog 283 #[.agg x.cells.toArray, .agg l.cells.toArray] w (fun e w' => e = .returned (.bool (uK x l)) ∧ Ok w0 M w') := by
 refine enter (vs := [_, _]) Tryz.func283 rfl Tryz.ntmps283 rfl (aE (aA (te (cH rfl rfl fun b2 => (te (cH rfl rfl fun b3 => (tv (aD rfl) ?_)))))))
 refine aF (Tr.keep (env' := [(2, _), (3, _)]) ⟨rfl, rfl, trivial⟩ (aB (aE (aE (aA ?_)))))
 refine tv (aI rY rfl) (tv (aG bB rfl (aK (.head _) rfl)) (te (aJ gX rfl rfl rfl rfl (cO _ _ _) (tv (bF rfl) (tv (aC rfl) ?_)))))
 apply aZ 5 (s := 10) (d := 15) rfl
 ·intro hg1 K hK
  refine bE hg1 rfl rfl (aI kS rfl) (bE hg1 rfl rfl (aG bB rfl (aK (.head _) rfl)) (dB hg1 rfl rfl (aJ gX rfl rfl rfl rfl (cO _ _ _) (bE hg1 rfl rfl (bF rfl) (tv (bW hg1 rfl rfl) ?_)))))
  iterate 4 refine Tr.weak2 rfl ?_
  exact hK _ (dJ hg1)
 ·intro hg1 K hK
  refine aH hg1 rfl rfl rfl rfl (aH hg1 rfl rfl rfl rfl (aH hg1 rfl rfl rfl rfl (aH hg1 rfl rfl rfl rfl (tv (bV hg1 rfl rfl) ?_))))
  iterate 4 refine Tr.weak2 rfl ?_
  exact hK _ (dK hg1)
 refine aF (Tr.keep (env' := [(2, _), (3, _), (15, _)]) ⟨rfl, rfl, rfl, trivial⟩ (aB ?_))
 refine bD rfl (fun hv => ?_) (fun hv => ?_)
 ·skip
  refine aE (aA (tv (aD rfl) (aF (Tr.keep (env' := [(4, _)]) ⟨rfl, trivial⟩ (aB ?_)))))
  refine aQ (aN (aW rfl rfl (fun w hw => (⟨?_, Ok.sub hw (.cons _ (.cons _ (.refl _)))⟩))))
  unfold uK; rw [hv]; rfl
 ·skip
  refine aO (aB (aE (aA (tv (aI gC rfl) (tv (aG jR rfl (aK (.tail _ (.head _)) rfl)) ?_)))))
  refine tv (cW rfl rfl) (tv (aD rfl) (aF (Tr.keep (env' := [(3, _), (5, _)]) ⟨rfl, rfl, trivial⟩ (aB (aE ?_)))))
  refine aE (aA (tv (aI iW rfl) (tv (aG wX rfl (aK (.head _) rfl)) (aF (Tr.keep (env' := [(3, _), (5, _), (20, _)]) ⟨rfl, rfl, rfl, trivial⟩ ?_)))))
  refine aB (aX (aE (aA (tv (cW rfl rfl) (tv (aD rfl) ?_)))))
  refine aF (Tr.keep (env' := [(3, _), (5, _), (20, _), (21, _)]) ⟨rfl, rfl, rfl, rfl, trivial⟩ (aB ?_))
  refine bD rfl (fun hc3 => ?_) (fun hc3 => ?_)
  ·skip
   refine aE (aA (tv (aC rfl) (tv (aC rfl) ?_)))
   apply bH 4 (s := 24) (d := 28) rfl
   ·intro hg4 K hK
    refine bE hg4 rfl rfl (aI kS rfl) (bE hg4 rfl rfl (aG bB rfl (aK (.head _) rfl)) (bE hg4 rfl rfl (cW rfl rfl) (tv (bV hg4 rfl rfl) ?_)))
    iterate 3 refine Tr.weak2 rfl ?_
    exact hK _ (dT hg4)
   ·intro hg4 K hK
    refine aH hg4 rfl rfl rfl rfl (aH hg4 rfl rfl rfl rfl (aH hg4 rfl rfl rfl rfl (tv (bW hg4 rfl rfl) ?_)))
    iterate 3 refine Tr.weak2 rfl ?_
    exact hK _ (dU hg4)
   refine tv (aC rfl) ?_
   apply bH 4 (s := 29) (d := 33) rfl
   ·intro hg5 K hK
    refine bE hg5 rfl rfl (aI aM4 rfl) (bE hg5 rfl rfl (aG pK rfl (aK (.head _) rfl)) (bE hg5 rfl rfl (bF rfl) (tv (bV hg5 rfl rfl) ?_)))
    iterate 3 refine Tr.weak2 rfl ?_
    exact hK _ (dT hg5)
   ·intro hg5 K hK
    refine aH hg5 rfl rfl rfl rfl (aH hg5 rfl rfl rfl rfl (aH hg5 rfl rfl rfl rfl (tv (bW hg5 rfl rfl) ?_)))
    iterate 3 refine Tr.weak2 rfl ?_
    exact hK _ (dU hg5)
   refine tv (aC rfl) ?_
   apply aZ 8 (s := 34) (d := 42) rfl
   ·intro hg6 K hK
    refine bE hg6 rfl rfl (aC rfl) (bE hg6 rfl rfl (bF rfl) (bE hg6 rfl rfl (aC rfl) ?_))
    apply bH 4 (s := 37) (d := 41) rfl
    ·intro hg7 K hK
     refine bE hg7 rfl rfl (aI kS rfl) (bE hg7 rfl rfl (aG bB rfl (aK (.head _) rfl)) (bE hg7 rfl rfl (fC rfl rfl) (bE hg6 rfl rfl (bV hg7 rfl rfl) ?_)))
     iterate 3 refine Tr.weak2 rfl ?_
     exact hK _ (dT hg7)
    ·intro hg7 K hK
     refine aH hg7 rfl rfl rfl rfl (aH hg7 rfl rfl rfl rfl (aH hg7 rfl rfl rfl rfl (bE hg6 rfl rfl (bW hg7 rfl rfl) ?_)))
     iterate 3 refine Tr.weak2 rfl ?_
     exact hK _ (dU hg7)
    refine tv (bW hg6 rfl rfl) ?_
    iterate 4 refine Tr.weak2 rfl ?_
    exact hK _ (dJ hg6)
   ·intro hg6 K hK
    refine aH hg6 rfl rfl rfl rfl (aH hg6 rfl rfl rfl rfl (aH hg6 rfl rfl rfl rfl (bZ rfl rfl rfl (bZ rfl rfl rfl (bZ rfl rfl rfl ?_)))))
    refine aH hg6 rfl rfl rfl rfl (tv (bV hg6 rfl rfl) ?_)
    iterate 7 refine Tr.weak2 rfl ?_
    exact hK _ (dK hg6)
   refine tv (aD rfl) (aF (Tr.keep (env' := [(4, _)]) ⟨rfl, trivial⟩ (aB (aQ (bM ?_)))))
   refine aN (aW rfl rfl (fun w hw => (⟨?_, Ok.sub hw (.cons _ (.cons _ (.refl _)))⟩)))
   unfold uK; simp_all
  ·skip
   refine aE (aA (tv (cW rfl rfl) (tv (aD rfl) (aF (Tr.keep (env' := [(3, _), (5, _), (20, _), (43, _)]) ⟨rfl, rfl, rfl, rfl, trivial⟩ ?_)))))
   refine aB ?_
   refine bD rfl (fun hc8 => ?_) (fun hc8 => ?_)
   ·skip
    refine aE (aA (tv (aC rfl) (tv (bF rfl) (tv (aC rfl) ?_))))
    apply bH 4 (s := 47) (d := 51) rfl
    ·intro hg9 K hK
     refine bE hg9 rfl rfl (aI kS rfl) (bE hg9 rfl rfl (aG bB rfl (aK (.head _) rfl)) (bE hg9 rfl rfl (cW rfl rfl) (tv (bV hg9 rfl rfl) ?_)))
     iterate 3 refine Tr.weak2 rfl ?_
     exact hK _ (dT hg9)
    ·intro hg9 K hK
     refine aH hg9 rfl rfl rfl rfl (aH hg9 rfl rfl rfl rfl (aH hg9 rfl rfl rfl rfl (tv (bW hg9 rfl rfl) ?_)))
     iterate 3 refine Tr.weak2 rfl ?_
     exact hK _ (dU hg9)
    refine tv (aD rfl) (aF (Tr.keep (env' := [(4, _)]) ⟨rfl, trivial⟩ (aB (aQ (bM ?_)))))
    refine aN (aW rfl rfl (fun w hw => (⟨?_, Ok.sub hw (.cons _ (.cons _ (.refl _)))⟩)))
    unfold uK; simp_all
   ·skip
    refine aE (aA (tv (cW rfl rfl) (tv (aD rfl) (aF (Tr.keep (env' := [(3, _), (52, _)]) ⟨rfl, rfl, trivial⟩ ?_)))))
    refine aB ?_
    refine bD rfl (fun hc10 => ?_) (fun hc10 => ?_)
    ·skip
     refine aE (aA (tv (aI rY rfl) (tv (aG bB rfl (aK (.head _) rfl)) (tv (cW rfl rfl) (tv (aC rfl) ?_)))))
     apply bH 4 (s := 57) (d := 61) rfl
     ·intro hg11 K hK
      refine bE hg11 rfl rfl (aI kS rfl) (bE hg11 rfl rfl (aG bB rfl (aK (.head _) rfl)) (bE hg11 rfl rfl (cW rfl rfl) (tv (bV hg11 rfl rfl) ?_)))
      iterate 3 refine Tr.weak2 rfl ?_
      exact hK _ (dT hg11)
     ·intro hg11 K hK
      refine aH hg11 rfl rfl rfl rfl (aH hg11 rfl rfl rfl rfl (aH hg11 rfl rfl rfl rfl (tv (bW hg11 rfl rfl) ?_)))
      iterate 3 refine Tr.weak2 rfl ?_
      exact hK _ (dU hg11)
     refine tv (aC rfl) ?_
     apply bH 4 (s := 62) (d := 66) rfl
     ·intro hg12 K hK
      refine bE hg12 rfl rfl (aI aM4 rfl) (bE hg12 rfl rfl (aG pK rfl (aK (.head _) rfl)) (bE hg12 rfl rfl (bF rfl) (tv (bV hg12 rfl rfl) ?_)))
      iterate 3 refine Tr.weak2 rfl ?_
      exact hK _ (dT hg12)
     ·intro hg12 K hK
      refine aH hg12 rfl rfl rfl rfl (aH hg12 rfl rfl rfl rfl (aH hg12 rfl rfl rfl rfl (tv (bW hg12 rfl rfl) ?_)))
      iterate 3 refine Tr.weak2 rfl ?_
      exact hK _ (dU hg12)
     refine tv (aD rfl) (aF (Tr.keep (env' := [(4, _)]) ⟨rfl, trivial⟩ (aB (aQ (bM ?_)))))
     refine aN (aW rfl rfl (fun w hw => (⟨?_, Ok.sub hw (.cons _ (.cons _ (.refl _)))⟩)))
     unfold uK; simp_all
    ·skip
     refine aO (cX (aB (aE (aA (tv (aD rfl) ?_)))))
     refine aF (Tr.keep (env' := [(4, _)]) ⟨rfl, trivial⟩ (aB (aQ (aW rfl rfl (fun w hw => (⟨?_, Ok.sub hw (.cons _ (.cons _ (.refl _)))⟩))))))
     unfold uK; simp_all
end
end Go.Proofs.W
set_option linter.unusedVariables false
set_option linter.unusedSimpArgs false
set_option linter.unusedSectionVars false
set_option maxRecDepth 100000
namespace Go.Proofs.W
open Go Go.Sl Go.RowKit Go.Proofs
attribute [local irreducible] Go.Sl.Eff
theorem gF : bY Tryz.prog 109 = some (none) := by kernel_rfl
theorem oV : bY Tryz.prog 114 = some (some 4) := by kernel_rfl
theorem eJ : bY Tryz.prog 28 = some (none) := by kernel_rfl
theorem uL : bY Tryz.prog 33 = some (some 14) := by kernel_rfl
theorem mC : aV Tryz.prog 119 := aL Tryz.func119 (by kernel_rfl) (by kernel_rfl)
theorem en_283 : aV Tryz.prog 283 := aL Tryz.func283 (by kernel_rfl) (by kernel_rfl)
theorem bG9 : aV Tryz.prog 52 := aL Tryz.func52 (by kernel_rfl) (by kernel_rfl)
theorem eC : bC Tryz.prog 104 1 = some 1 := by kernel_rfl
theorem wY : bC Tryz.prog 111 0 = some 0 := by kernel_rfl
theorem kT : bC Tryz.prog 111 1 = some 1 := by kernel_rfl
theorem eH : bC Tryz.prog 111 2 = some 2 := by kernel_rfl
theorem cQ : bC Tryz.prog 33 0 = some 0 := by kernel_rfl
theorem vK : bC Tryz.prog 33 1 = some 1 := by kernel_rfl
theorem jF : (Tryz.prog.info? 114).map (·.size) = some 4 := by kernel_rfl
def aW0 (items : List SItem) (lines : List CLine) (k : Nat) : Bool :=
 match k with
 | 0 => false
 | j + 1 => (match lines[j]?, items[j]?, items[j + 1]? with
  | some l, some x, some y => (l.mark == 2) && (x.leg == y.leg)
  | _, _, _ => false)
def bH0 (items : List SItem) (lines : List CLine) (k : Nat) : Bool :=
 match items[k]?, lines[k]? with
 | some x, some l => uK x l && !(aW0 items lines k && l.mark != 2)
 | _, _ => true
theorem okbool {a b : Bool} (h : (!a || b) = false) : (a && !b) = true := by cases a <;> cases b <;> simp_all
theorem notok {a b : Bool} (h : (!a || b) = true) (h2 : (a && !b) = true) : False := by cases a <;> cases b <;> simp_all
section
variable {w0 : World} {M : List Ent}
theorem aM5 {A B C : Option Addr} {ci cs cl2 : Nat} {cls cl : Int} {r0 r1 r2 r3 r4 r5 r6 r7 r8 r9 r10 r11 : Value} {items : List SItem} {starts : List Int} {lines : List CLine} {last : SItem}
  (hI : SlRd w0 M 4 A items.length (items.map SItem.cells)) (hS : SlRd w0 M 1 B starts.length (starts.map encI)) (hL : SlRd w0 M 4 C lines.length (lines.map CLine.cells))
  (hchk : ∀ M', M.Sublist M' → ∀ w, Ok w0 M' w → Calls Tryz.prog 52 #[.agg #[.slice A items.length ci, .int .i64 cls, r0, r1, r2, r3, r4, r5, r6, r7, r8, r9, r10, r11]] w (fun e w' => e = .returned (.int .i64 0) ∧ Ok w0 M' w'))
  (h1 : ∀ u ∈ [r0, r1, r2, r3, r4, r5, r6, r7, r8, r9, r10, r11], u.oneCell' = true) (hne : items ≠ []) (hcls : eK cl 0 (cls - 1) = true) (hclb : 1 ≤ cls ∧ cls ≤ 20) (hlen : lines.length = items.length) (hlast : items[items.length - 1]? = some last) (hlb : 0 ≤ last.leg ∧ last.leg ≤ 6) (hst : (starts.length : Int) = last.leg + 1) (htm : eX starts 1 6 100000 = true) :
  ∀ w, Ok w0 M w → Calls Tryz.prog 267 #[.agg #[.slice A items.length ci, .int .i64 cls, r0, r1, r2, r3, r4, r5, r6, r7, r8, r9, r10, r11], .agg #[.int .i64 cl, .slice B starts.length cs, .slice C lines.length cl2]] w (fun e w' => e = .returned (.int .i64 (if ∀ k, k < items.length → bH0 items lines k = true then 0 else 2)) ∧ Ok w0 M w') := by
 have hI' := hI.at' (by rw [List.length_pos_iff]; exact hne)
 obtain ⟨bi, oi, hA, hri⟩ := hI'
 obtain ⟨bl, ol, hC, hrl⟩ := hL.at' (by rw [hlen, List.length_pos_iff]; exact hne)
 have hpos : 0 < items.length := List.length_pos_iff.2 hne
 have gi : ∀ (j : Nat) (x : SItem), items[j]? = some x → (items.map SItem.cells)[j]? = some x.cells := fun j x h => by simp [h]
 have gl : ∀ (j : Nat) (x : CLine), lines[j]? = some x → (lines.map CLine.cells)[j]? = some x.cells := fun j x h => by simp [h]
 have hbI := hI.big; have hbL := hL.big
 refine enter (vs := [_, _]) Tryz.func267 rfl Tryz.ntmps267 rfl (aE (aA (te (cH rfl rfl fun b2 => (te (cH rfl rfl fun b3 => (tv (aD rfl) ?_)))))))
 refine aF (Tr.keep (env' := [(2, _), (3, _)]) ⟨rfl, rfl, trivial⟩ (aB (aE (aE (cI cK rfl ?_)))))
 refine dv 0 rfl (.refl _) (aY uL rfl (bL (n := 14) (vs := [_, _, _, _, _, _, _, _, _, _, _, _, _, _]) (.tail _ (.head _)) rfl) rfl) (de 1 rfl (aJ bG9 rfl rfl rfl rfl (hchk _ (.cons _ (.cons _ (.refl _)))) (aU (.refl _) (dv 2 rfl (.refl _) (eF rfl rfl) (dv 3 rfl (.refl _) (aC rfl) (eI 4 rfl (.refl _) rfl rfl (aI wY rfl) ?_))))))
 refine eI 5 rfl (.refl _) rfl rfl (aG bB rfl (aK (.head _) rfl)) (eI 6 rfl (.refl _) rfl rfl (aI vK rfl) (eI 7 rfl (.refl _) rfl rfl (aG bB rfl (aK (.tail _ (.head _)) rfl)) (eI 8 rfl (.refl _) rfl rfl (cP rfl rfl (by omega)) (jU 9 rfl (by kernel_rfl) rfl rfl (aJ gX rfl rfl rfl rfl (cO _ _ _) (aU (.refl _) ?_))))))
 refine eI 10 rfl (.refl _) rfl rfl (fF (v' := .bool false) (bF rfl) (by rw [hcls]; rfl)) (dv 11 rfl (.refl _) (bS rfl rfl) (dv 12 rfl (.refl _) (aC rfl) (eI 13 rfl (.refl _) rfl rfl (aI eH rfl) (eI 14 rfl (.refl _) rfl rfl (aG gF rfl (aK (.head _) rfl)) (eI 15 rfl (.refl _) rfl rfl (aP Tryz.underlying109 rfl) ?_)))))
 refine eI 16 rfl (.refl _) rfl rfl (aI cQ rfl) (eI 17 rfl (.refl _) rfl rfl (aG eJ rfl (aK (.tail _ (.head _)) rfl)) (eI 18 rfl (.refl _) rfl rfl (aP Tryz.underlying28 rfl) (eI 19 rfl (.refl _) rfl rfl (fF (v' := .bool false) (eF rfl rfl) (by rw [hlen]; simp)) (dv 20 rfl (.refl _) (bS rfl rfl) (dv 21 rfl (.refl _) (aC rfl) ?_)))))
 refine eI 22 rfl (.refl _) rfl rfl (aI kT rfl) (eI 23 rfl (.refl _) rfl rfl (aG dQ rfl (aK (.head _) rfl)) (eI 24 rfl (.refl _) rfl rfl (aP Tryz.underlying24 rfl) (eI 25 rfl (.refl _) rfl rfl (aI cQ rfl) (eI 26 rfl (.refl _) rfl rfl (aG eJ rfl (aK (.tail _ (.head _)) rfl)) (eI 27 rfl (.refl _) rfl rfl (aI cQ rfl) ?_)))))
 refine eI 28 rfl (.refl _) rfl rfl (aG eJ rfl (aK (.tail _ (.head _)) rfl)) (eI 29 rfl (.refl _) rfl rfl (aP Tryz.underlying28 rfl) (eI 30 rfl (.refl _) rfl rfl (cP rfl rfl (by omega)) (eI 31 rfl (.refl _) rfl rfl (cL (items.length - 1) Tryz.underlying28 eT hA rfl rfl (by omega) (by omega)) (eI 32 rfl (.refl _) rfl rfl (aI eC rfl) (eI 33 rfl (.refl _) rfl rfl (aG bB rfl (Rd.sub (hri (items.length - 1) _ (gi _ _ hlast) 1 _ rfl) (.cons _ (.cons _ (.refl _))))) ?_)))))
 refine eI 34 rfl (.refl _) rfl rfl (cC rfl rfl (by omega)) (eI 35 rfl (.refl _) rfl rfl (fF (v' := .bool false) (eF rfl rfl) (by rw [hst]; simp)) (dv 36 rfl (.refl _) (bS rfl rfl) (dv 37 rfl (.refl _) (aC rfl) (eI 38 rfl (.refl _) rfl rfl (aI kT rfl) (eI 39 rfl (.refl _) rfl rfl (aG dQ rfl (aK (.head _) rfl)) ?_)))))
 refine jU 40 rfl (by kernel_rfl) rfl rfl (aJ mC rfl rfl rfl rfl (jS (hS.sub (.cons _ (.cons _ (.refl _)))) 1 6 100000) (aU (.refl _) (eI 41 rfl (.refl _) rfl rfl (fF (v' := .bool false) (bF rfl) (by rw [htm]; rfl)) (dv 42 rfl (.refl _) (bS rfl rfl) (bQ (by kernel_rfl) (Tr.keep (env' := [(2, _), (3, _), (50, _)]) ⟨rfl, rfl, rfl, trivial⟩ ?_))))))
 refine aB (aR rfl (aO (aB (aE (aE ?_)))))
 refine aA (tv (aI eH rfl) (tv (aG gF rfl (aK (.head _) rfl)) (tv (aP Tryz.underlying109 rfl) (tv (aC rfl) (aF ?_)))))
 refine Tr.keep (env' := [(2, _), (3, _), (52, _), (53, _), (54, _)]) ⟨rfl, rfl, rfl, rfl, rfl, trivial⟩ (aB (aX (dW (fun k : Nat => [(2, .pointer (some ⟨b2, 0, none⟩)), (3, .pointer (some ⟨b3, 0, none⟩)), (52, .slice C lines.length cl2), (53, .int .i64 (lines.length : Int)), (54, .int .i64 (k : Int))]) (fun k : Nat => cel b3 111 [.int .i64 cl, .slice B starts.length cs, .slice C lines.length cl2] :: cel b2 33 [.slice A items.length ci, .int .i64 cls, r0, r1, r2, r3, r4, r5, r6, r7, r8, r9, r10, r11] :: M) (fun k : Nat => k ≤ items.length ∧ ∀ j, j < k → bH0 items lines j = true) (fun k : Nat => items.length - k) 0 ⟨by omega, by omega⟩ ⟨rfl, rfl, rfl, rfl, rfl, trivial⟩ (.refl _) ?_)))
 intro K k ⟨hk, hp⟩ IH
 refine aE (aA (tv (dI rfl rfl) (aF (Tr.keep (env' := [(2, _), (3, _), (52, _), (53, _), (54, _), (55, _)]) ⟨rfl, rfl, rfl, rfl, rfl, rfl, trivial⟩ (aB ?_)))))
 refine aE ?_
 refine bD rfl (fun hc1 => ?_) (fun hc1 => ?_)
 ·have hlt : k < items.length := by have := of_decide_eq_true hc1; omega
  obtain ⟨x, hx⟩ : ∃ x, items[k]? = some x := ⟨_, List.getElem?_eq_getElem hlt⟩
  obtain ⟨l, hl⟩ : ∃ l, lines[k]? = some l := ⟨_, List.getElem?_eq_getElem (by omega)⟩
  obtain ⟨xp, hxp⟩ : ∃ x, items[k - 1]? = some x := ⟨_, List.getElem?_eq_getElem (by omega)⟩
  obtain ⟨lp, hlp⟩ : ∃ l, lines[k - 1]? = some l := ⟨_, List.getElem?_eq_getElem (by omega)⟩
  have hms : aW0 items lines k = (decide (0 < (k : Int)) && (lp.mark == 2) && (xp.leg == x.leg)) := by
   cases k with
   | zero => simp [aW0]
   | succ j => simp at hxp hlp; simp [aW0, hxp, hlp, hx]
  refine aO (aB (aE (aX (aE (aA ?_)))))
  refine tv (aC rfl) (tv (cL (k) Tryz.underlying109 jF hC rfl rfl rfl (by omega)) (tv (aY oV rfl (fun j v hv => Rd.sub (hrl k _ (gl _ _ hl) j v hv) (.cons _ (.cons _ (.refl _)))) rfl) (te (bO eU (l := [.int .i64 0, .int .i64 0, .bool false, .int .i64 0]) rfl rfl fun b6 => (tv (aD rfl) (te (bJ jF rfl rfl (vs := [_, _, _, _]) rfl rfl (by simp [Value.oneCell']) (.cons .zero (.cons (.succ .zero) (.cons (.succ (.succ .zero)) (.cons (.succ (.succ (.succ .zero))) .nil)))) .here ?_)))))))
  refine aF (Tr.keep (env' := [(2, _), (3, _), (5, _), (6, _), (52, _), (53, _), (54, _)]) ⟨rfl, rfl, rfl, rfl, rfl, rfl, rfl, trivial⟩ (aB (aE (Tr.keep (env' := [(2, _), (3, _), (5, _), (6, _), (52, _), (53, _), (54, _)]) ⟨rfl, rfl, rfl, rfl, rfl, rfl, rfl, trivial⟩ ?_))))
  refine mG [(7, .bool (decide (0 < (k : Int)) && (lp.mark == 2) && (xp.leg == x.leg)))] (fun K hK => ?_) ?_
  ·skip
   refine cI cK rfl (dv 0 rfl (.refl _) (aC rfl) (dv 1 rfl (.refl _) (fC rfl rfl) (dv 2 rfl (.refl _) (aC rfl) ?_)))
   refine dN (s := 61) rfl (fun hd2 => ?_) (fun hd2 => ?_)
   ·skip
    refine dS 3 hd2 rfl (.refl _) rfl rfl (aI eH rfl) (dS 4 hd2 rfl (.refl _) rfl rfl (aG gF rfl (aK (.tail _ (.head _)) rfl)) (dS 5 hd2 rfl (.refl _) rfl rfl (aC rfl) (dS 6 hd2 rfl (.refl _) rfl rfl (cP rfl rfl (by omega)) (dS 7 hd2 rfl (.refl _) rfl rfl (cL (k - 1) Tryz.underlying109 jF hC rfl rfl (by have := of_decide_eq_true hd2; omega) (by omega)) (dS 8 hd2 rfl (.refl _) rfl rfl (aI iW rfl) ?_)))))
    refine dS 9 hd2 rfl (.refl _) rfl rfl (aG wX rfl (Rd.sub (hrl (k - 1) _ (gl _ _ hlp) 3 _ rfl) (.cons _ (.cons _ (.cons _ (.refl _)))))) (dS 10 hd2 rfl (.refl _) rfl rfl (cW rfl rfl) (dv 11 rfl (.refl _) (bV hd2 rfl rfl) (dv 12 rfl (.refl _) (aC rfl) ?_)))
    refine dN (s := 71) rfl (fun hd3 => ?_) (fun hd3 => ?_)
    ·skip
     refine dS 13 hd3 rfl (.refl _) rfl rfl (aI cQ rfl) (dS 14 hd3 rfl (.refl _) rfl rfl (aG eJ rfl (aK (.tail _ (.tail _ (.head _))) rfl)) (dS 15 hd3 rfl (.refl _) rfl rfl (aC rfl) (dS 16 hd3 rfl (.refl _) rfl rfl (cP rfl rfl (by omega)) (dS 17 hd3 rfl (.refl _) rfl rfl (cL (k - 1) Tryz.underlying28 eT hA rfl rfl (by have := of_decide_eq_true hd2; omega) (by omega)) (dS 18 hd3 rfl (.refl _) rfl rfl (aI eC rfl) ?_)))))
     refine dS 19 hd3 rfl (.refl _) rfl rfl (aG bB rfl (Rd.sub (hri (k - 1) _ (gi _ _ hxp) 1 _ rfl) (.cons _ (.cons _ (.cons _ (.refl _)))))) (dS 20 hd3 rfl (.refl _) rfl rfl (aI cQ rfl) (dS 21 hd3 rfl (.refl _) rfl rfl (aG eJ rfl (aK (.tail _ (.tail _ (.head _))) rfl)) (dS 22 hd3 rfl (.refl _) rfl rfl (aC rfl) (dS 23 hd3 rfl (.refl _) rfl rfl (cL (k) Tryz.underlying28 eT hA rfl rfl rfl (by omega)) (dS 24 hd3 rfl (.refl _) rfl rfl (aI eC rfl) ?_)))))
     refine dS 25 hd3 rfl (.refl _) rfl rfl (aG bB rfl (Rd.sub (hri k _ (gi _ _ hx) 1 _ rfl) (.cons _ (.cons _ (.cons _ (.refl _)))))) (dS 26 hd3 rfl (.refl _) rfl rfl (cW rfl rfl) (dv 27 rfl (.refl _) (bV hd3 rfl rfl) (dv 28 rfl (.refl _) (aD rfl) (bQ (by kernel_rfl) ?_))))
     exact dF hK ⟨(by first | (simp [dM.get, hd2, hd3]; done) | exact absurd hd2 (by decide) | exact absurd hd3 (by decide) | (simp_all [dM.get]; done)), rfl, rfl, rfl, rfl, rfl, rfl, rfl, trivial⟩ (.refl _)
    ·skip
     refine dR 13 hd3 rfl (.refl _) rfl rfl (dR 14 hd3 rfl (.refl _) rfl rfl (dR 15 hd3 rfl (.refl _) rfl rfl (dR 16 hd3 rfl (.refl _) rfl rfl (dR 17 hd3 rfl (.refl _) rfl rfl (dR 18 hd3 rfl (.refl _) rfl rfl ?_)))))
     refine dR 19 hd3 rfl (.refl _) rfl rfl (dR 20 hd3 rfl (.refl _) rfl rfl (dR 21 hd3 rfl (.refl _) rfl rfl (dR 22 hd3 rfl (.refl _) rfl rfl (dR 23 hd3 rfl (.refl _) rfl rfl (dR 24 hd3 rfl (.refl _) rfl rfl ?_)))))
     refine dR 25 hd3 rfl (.refl _) rfl rfl (dR 26 hd3 rfl (.refl _) rfl rfl (dv 27 rfl (.refl _) (bW hd3 rfl rfl) (dv 28 rfl (.refl _) (aD rfl) (bQ (by kernel_rfl) ?_))))
     exact dF hK ⟨(by first | (simp [dM.get, hd2, hd3]; done) | exact absurd hd2 (by decide) | exact absurd hd3 (by decide) | (simp_all [dM.get]; done)), rfl, rfl, rfl, rfl, rfl, rfl, rfl, trivial⟩ (.refl _)
   ·skip
    refine dR 3 hd2 rfl (.refl _) rfl rfl (dR 4 hd2 rfl (.refl _) rfl rfl (dR 5 hd2 rfl (.refl _) rfl rfl (dR 6 hd2 rfl (.refl _) rfl rfl (dR 7 hd2 rfl (.refl _) rfl rfl (dR 8 hd2 rfl (.refl _) rfl rfl ?_)))))
    refine dR 9 hd2 rfl (.refl _) rfl rfl (dR 10 hd2 rfl (.refl _) rfl rfl (dv 11 rfl (.refl _) (bW hd2 rfl rfl) (dv 12 rfl (.refl _) (aC rfl) (iJ 13 rfl (.refl _) rfl rfl (iJ 14 rfl (.refl _) rfl rfl ?_)))))
    refine iJ 15 rfl (.refl _) rfl rfl (iJ 16 rfl (.refl _) rfl rfl (iJ 17 rfl (.refl _) rfl rfl (iJ 18 rfl (.refl _) rfl rfl (iJ 19 rfl (.refl _) rfl rfl (iJ 20 rfl (.refl _) rfl rfl ?_)))))
    refine iJ 21 rfl (.refl _) rfl rfl (iJ 22 rfl (.refl _) rfl rfl (iJ 23 rfl (.refl _) rfl rfl (iJ 24 rfl (.refl _) rfl rfl (iJ 25 rfl (.refl _) rfl rfl (iJ 26 rfl (.refl _) rfl rfl ?_)))))
    refine dv 27 rfl (.refl _) (bS rfl rfl) (dv 28 rfl (.refl _) (aD rfl) (bQ (by kernel_rfl) ?_))
    exact dF hK ⟨(by first | (simp [dM.get, hd2]; done) | exact absurd hd2 (by decide) | (simp_all [dM.get]; done)), rfl, rfl, rfl, rfl, rfl, rfl, rfl, trivial⟩ (.refl _)
  refine Tr.keep (env' := [(2, _), (3, _), (5, _), (6, _), (7, _), (52, _), (53, _), (54, _)]) ⟨rfl, rfl, rfl, rfl, rfl, rfl, rfl, rfl, trivial⟩ (aB (aE (Tr.keep (env' := [(2, _), (3, _), (5, _), (6, _), (7, _), (52, _), (53, _), (54, _)]) ⟨rfl, rfl, rfl, rfl, rfl, rfl, rfl, rfl, trivial⟩ ?_)))
  refine mG [(102, .bool (!uK x l || (decide (0 < (k : Int)) && (lp.mark == 2) && (xp.leg == x.leg) && (l.mark != 2))))] (fun K hK => ?_) ?_
  ·skip
   refine cI cK rfl (dv 0 rfl (.refl _) (aI cQ rfl) (dv 1 rfl (.refl _) (aG eJ rfl (aK (.tail _ (.tail _ (.head _))) rfl)) (dv 2 rfl (.refl _) (aC rfl) (dv 3 rfl (.refl _) (cL (k) Tryz.underlying28 eT hA rfl rfl rfl (by omega)) (dv 4 rfl (.refl _) (aY qK rfl (fun j v hv => Rd.sub (hri k _ (gi _ _ hx) j v hv) (.cons _ (.cons _ (.cons _ (.refl _))))) rfl) ?_)))))
   refine dv 5 rfl (.refl _) (aY oV rfl (bL (n := 4) (vs := [_, _, _, _]) (.head _) rfl) rfl) (de 6 rfl (aJ en_283 rfl rfl rfl rfl (line_c x l) (aU (.refl _) (dv 7 rfl (.refl _) (bF rfl) (dv 8 rfl (.refl _) (aC rfl) ?_)))))
   refine dN (s := 95) rfl (fun hd4 => ?_) (fun hd4 => ?_)
   ·skip
    refine dR 9 hd4 rfl (.refl _) rfl rfl (dR 10 hd4 rfl (.refl _) rfl rfl (oS 11 rfl (.refl _) rfl rfl (oS 12 rfl (.refl _) rfl rfl (oS 13 rfl (.refl _) rfl rfl (dR 14 hd4 rfl (.refl _) rfl rfl ?_)))))
    refine dv 15 rfl (.refl _) (bV hd4 rfl rfl) (bQ (by kernel_rfl) ?_)
    exact dF hK ⟨(by first | (simp [dM.get, hd4]; done) | exact absurd hd4 (by decide) | (simp_all [dM.get]; done)), rfl, rfl, rfl, rfl, rfl, rfl, rfl, rfl, trivial⟩ (.refl _)
   ·skip
    refine dS 9 hd4 rfl (.refl _) rfl rfl (aC rfl) (dS 10 hd4 rfl (.refl _) rfl rfl (aC rfl) ?_)
    refine dN (s := 97) rfl (fun hd5 => ?_) (fun hd5 => ?_)
    ·skip
     refine dS 11 hd5 rfl (.refl _) rfl rfl (aI iW rfl) (dS 12 hd5 rfl (.refl _) rfl rfl (aG wX rfl (aK (.head _) rfl)) (dS 13 hd5 rfl (.refl _) rfl rfl (eF rfl rfl) (dS 14 hd4 rfl (.refl _) rfl rfl (bV hd5 rfl rfl) (dv 15 rfl (.refl _) (bW hd4 rfl rfl) (bQ (by kernel_rfl) ?_)))))
     exact dF hK ⟨(by first | (simp [dM.get, hd4, hd5]; done) | exact absurd hd4 (by decide) | exact absurd hd5 (by decide) | (simp_all [dM.get]; done)), rfl, rfl, rfl, rfl, rfl, rfl, rfl, rfl, trivial⟩ (.refl _)
    ·skip
     refine dR 11 hd5 rfl (.refl _) rfl rfl (dR 12 hd5 rfl (.refl _) rfl rfl (dR 13 hd5 rfl (.refl _) rfl rfl (dS 14 hd4 rfl (.refl _) rfl rfl (bW hd5 rfl rfl) (dv 15 rfl (.refl _) (bW hd4 rfl rfl) (bQ (by kernel_rfl) ?_)))))
     exact dF hK ⟨(by first | (simp [dM.get, hd4, hd5]; done) | exact absurd hd4 (by decide) | exact absurd hd5 (by decide) | (simp_all [dM.get]; done)), rfl, rfl, rfl, rfl, rfl, rfl, rfl, rfl, trivial⟩ (.refl _)
  refine Tr.keep (env' := [(2, _), (3, _), (52, _), (53, _), (54, _), (102, _)]) ⟨rfl, rfl, rfl, rfl, rfl, rfl, trivial⟩ (aB ?_)
  refine bD rfl (fun hbad => ?_) (fun hbad => ?_)
  ·skip
   refine aE (aA (tv (aD rfl) (aF (Tr.keep (env' := [(4, _)]) ⟨rfl, trivial⟩ (aB ?_)))))
   refine aQ (bM (aN (aN (bM (aN ?_)))))
   refine aW rfl rfl (fun w hw => (⟨?_, Ok.sub hw (.cons _ (.cons _ (.cons _ (.refl _))))⟩))
   rw [if_neg]
   intro hall
   have h8 := hall k hlt
   simp only [bH0, hx, hl, hms] at h8
   exact notok hbad h8
  ·skip
   refine aO (cX (aB (aA (tv (cC rfl rfl (by omega)) (tv (aC rfl) ?_)))))
   refine aF (Tr.keep (env' := [(2, _), (3, _), (52, _), (53, _), (54, _)]) ⟨rfl, rfl, rfl, rfl, rfl, trivial⟩ (aB (nD (IH (k + 1) ⟨by omega, fun j hj => ?_⟩ (by omega)) ⟨rfl, rfl, rfl, rfl, rfl, trivial⟩ (.cons _ (.refl _)))))
   rcases Nat.lt_or_ge j k with h | h
   ·exact hp j h
   ·obtain rfl : j = k := by omega
    simp only [bH0, hx, hl, hms]
    exact okbool hbad
 ·have h9 : ¬ k < items.length := by have := of_decide_eq_false hc1; omega
  refine cY (aS (aS (bX (aB (aE ?_)))))
  refine aA (tv (aD rfl) (aF (Tr.keep (env' := [(4, _)]) ⟨rfl, trivial⟩ (aB (aQ ?_)))))
  refine aW rfl rfl (fun w hw => (⟨?_, Ok.sub hw (.cons _ (.cons _ (.refl _)))⟩))
  rw [if_pos]
  intro j hj
  exact hp j (by omega)
end
end Go.Proofs.W
