/-
 What functions of the program that RallyChecks reaches do, one contract each, part 8.
-/
import Derived.Test.YtakiijkfjjmppaaGreatDoorKWG
import Derived.Test.YtakiijkfjjmppaaGreatDoorKSlB
set_option linter.unusedVariables false
set_option linter.unusedSimpArgs false
set_option linter.unusedSectionVars false
set_option maxRecDepth 100000
set_option maxHeartbeats 1000000
namespace Go.Proofs.W
open Go Go.Sl Go.RowKit Go.Proofs
attribute [local irreducible] Go.Sl.Eff
theorem aF1 : aV Tryz.prog 236 := aL Tryz.func236 (by kernel_rfl) (by kernel_rfl)
theorem en_238 : aV Tryz.prog 238 := aL Tryz.func238 (by kernel_rfl) (by kernel_rfl)
theorem aQ2 : aV Tryz.prog 239 := aL Tryz.func239 (by kernel_rfl) (by kernel_rfl)
theorem aQ3 : aV Tryz.prog 268 := aL Tryz.func268 (by kernel_rfl) (by kernel_rfl)
theorem pF {u : ByteArray} (c : UInt8) (r : Array UInt8) (h : fT u) (hc : c.toNat < 48 ∨ 57 < c.toNat) : decide (u = ⟨(#[c] ++ r)⟩) = false := by
 rw [decide_eq_false_iff_not]
 rintro rfl
 have h1 := h 0 (by simp [ByteArray.size]; omega)
 have h2 : (ByteArray.mk (#[c] ++ r)).get! 0 = c := by
  show (#[c] ++ r)[0]! = c
  rw [getElem!_pos _ _ (by simp; omega)]
  simp [Array.getElem_append]
 rw [h2] at h1
 omega
theorem mN : KeyK Tryz.prog 112 (fun i : Int => Value.int .i64 i) := KeyK.int Tryz.underlying112
section
variable {w0 : World} {M : List Ent}
theorem leg1_c {b4 b : Nat} {sN s l : Sl3} {s0 t0 : Int} {l0 l1 l2 : CLine} {X : List Ent} (hb4 : cel b4 24 [sN.v 3] ∈ X) (hN : cel sN.b 3 (.int .i64 1 :: .int .i64 0 :: .int .i64 t0 :: sN.sp) ∈ X) :
  ∀ w, Ok w0 (cel b 111 [.int .i64 0, s.v 1, l.v 3] :: cel s.b 3 (bT ([s0].map encI) ++ s.sp) :: cel l.b 114 (bT ([l0, l1, l2].map CLine.cells) ++ l.sp) :: X) w →
   Calls Tryz.prog 238 #[.pointer (some ⟨b, 0, none⟩), .pointer (some ⟨b4, 0, none⟩)] w (fun e w' => e = .returned (.tuple #[]) ∧ Ok w0 (cel b 111 [.int .i64 0, s.v 1, l.v 3] :: cel s.b 3 (bT ([t0].map encI) ++ s.sp) :: cel l.b 114 (bT ([l0, l1, l2].map CLine.cells) ++ l.sp) :: X) w') := by
 refine enter (vs := [_, _]) Tryz.func238 rfl Tryz.ntmps238 rfl (dV (.cons_cons _ (.cons _ (.refl _))) cK rfl (dv 0 rfl (.cons_cons _ (.cons _ (.refl _))) (aC rfl) (dv 1 rfl (.cons_cons _ (.cons _ (.refl _))) (aM rfl) (dv 2 rfl (.cons_cons _ (.cons _ (.refl _))) (aI kT rfl) (dv 3 rfl (.cons_cons _ (.cons _ (.refl _))) (aG dQ rfl (aK (.head _) rfl)) ?_)))))
 refine dv 4 rfl (.cons_cons _ (.cons _ (.refl _))) (aG dQ rfl (aK (.tail _ (.tail _ hb4)) rfl)) (dv 5 rfl (.cons_cons _ (.cons _ (.refl _))) (dE (j := 1) Tryz.underlying24 eR rfl rfl rfl (by decide)) (dv 6 rfl (.cons_cons _ (.cons _ (.refl _))) (aG bB rfl (aK (.tail _ (.tail _ hN)) rfl)) (dv 7 rfl (.cons_cons _ (.cons _ (.refl _))) (aG dQ rfl (aK (.tail _ (.tail _ hb4)) rfl)) (dv 8 rfl (.cons_cons _ (.cons _ (.refl _))) (dE (j := 2) Tryz.underlying24 eR rfl rfl rfl (by decide)) (dv 9 rfl (.cons_cons _ (.cons _ (.refl _))) (aG bB rfl (aK (.tail _ (.tail _ hN)) rfl)) ?_)))))
 refine dv 10 rfl (.cons_cons _ (.cons _ (.refl _))) (dE (j := 0) Tryz.underlying24 eR rfl rfl rfl (by decide)) (de 11 rfl (bR eR rfl rfl rfl .zero (.there .here) (aU (.cons_cons _ (.cons _ (.refl _))) (bQ (by kernel_rfl) (Tr.keep (env' := []) trivial (eV rfl (fun w hw => ?_)))))))
 exact ⟨rfl, hw⟩
theorem item1_0 {lb ib b : Nat} {s l : Sl3} {s0 : Int} {l0 l1 l2 v : CLine} {X : List Ent} (hlb : cel lb 114 v.cells ∈ X) (hib : cel ib 3 [.int .i64 0] ∈ X) :
  ∀ w, Ok w0 (cel b 111 [.int .i64 0, s.v 1, l.v 3] :: cel s.b 3 (bT ([s0].map encI) ++ s.sp) :: cel l.b 114 (bT ([l0, l1, l2].map CLine.cells) ++ l.sp) :: X) w →
   Calls Tryz.prog 268 #[.pointer (some ⟨b, 0, none⟩), .pointer (some ⟨lb, 0, none⟩), .pointer (some ⟨ib, 0, none⟩)] w (fun e w' => e = .returned (.tuple #[]) ∧ Ok w0 (cel b 111 [.int .i64 0, s.v 1, l.v 3] :: cel s.b 3 (bT ([s0].map encI) ++ s.sp) :: cel l.b 114 (bT ([v, l1, l2].map CLine.cells) ++ l.sp) :: X) w') := by
 refine enter (vs := [_, _, _]) Tryz.func268 rfl Tryz.ntmps268 rfl (dV (.cons_cons _ (.cons_cons _ (.cons _ (.refl _)))) cK rfl (dv 0 rfl (.cons_cons _ (.cons_cons _ (.cons _ (.refl _)))) (aC rfl) (dv 1 rfl (.cons_cons _ (.cons_cons _ (.cons _ (.refl _)))) (aM rfl) (dv 2 rfl (.cons_cons _ (.cons_cons _ (.cons _ (.refl _)))) (aI eH rfl) (dv 3 rfl (.cons_cons _ (.cons_cons _ (.cons _ (.refl _)))) (aG gF rfl (aK (.head _) rfl)) ?_)))))
 refine dv 4 rfl (.cons_cons _ (.cons_cons _ (.cons _ (.refl _)))) (aG bB rfl (aK (.tail _ (.tail _ hib)) rfl)) (dv 5 rfl (.cons_cons _ (.cons_cons _ (.cons _ (.refl _)))) (aY oV rfl (bL (n := 4) (vs := [_, _, _, _]) (.tail _ (.tail _ hlb)) rfl) rfl) (dv 6 rfl (.cons_cons _ (.cons_cons _ (.cons _ (.refl _)))) (dE (j := 0) Tryz.underlying109 jF rfl rfl rfl (by decide)) (de 7 rfl (bJ jF rfl rfl (vs := [_, _, _, _]) rfl rfl (by simp [Value.oneCell']) (.cons .zero (.cons (.succ .zero) (.cons (.succ (.succ .zero)) (.cons (.succ (.succ (.succ .zero))) .nil)))) (.there (.there .here)) (aU (.cons_cons _ (.cons_cons _ (.cons _ (.refl _)))) (bQ (by kernel_rfl) ?_))))))
 refine Tr.keep (env' := []) trivial (eV rfl (fun w hw => ?_))
 exact ⟨rfl, hw⟩
theorem aV8 {lb ib b : Nat} {s l : Sl3} {s0 : Int} {l0 l1 l2 v : CLine} {X : List Ent} (hlb : cel lb 114 v.cells ∈ X) (hib : cel ib 3 [.int .i64 1] ∈ X) :
  ∀ w, Ok w0 (cel b 111 [.int .i64 0, s.v 1, l.v 3] :: cel s.b 3 (bT ([s0].map encI) ++ s.sp) :: cel l.b 114 (bT ([l0, l1, l2].map CLine.cells) ++ l.sp) :: X) w →
   Calls Tryz.prog 268 #[.pointer (some ⟨b, 0, none⟩), .pointer (some ⟨lb, 0, none⟩), .pointer (some ⟨ib, 0, none⟩)] w (fun e w' => e = .returned (.tuple #[]) ∧ Ok w0 (cel b 111 [.int .i64 0, s.v 1, l.v 3] :: cel s.b 3 (bT ([s0].map encI) ++ s.sp) :: cel l.b 114 (bT ([l0, v, l2].map CLine.cells) ++ l.sp) :: X) w') := by
 refine enter (vs := [_, _, _]) Tryz.func268 rfl Tryz.ntmps268 rfl (dV (.cons_cons _ (.cons_cons _ (.cons _ (.refl _)))) cK rfl (dv 0 rfl (.cons_cons _ (.cons_cons _ (.cons _ (.refl _)))) (aC rfl) (dv 1 rfl (.cons_cons _ (.cons_cons _ (.cons _ (.refl _)))) (aM rfl) (dv 2 rfl (.cons_cons _ (.cons_cons _ (.cons _ (.refl _)))) (aI eH rfl) (dv 3 rfl (.cons_cons _ (.cons_cons _ (.cons _ (.refl _)))) (aG gF rfl (aK (.head _) rfl)) ?_)))))
 refine dv 4 rfl (.cons_cons _ (.cons_cons _ (.cons _ (.refl _)))) (aG bB rfl (aK (.tail _ (.tail _ hib)) rfl)) (dv 5 rfl (.cons_cons _ (.cons_cons _ (.cons _ (.refl _)))) (aY oV rfl (bL (n := 4) (vs := [_, _, _, _]) (.tail _ (.tail _ hlb)) rfl) rfl) (dv 6 rfl (.cons_cons _ (.cons_cons _ (.cons _ (.refl _)))) (dE (j := 1) Tryz.underlying109 jF rfl rfl rfl (by decide)) (de 7 rfl (bJ jF rfl rfl (vs := [_, _, _, _]) rfl rfl (by simp [Value.oneCell']) (.cons (.succ (.succ (.succ (.succ .zero)))) (.cons (.succ (.succ (.succ (.succ (.succ .zero))))) (.cons (.succ (.succ (.succ (.succ (.succ (.succ .zero)))))) (.cons (.succ (.succ (.succ (.succ (.succ (.succ (.succ .zero))))))) .nil)))) (.there (.there .here)) (aU (.cons_cons _ (.cons_cons _ (.cons _ (.refl _)))) (bQ (by kernel_rfl) ?_))))))
 refine Tr.keep (env' := []) trivial (eV rfl (fun w hw => ?_))
 exact ⟨rfl, hw⟩
theorem aY2 {ea : EvAt} {lv : Value} {Fr : List Ent} {s0 : Int} {l0 l1 l2 v : CLine} (hev : ea.ev lv ∈ Fr) (hin : ea.sa.In Fr) (ht : 0 ≤ s0 ∧ s0 ≤ 100000) (hok : jW v l1 l2) :
  ∀ w, Ok w0 (ea.ec (cd s0 l0 l1 l2) :: ea.es (cd s0 l0 l1 l2) :: ea.el (cd s0 l0 l1 l2) :: Fr) w → Calls Tryz.prog 239 #[.pointer (some ⟨ea.eb, 0, none⟩), .int .i64 0, .int .i64 0, .agg v.cells.toArray] w (fun e w' => ∃ y : Sl3 × Sl3, e = .returned (.tuple #[]) ∧ True ∧ Ok w0 ({ ea with starts := y.1, lines := y.2 }.ec (cd s0 v l1 l2) :: { ea with starts := y.1, lines := y.2 }.es (cd s0 v l1 l2) :: { ea with starts := y.1, lines := y.2 }.el (cd s0 v l1 l2) :: Fr) w') := by
 refine enter (vs := [_, _, _, _]) Tryz.func239 rfl Tryz.ntmps239 rfl (aE (aA (te (eL rfl rfl rfl fun b6 => (te (cH rfl rfl fun b7 => (aF ?_)))))))
 refine Tr.keep (env' := [(0, _), (1, _), (6, _), (7, _)]) ⟨rfl, rfl, rfl, rfl, trivial⟩ (aB (aE (aE (cI cK rfl (dv 0 rfl (.refl _) (aG bB rfl (aK (.tail _ (.head _)) rfl)) ?_)))))
 refine dv 1 rfl (.refl _) (aC rfl) (dv 2 rfl (.refl _) (aM rfl) (dv 3 rfl (.refl _) (aI eD rfl) (dv 4 rfl (.refl _) (aI eA rfl) (dv 5 rfl (.refl _) (aI cQ rfl) (dv 6 rfl (.refl _) (aG eJ rfl (aK (.tail _ (.tail _ (.tail _ (.tail _ (.tail _ hev))))) rfl)) ?_)))))
 refine dv 7 rfl (.refl _) (aP Tryz.underlying28 rfl) (dv 8 rfl (.refl _) (fI rfl rfl) (bQ (by kernel_rfl) (Tr.keep (env' := [(0, _), (1, _), (6, _), (7, _), (16, _)]) ⟨rfl, rfl, rfl, rfl, rfl, trivial⟩ (aB (aR rfl ?_)))))
 refine aO (aB (aA (tv (aC rfl) (tv (aC rfl) (tv (bG rfl rfl) ?_)))))
 refine te (bP aF1 rfl rfl rfl rfl (fun w hw => yH (ea := ea) (lv := lv) (fun b => #[.pointer (some ⟨b, 0, none⟩), .pointer (some ⟨b7, 0, none⟩), .pointer (some ⟨b6, 0, none⟩)]) (fun _ => rfl) (.tail _ (.tail _ hev)) (hin.sub (.cons _ (.cons _ (.refl _)))) aQ3 (fun b s l X hX w hw => item1_0 (v := v) (hX.subset (.head _)) (hX.subset (.tail _ (.head _))) w hw) ht hok w (hw.perm (pk (.there (.there .here)) (pk (.there (.there .here)) (pk (.there (.there .here)) (.refl _)))))) fun y _ => (aF (Tr.keep (env' := []) trivial (eV rfl (fun w hw => ?_)))))
 exact ⟨y, rfl, trivial, Ok.sub (hw.perm (pk .here (pk .here (pk .here (.refl _))))) (.cons_cons _ (.cons_cons _ (.cons_cons _ (.cons _ (.cons _ (.refl _))))))⟩
theorem aY3 {ea : EvAt} {lv : Value} {Fr : List Ent} {s0 : Int} {l0 l1 l2 v : CLine} (hev : ea.ev lv ∈ Fr) (hin : ea.sa.In Fr) (ht : 0 ≤ s0 ∧ s0 ≤ 100000) (hok : jW l0 v l2) :
  ∀ w, Ok w0 (ea.ec (cd s0 l0 l1 l2) :: ea.es (cd s0 l0 l1 l2) :: ea.el (cd s0 l0 l1 l2) :: Fr) w → Calls Tryz.prog 239 #[.pointer (some ⟨ea.eb, 0, none⟩), .int .i64 0, .int .i64 1, .agg v.cells.toArray] w (fun e w' => ∃ y : Sl3 × Sl3, e = .returned (.tuple #[]) ∧ True ∧ Ok w0 ({ ea with starts := y.1, lines := y.2 }.ec (cd s0 l0 v l2) :: { ea with starts := y.1, lines := y.2 }.es (cd s0 l0 v l2) :: { ea with starts := y.1, lines := y.2 }.el (cd s0 l0 v l2) :: Fr) w') := by
 refine enter (vs := [_, _, _, _]) Tryz.func239 rfl Tryz.ntmps239 rfl (aE (aA (te (eL rfl rfl rfl fun b6 => (te (cH rfl rfl fun b7 => (aF ?_)))))))
 refine Tr.keep (env' := [(0, _), (1, _), (6, _), (7, _)]) ⟨rfl, rfl, rfl, rfl, trivial⟩ (aB (aE (aE (cI cK rfl (dv 0 rfl (.refl _) (aG bB rfl (aK (.tail _ (.head _)) rfl)) ?_)))))
 refine dv 1 rfl (.refl _) (aC rfl) (dv 2 rfl (.refl _) (aM rfl) (dv 3 rfl (.refl _) (aI eD rfl) (dv 4 rfl (.refl _) (aI eA rfl) (dv 5 rfl (.refl _) (aI cQ rfl) (dv 6 rfl (.refl _) (aG eJ rfl (aK (.tail _ (.tail _ (.tail _ (.tail _ (.tail _ hev))))) rfl)) ?_)))))
 refine dv 7 rfl (.refl _) (aP Tryz.underlying28 rfl) (dv 8 rfl (.refl _) (fI rfl rfl) (bQ (by kernel_rfl) (Tr.keep (env' := [(0, _), (1, _), (6, _), (7, _), (16, _)]) ⟨rfl, rfl, rfl, rfl, rfl, trivial⟩ (aB (aR rfl ?_)))))
 refine aO (aB (aA (tv (aC rfl) (tv (aC rfl) (tv (bG rfl rfl) ?_)))))
 refine te (bP aF1 rfl rfl rfl rfl (fun w hw => yH (ea := ea) (lv := lv) (fun b => #[.pointer (some ⟨b, 0, none⟩), .pointer (some ⟨b7, 0, none⟩), .pointer (some ⟨b6, 0, none⟩)]) (fun _ => rfl) (.tail _ (.tail _ hev)) (hin.sub (.cons _ (.cons _ (.refl _)))) aQ3 (fun b s l X hX w hw => aV8 (v := v) (hX.subset (.head _)) (hX.subset (.tail _ (.head _))) w hw) ht hok w (hw.perm (pk (.there (.there .here)) (pk (.there (.there .here)) (pk (.there (.there .here)) (.refl _)))))) fun y _ => (aF (Tr.keep (env' := []) trivial (eV rfl (fun w hw => ?_)))))
 exact ⟨y, rfl, trivial, Ok.sub (hw.perm (pk .here (pk .here (pk .here (.refl _))))) (.cons_cons _ (.cons_cons _ (.cons_cons _ (.cons _ (.cons _ (.refl _))))))⟩
theorem aY4 {ea : EvAt} {lv : Value} {Fr : List Ent} {s0 : Int} {l0 l1 l2 v : CLine} (hev : ea.ev lv ∈ Fr) (hin : ea.sa.In Fr) (ht : 0 ≤ s0 ∧ s0 ≤ 100000) (hok : ¬ jW l0 v l2) :
  ∀ w, Ok w0 (ea.ec (cd s0 l0 l1 l2) :: ea.es (cd s0 l0 l1 l2) :: ea.el (cd s0 l0 l1 l2) :: Fr) w → Calls Tryz.prog 239 #[.pointer (some ⟨ea.eb, 0, none⟩), .int .i64 0, .int .i64 1, .agg v.cells.toArray] w (fun e w' => e = .panicked (jQ 2) ∧ Ok w0 (ea.ec (cd s0 l0 l1 l2) :: ea.es (cd s0 l0 l1 l2) :: ea.el (cd s0 l0 l1 l2) :: Fr) w') := by
 refine enter (vs := [_, _, _, _]) Tryz.func239 rfl Tryz.ntmps239 rfl (aE (aA (te (eL rfl rfl rfl fun b6 => (te (cH rfl rfl fun b7 => (aF ?_)))))))
 refine Tr.keep (env' := [(0, _), (1, _), (6, _), (7, _)]) ⟨rfl, rfl, rfl, rfl, trivial⟩ (aB (aE (aE (cI cK rfl (dv 0 rfl (.refl _) (aG bB rfl (aK (.tail _ (.head _)) rfl)) ?_)))))
 refine dv 1 rfl (.refl _) (aC rfl) (dv 2 rfl (.refl _) (aM rfl) (dv 3 rfl (.refl _) (aI eD rfl) (dv 4 rfl (.refl _) (aI eA rfl) (dv 5 rfl (.refl _) (aI cQ rfl) (dv 6 rfl (.refl _) (aG eJ rfl (aK (.tail _ (.tail _ (.tail _ (.tail _ (.tail _ hev))))) rfl)) ?_)))))
 refine dv 7 rfl (.refl _) (aP Tryz.underlying28 rfl) (dv 8 rfl (.refl _) (fI rfl rfl) (bQ (by kernel_rfl) (Tr.keep (env' := [(0, _), (1, _), (6, _), (7, _), (16, _)]) ⟨rfl, rfl, rfl, rfl, rfl, trivial⟩ (aB (aR rfl ?_)))))
 refine aO (aB (aA (tv (aC rfl) (tv (aC rfl) (tv (bG rfl rfl) ?_)))))
 refine te (kU aF1 rfl rfl rfl (fun w hw => bK5 (ea := ea) (lv := lv) (fun b => #[.pointer (some ⟨b, 0, none⟩), .pointer (some ⟨b7, 0, none⟩), .pointer (some ⟨b6, 0, none⟩)]) (fun _ => rfl) (.tail _ (.tail _ hev)) (hin.sub (.cons _ (.cons _ (.refl _)))) aQ3 (fun b s l X hX w hw => aV8 (v := v) (hX.subset (.head _)) (hX.subset (.tail _ (.head _))) w hw) ht hok w (hw.perm (pk (.there (.there .here)) (pk (.there (.there .here)) (pk (.there (.there .here)) (.refl _)))))) ?_)
 exact gT (fun w hw => ⟨rfl, Ok.sub hw (.cons_cons _ (.cons_cons _ (.cons_cons _ (.cons _ (.cons _ (.refl _))))))⟩)
theorem leg_ok {ea : EvAt} {lv : Value} {Fr : List Ent} {s0 t0 : Int} {l0 l1 l2 : CLine} {A : Option Addr} {cc : Nat} {x y z v : ByteArray} (hev : ea.ev lv ∈ Fr) (hin : ea.sa.In Fr) (hs : SlRd w0 (ea.ec (cd s0 l0 l1 l2) :: ea.es (cd s0 l0 l1 l2) :: ea.el (cd s0 l0 l1 l2) :: Fr) 1 A 3 [dG x, dG y, dG z]) (hx : iA x 1) (hy : iA y 0) (hz : iA z t0) (ht : 0 ≤ t0 ∧ t0 ≤ 100000) (hok : jW l0 l1 l2) :
  ∀ w, Ok w0 (ea.ec (cd s0 l0 l1 l2) :: ea.es (cd s0 l0 l1 l2) :: ea.el (cd s0 l0 l1 l2) :: Fr) w → Calls Tryz.prog 179 #[.pointer (some ⟨ea.eb, 0, none⟩), .agg #[.string v, .slice A 3 cc]] w (fun e w' => ∃ y : Sl3 × Sl3, e = .returned (.tuple #[]) ∧ True ∧ Ok w0 ({ ea with starts := y.1, lines := y.2 }.ec (cd t0 l0 l1 l2) :: { ea with starts := y.1, lines := y.2 }.es (cd t0 l0 l1 l2) :: { ea with starts := y.1, lines := y.2 }.el (cd t0 l0 l1 l2) :: Fr) w') := by
 refine enter (vs := [_, _]) Tryz.func179 rfl Tryz.ntmps179 rfl (aE (aA (te (cH rfl rfl fun b3 => (aF (Tr.keep (env' := [(0, _), (3, _)]) ⟨rfl, rfl, trivial⟩ ?_))))))
 refine aB (aE (aA (tv (aY kY rfl (bL (n := 2) (vs := [_, _]) (.head _) rfl) rfl) (te (bP kZ rfl rfl rfl rfl (fW (ws := [x, y, z]) _ (hs.sub (.cons _ (.refl _))) (by intro z hz; simp at hz; rcases hz with rfl | rfl | rfl <;> first | exact hx.1 | exact hy.1 | exact hz.1) (by simp)) fun xo hO => ?_)))))
 obtain ⟨xv, xE⟩ := xo
 dsimp only at hO ⊢
 obtain ⟨sN, hv, hE⟩ := gA (n := 3) hO rfl (by decide)
 subst hv hE
 show Tr _ _ _ _ (cel sN.b 3 (.int .i64 (fH x) :: .int .i64 (fH y) :: .int .i64 (fH z) :: sN.sp) :: _) _
 rw [hx.2]
 rw [hy.2]
 rw [hz.2]
 refine te (bO aG0 (l := [.slice none 0 0]) rfl rfl fun b4 => (te (bR lG rfl rfl rfl .zero .here (aF (Tr.keep (env' := [(0, _), (4, _)]) ⟨rfl, rfl, trivial⟩ (aB (aE ?_)))))))
 refine aA (tv (aC rfl) (tv (aG dQ rfl (aK (.head _) rfl)) (tv (dE (j := 0) Tryz.underlying24 eR rfl rfl rfl (by decide)) (tv (aG bB rfl (aK (.tail _ (.head _)) rfl)) (te (aJ rB rfl rfl rfl rfl (wJ (e' := ea) (lv := lv) ((.tail _ (.tail _ (.tail _ (.tail _ (.tail _ (.tail _ hev)))))))) ?_))))))
 refine tv (aD rfl) (aF (Tr.keep (env' := [(0, _), (4, _), (5, _)]) ⟨rfl, rfl, rfl, trivial⟩ (aB (aE (aE ?_)))))
 refine cI cK rfl (dv 0 rfl (.refl _) (aG dQ rfl (aK (.head _) rfl)) (dv 1 rfl (.refl _) (dE (j := 1) Tryz.underlying24 eR rfl rfl rfl (by decide)) (dv 2 rfl (.refl _) (aG bB rfl (aK (.tail _ (.head _)) rfl)) (dv 3 rfl (.refl _) (aC rfl) (dv 4 rfl (.refl _) (aM rfl) ?_)))))
 refine dv 5 rfl (.refl _) (aI iT rfl) (dv 6 rfl (.refl _) (aG pO rfl (aK (.tail _ (.tail _ (.tail _ (.tail _ (.tail _ (.tail _ hev)))))) rfl)) (dv 7 rfl (.refl _) (aC rfl) (dv 8 rfl (.refl _) (dE (j := 0) Tryz.underlying53 dA rfl rfl rfl (by decide)) (dv 9 rfl (.refl _) (aI kT rfl) (dv 10 rfl (.refl _) (aG dQ rfl (aK (.tail _ (.tail _ (.tail _ (.head _)))) rfl)) ?_)))))
 refine dv 11 rfl (.refl _) (aP Tryz.underlying24 rfl) (dv 12 rfl (.refl _) (fI rfl rfl) (bQ (by kernel_rfl) (Tr.keep (env' := [(0, _), (4, _), (5, _), (25, _)]) ⟨rfl, rfl, rfl, rfl, trivial⟩ (aB (aR rfl ?_)))))
 refine aO (aB (aA (tv (aC rfl) (tv (aC rfl) (tv (bG rfl rfl) ?_)))))
 refine te (bP aF1 rfl rfl rfl rfl (fun w hw => yH (ea := ea) (lv := lv) (fun b => #[.pointer (some ⟨b, 0, none⟩), .pointer (some ⟨b4, 0, none⟩)]) (fun _ => rfl) (.tail _ (.tail _ (.tail _ hev))) (hin.sub (.cons _ (.cons _ (.cons _ (.refl _))))) en_238 (fun b s l X hX w hw => leg1_c (hX.subset (.head _)) (hX.subset (.tail _ (.head _))) w hw) ht hok w (hw.perm (pk (.there (.there (.there .here))) (pk (.there (.there (.there .here))) (pk (.there (.there (.there .here))) (.refl _)))))) fun y _ => (aF (Tr.keep (env' := []) trivial (eV rfl (fun w hw => ?_)))))
 exact ⟨y, rfl, trivial, Ok.sub (hw.perm (pk .here (pk .here (pk .here (.refl _))))) (.cons_cons _ (.cons_cons _ (.cons_cons _ (.cons _ (.cons _ (.cons _ (.refl _)))))))⟩
theorem aY5 {ea : EvAt} {lv : Value} {Fr : List Ent} {s0 n2 n3 : Int} {l0 l1 l2 : CLine} {A : Option Addr} {cc : Nat} {x y z u v : ByteArray} (hev : ea.ev lv ∈ Fr) (hin : ea.sa.In Fr) (hs : SlRd w0 (ea.ec (cd s0 l0 l1 l2) :: ea.es (cd s0 l0 l1 l2) :: ea.el (cd s0 l0 l1 l2) :: Fr) 1 A 4 [dG x, dG y, dG z, dG u]) (hx : iA x 1) (hy : iA y 0) (hz : iA z n2) (hu : iA u n3) (ht : 0 ≤ s0 ∧ s0 ≤ 100000) (hok : jW ⟨n2, n3, false, 0⟩ l1 l2) :
  ∀ w, Ok w0 (ea.ec (cd s0 l0 l1 l2) :: ea.es (cd s0 l0 l1 l2) :: ea.el (cd s0 l0 l1 l2) :: Fr) w → Calls Tryz.prog 180 #[.pointer (some ⟨ea.eb, 0, none⟩), .agg #[.string v, .slice A 4 cc]] w (fun e w' => ∃ y : Sl3 × Sl3, e = .returned (.tuple #[]) ∧ True ∧ Ok w0 ({ ea with starts := y.1, lines := y.2 }.ec (cd s0 ⟨n2, n3, false, 0⟩ l1 l2) :: { ea with starts := y.1, lines := y.2 }.es (cd s0 ⟨n2, n3, false, 0⟩ l1 l2) :: { ea with starts := y.1, lines := y.2 }.el (cd s0 ⟨n2, n3, false, 0⟩ l1 l2) :: Fr) w') := by
 obtain ⟨b, o, hA, hrd⟩ := hs.at' (by decide)
 refine enter (vs := [_, _]) Tryz.func180 rfl Tryz.ntmps180 rfl (aE (aA (te (cH rfl rfl fun b3 => (aF (Tr.keep (env' := [(0, _), (3, _)]) ⟨rfl, rfl, trivial⟩ ?_))))))
 refine aB (aE (aA (te (bO eU (l := [.int .i64 0, .int .i64 0, .bool false, .int .i64 0]) rfl rfl fun b4 => (aF (Tr.keep (env' := [(0, _), (3, _), (4, _)]) ⟨rfl, rfl, rfl, trivial⟩ ?_))))))
 refine aB (aE (aA (tv (aD rfl) (aF (Tr.keep (env' := [(0, _), (3, _), (4, _), (5, _)]) ⟨rfl, rfl, rfl, rfl, trivial⟩ ?_)))))
 refine aB (aE (aE (aA (tv (aI fP rfl) (tv (aG gU rfl (aK (.tail _ (.head _)) rfl)) ?_)))))
 refine tv (aP Tryz.underlying58 rfl) (tv (cP rfl rfl (by omega)) (tv (aD rfl) (aF (Tr.keep (env' := [(0, _), (3, _), (4, _), (5, _), (6, _)]) ⟨rfl, rfl, rfl, rfl, rfl, trivial⟩ (aB ?_)))))
 refine aE (aA (tv (aC rfl) (tv (fI rfl rfl) (tv (aC rfl) (cV rfl rfl (aI fP rfl) ?_)))))
 refine cV rfl rfl (aG gU rfl (aK (.tail _ (.head _)) rfl)) (cV rfl rfl (aC rfl) (cV rfl rfl (cL 3 Tryz.underlying58 oI hA rfl rfl rfl (by decide)) (cV rfl rfl (aG iP rfl ((hrd 3 (dG u) rfl 0 (.string u) rfl).sub (.cons _ (.cons _ (.refl _))))) (cV rfl rfl (cM (v2 := .bool false) (iE rfl rfl) (congrArg Value.bool (pF 106 #[117, 109, 112] hu.1.1 (by decide)))) (tv (cG rfl rfl) ?_)))))
 refine aF (Tr.keep (env' := [(0, _), (3, _), (4, _), (5, _), (6, _), (23, _)]) ⟨rfl, rfl, rfl, rfl, rfl, rfl, trivial⟩ (aB (aR rfl (aO (aB ?_)))))
 refine aE (aE (aA (tv (aI fP rfl) (tv (aG gU rfl (aK (.tail _ (.head _)) rfl)) (tv (aP Tryz.underlying58 rfl) ?_)))))
 refine tv (cP rfl rfl (by omega)) (tv (aD rfl) (aF (Tr.keep (env' := [(0, _), (3, _), (4, _), (5, _), (7, _)]) ⟨rfl, rfl, rfl, rfl, rfl, trivial⟩ (aB (aE ?_)))))
 refine aA (tv (aC rfl) (tv (fI rfl rfl) (tv (aC rfl) (cV rfl rfl (aI fP rfl) (cV rfl rfl (aG gU rfl (aK (.tail _ (.head _)) rfl)) ?_)))))
 refine cV rfl rfl (aC rfl) (cV rfl rfl (cL 3 Tryz.underlying58 oI hA rfl rfl rfl (by decide)) (cV rfl rfl (aG iP rfl ((hrd 3 (dG u) rfl 0 (.string u) rfl).sub (.cons _ (.cons _ (.refl _))))) (cV rfl rfl (cM (v2 := .bool false) (iE rfl rfl) (congrArg Value.bool (pF 115 #[116, 111, 112, 112, 101, 100] hu.1.1 (by decide)))) (tv (cG rfl rfl) (aF ?_)))))
 refine Tr.keep (env' := [(0, _), (3, _), (4, _), (5, _), (7, _), (45, _)]) ⟨rfl, rfl, rfl, rfl, rfl, rfl, trivial⟩ (aB (aR rfl (aO (aB (aE ?_)))))
 refine aE (aA (tv (aI fP rfl) (tv (aG gU rfl (aK (.tail _ (.head _)) rfl)) (tv (aP Tryz.underlying58 rfl) (tv (cP rfl rfl (by omega)) ?_)))))
 refine tv (aD rfl) (aF (Tr.keep (env' := [(0, _), (3, _), (4, _), (5, _), (8, _)]) ⟨rfl, rfl, rfl, rfl, rfl, trivial⟩ (aB (aE (aA ?_)))))
 refine tv (aC rfl) (tv (cW rfl rfl) (tv (aC rfl) (cV rfl rfl (aC rfl) (cV rfl rfl (fI rfl rfl) (tv (cG rfl rfl) ?_)))))
 refine tv (aC rfl) (cV rfl rfl (aI fP rfl) (cV rfl rfl (aG gU rfl (aK (.tail _ (.head _)) rfl)) (cV rfl rfl (aC rfl) (cV rfl rfl (cL 3 Tryz.underlying58 oI hA rfl rfl rfl (by decide)) (cV rfl rfl (aG iP rfl ((hrd 3 (dG u) rfl 0 (.string u) rfl).sub (.cons _ (.cons _ (.refl _))))) ?_)))))
 refine cV rfl rfl (cM (v2 := .bool false) (iE rfl rfl) (congrArg Value.bool (pF 109 #[105, 115, 115, 101, 100] hu.1.1 (by decide)))) (tv (cG rfl rfl) (aF (Tr.keep (env' := [(0, _), (3, _), (4, _), (8, _), (71, _)]) ⟨rfl, rfl, rfl, rfl, rfl, trivial⟩ (aB (aR rfl ?_)))))
 refine aO (aB (aE (aA (tv (aY kY rfl (bL (n := 2) (vs := [_, _]) (.tail _ (.head _)) rfl) rfl) (te (gQ ((fun i : Int => Value.int .i64 i)) rfl fun b79 => ?_))))))
 refine te (cD (a := 0) Tryz.underlying338 mN rfl rfl rfl .here (te (cD (a := 1) Tryz.underlying338 mN rfl rfl rfl .here (te (cD (a := 2) Tryz.underlying338 mN rfl rfl rfl .here (tv (aC rfl) (tv (aI iW rfl) (tv (aG wX rfl (aK (.tail _ (.head _)) rfl)) ?_))))))))
 refine tv (fF (v' := .int .i64 4) (fK (0) Tryz.underlying338 mN eQ rfl rfl (.head _)) (by rfl)) (te (bP kZ rfl rfl rfl rfl (fW (ws := [x, y, z, u]) _ (hs.sub (.cons _ (.cons _ (.cons _ (.refl _))))) (by intro z hz; simp at hz; rcases hz with rfl | rfl | rfl | rfl <;> first | exact hx.1 | exact hy.1 | exact hz.1 | exact hu.1) (by simp)) fun xo hO => ?_))
 obtain ⟨xv, xE⟩ := xo
 dsimp only at hO ⊢
 obtain ⟨sN, hv, hE⟩ := gA (n := 4) hO rfl (by decide)
 subst hv hE
 show Tr _ _ _ _ (cel sN.b 3 (.int .i64 (fH x) :: .int .i64 (fH y) :: .int .i64 (fH z) :: .int .i64 (fH u) :: sN.sp) :: _) _
 rw [hx.2]
 rw [hy.2]
 rw [hz.2]
 rw [hu.2]
 refine tv (aD rfl) (aF (Tr.keep (env' := [(0, _), (4, _), (9, _)]) ⟨rfl, rfl, rfl, trivial⟩ (aB (aE (aE ?_)))))
 refine aA (tv (aC rfl) (tv (aP Tryz.underlying24 rfl) (tv (fC rfl rfl) (aF (Tr.keep (env' := [(0, _), (4, _), (9, _), (87, _)]) ⟨rfl, rfl, rfl, rfl, trivial⟩ ?_)))))
 refine aB (bI rfl (aA (tv (aC rfl) (tv (dE (j := 2) Tryz.underlying24 eR rfl rfl rfl (by decide)) (tv (aG bB rfl (aK (.head _) rfl)) ?_)))))
 refine tv (aI rY rfl) (te (bR eR rfl rfl rfl .zero (.there (.there .here)) (aF (Tr.keep (env' := [(0, _), (4, _), (9, _)]) ⟨rfl, rfl, rfl, trivial⟩ (aB (aE ?_))))))
 refine aE (aA (tv (aC rfl) (tv (aP Tryz.underlying24 rfl) (tv (fC rfl rfl) (aF ?_)))))
 refine Tr.keep (env' := [(0, _), (4, _), (9, _), (94, _)]) ⟨rfl, rfl, rfl, rfl, trivial⟩ (aB (bI rfl (aA (tv (aC rfl) (tv (dE (j := 3) Tryz.underlying24 eR rfl rfl rfl (by decide)) ?_)))))
 refine tv (aG bB rfl (aK (.head _) rfl)) (tv (aI kS rfl) (te (bR eR rfl rfl rfl (.succ .zero) (.there (.there .here)) (aF (Tr.keep (env' := [(0, _), (4, _), (9, _)]) ⟨rfl, rfl, rfl, trivial⟩ (aB ?_))))))
 refine dV (.cons_cons _ (.cons_cons _ (.cons_cons _ (.cons_cons _ (.cons _ (.cons _ (.cons _ (.refl _)))))))) cK rfl (dv 0 rfl (.cons_cons _ (.cons_cons _ (.cons_cons _ (.cons_cons _ (.cons _ (.cons _ (.cons _ (.refl _)))))))) (aC rfl) (dv 1 rfl (.cons_cons _ (.cons_cons _ (.cons_cons _ (.cons_cons _ (.cons _ (.cons _ (.cons _ (.refl _)))))))) (aC rfl) (dv 2 rfl (.cons_cons _ (.cons_cons _ (.cons_cons _ (.cons_cons _ (.cons _ (.cons _ (.cons _ (.refl _)))))))) (aC rfl) (dv 3 rfl (.cons_cons _ (.cons_cons _ (.cons_cons _ (.cons_cons _ (.cons _ (.cons _ (.cons _ (.refl _)))))))) (dE (j := 0) Tryz.underlying24 eR rfl rfl rfl (by decide)) (dv 4 rfl (.cons_cons _ (.cons_cons _ (.cons_cons _ (.cons_cons _ (.cons _ (.cons _ (.cons _ (.refl _)))))))) (aG bB rfl (aK (.head _) rfl)) ?_)))))
 refine dv 6 rfl (.cons_cons _ (.cons_cons _ (.cons_cons _ (.cons_cons _ (.cons _ (.cons _ (.cons _ (.refl _)))))))) (aC rfl) (dv 7 rfl (.cons_cons _ (.cons_cons _ (.cons_cons _ (.cons_cons _ (.cons _ (.cons _ (.cons _ (.refl _)))))))) (dE (j := 1) Tryz.underlying24 eR rfl rfl rfl (by decide)) (dv 8 rfl (.cons_cons _ (.cons_cons _ (.cons_cons _ (.cons_cons _ (.cons _ (.cons _ (.cons _ (.refl _)))))))) (aG bB rfl (aK (.head _) rfl)) (dv 9 rfl (.cons_cons _ (.cons_cons _ (.cons_cons _ (.cons_cons _ (.cons _ (.cons _ (.cons _ (.refl _)))))))) (aY oV rfl (bL (n := 4) (vs := [_, _, _, _]) (.tail _ (.tail _ (.head _))) rfl) rfl) (de 5 rfl (aJ rB rfl rfl rfl rfl (wJ (e' := ea) (lv := lv) ((.tail _ (.tail _ (.tail _ (.tail _ (.tail _ (.tail _ (.tail _ hev))))))))) (aU (.cons_cons _ (.cons_cons _ (.cons_cons _ (.cons_cons _ (.cons _ (.cons _ (.cons _ (.refl _)))))))) ?_))))))
 refine de 10 rfl (bP aQ2 rfl rfl rfl rfl (fun w hw => aY2 (ea := ea) (lv := lv) (v := ⟨n2, n3, false, 0⟩) (.tail _ (.tail _ (.tail _ (.tail _ hev)))) (hin.sub (.cons _ (.cons _ (.cons _ (.cons _ (.refl _)))))) ht hok w (hw.perm (pk (.there (.there (.there (.there .here)))) (pk (.there (.there (.there (.there .here)))) (pk (.there (.there (.there (.there .here)))) (.refl _)))))) fun y _ => (aU (.cons _ (.cons _ (.cons _ (.refl _)))) (bQ (by kernel_rfl) (Tr.keep (env' := []) trivial (eV rfl (fun w hw => ?_))))))
 exact ⟨y, rfl, trivial, Ok.sub (hw.perm (pk .here (pk .here (pk .here (.refl _))))) (.cons_cons _ (.cons_cons _ (.cons_cons _ (.cons _ (.cons _ (.cons _ (.cons _ (.refl _))))))))⟩
theorem aY6 {ea : EvAt} {lv : Value} {Fr : List Ent} {s0 n2 n3 : Int} {l0 l1 l2 : CLine} {A : Option Addr} {cc : Nat} {x y z u v : ByteArray} (hev : ea.ev lv ∈ Fr) (hin : ea.sa.In Fr) (hs : SlRd w0 (ea.ec (cd s0 l0 l1 l2) :: ea.es (cd s0 l0 l1 l2) :: ea.el (cd s0 l0 l1 l2) :: Fr) 1 A 4 [dG x, dG y, dG z, dG u]) (hx : iA x 1) (hy : iA y 1) (hz : iA z n2) (hu : iA u n3) (ht : 0 ≤ s0 ∧ s0 ≤ 100000) (hok : ¬ jW l0 ⟨n2, n3, false, 0⟩ l2) :
  ∀ w, Ok w0 (ea.ec (cd s0 l0 l1 l2) :: ea.es (cd s0 l0 l1 l2) :: ea.el (cd s0 l0 l1 l2) :: Fr) w → Calls Tryz.prog 180 #[.pointer (some ⟨ea.eb, 0, none⟩), .agg #[.string v, .slice A 4 cc]] w (fun e w' => e = .panicked (jQ 2) ∧ Ok w0 (ea.ec (cd s0 l0 l1 l2) :: ea.es (cd s0 l0 l1 l2) :: ea.el (cd s0 l0 l1 l2) :: Fr) w') := by
 obtain ⟨b, o, hA, hrd⟩ := hs.at' (by decide)
 refine enter (vs := [_, _]) Tryz.func180 rfl Tryz.ntmps180 rfl (aE (aA (te (cH rfl rfl fun b3 => (aF (Tr.keep (env' := [(0, _), (3, _)]) ⟨rfl, rfl, trivial⟩ ?_))))))
 refine aB (aE (aA (te (bO eU (l := [.int .i64 0, .int .i64 0, .bool false, .int .i64 0]) rfl rfl fun b4 => (aF (Tr.keep (env' := [(0, _), (3, _), (4, _)]) ⟨rfl, rfl, rfl, trivial⟩ ?_))))))
 refine aB (aE (aA (tv (aD rfl) (aF (Tr.keep (env' := [(0, _), (3, _), (4, _), (5, _)]) ⟨rfl, rfl, rfl, rfl, trivial⟩ ?_)))))
 refine aB (aE (aE (aA (tv (aI fP rfl) (tv (aG gU rfl (aK (.tail _ (.head _)) rfl)) ?_)))))
 refine tv (aP Tryz.underlying58 rfl) (tv (cP rfl rfl (by omega)) (tv (aD rfl) (aF (Tr.keep (env' := [(0, _), (3, _), (4, _), (5, _), (6, _)]) ⟨rfl, rfl, rfl, rfl, rfl, trivial⟩ (aB ?_)))))
 refine aE (aA (tv (aC rfl) (tv (fI rfl rfl) (tv (aC rfl) (cV rfl rfl (aI fP rfl) ?_)))))
 refine cV rfl rfl (aG gU rfl (aK (.tail _ (.head _)) rfl)) (cV rfl rfl (aC rfl) (cV rfl rfl (cL 3 Tryz.underlying58 oI hA rfl rfl rfl (by decide)) (cV rfl rfl (aG iP rfl ((hrd 3 (dG u) rfl 0 (.string u) rfl).sub (.cons _ (.cons _ (.refl _))))) (cV rfl rfl (cM (v2 := .bool false) (iE rfl rfl) (congrArg Value.bool (pF 106 #[117, 109, 112] hu.1.1 (by decide)))) (tv (cG rfl rfl) ?_)))))
 refine aF (Tr.keep (env' := [(0, _), (3, _), (4, _), (5, _), (6, _), (23, _)]) ⟨rfl, rfl, rfl, rfl, rfl, rfl, trivial⟩ (aB (aR rfl (aO (aB ?_)))))
 refine aE (aE (aA (tv (aI fP rfl) (tv (aG gU rfl (aK (.tail _ (.head _)) rfl)) (tv (aP Tryz.underlying58 rfl) ?_)))))
 refine tv (cP rfl rfl (by omega)) (tv (aD rfl) (aF (Tr.keep (env' := [(0, _), (3, _), (4, _), (5, _), (7, _)]) ⟨rfl, rfl, rfl, rfl, rfl, trivial⟩ (aB (aE ?_)))))
 refine aA (tv (aC rfl) (tv (fI rfl rfl) (tv (aC rfl) (cV rfl rfl (aI fP rfl) (cV rfl rfl (aG gU rfl (aK (.tail _ (.head _)) rfl)) ?_)))))
 refine cV rfl rfl (aC rfl) (cV rfl rfl (cL 3 Tryz.underlying58 oI hA rfl rfl rfl (by decide)) (cV rfl rfl (aG iP rfl ((hrd 3 (dG u) rfl 0 (.string u) rfl).sub (.cons _ (.cons _ (.refl _))))) (cV rfl rfl (cM (v2 := .bool false) (iE rfl rfl) (congrArg Value.bool (pF 115 #[116, 111, 112, 112, 101, 100] hu.1.1 (by decide)))) (tv (cG rfl rfl) (aF ?_)))))
 refine Tr.keep (env' := [(0, _), (3, _), (4, _), (5, _), (7, _), (45, _)]) ⟨rfl, rfl, rfl, rfl, rfl, rfl, trivial⟩ (aB (aR rfl (aO (aB (aE ?_)))))
 refine aE (aA (tv (aI fP rfl) (tv (aG gU rfl (aK (.tail _ (.head _)) rfl)) (tv (aP Tryz.underlying58 rfl) (tv (cP rfl rfl (by omega)) ?_)))))
 refine tv (aD rfl) (aF (Tr.keep (env' := [(0, _), (3, _), (4, _), (5, _), (8, _)]) ⟨rfl, rfl, rfl, rfl, rfl, trivial⟩ (aB (aE (aA ?_)))))
 refine tv (aC rfl) (tv (cW rfl rfl) (tv (aC rfl) (cV rfl rfl (aC rfl) (cV rfl rfl (fI rfl rfl) (tv (cG rfl rfl) ?_)))))
 refine tv (aC rfl) (cV rfl rfl (aI fP rfl) (cV rfl rfl (aG gU rfl (aK (.tail _ (.head _)) rfl)) (cV rfl rfl (aC rfl) (cV rfl rfl (cL 3 Tryz.underlying58 oI hA rfl rfl rfl (by decide)) (cV rfl rfl (aG iP rfl ((hrd 3 (dG u) rfl 0 (.string u) rfl).sub (.cons _ (.cons _ (.refl _))))) ?_)))))
 refine cV rfl rfl (cM (v2 := .bool false) (iE rfl rfl) (congrArg Value.bool (pF 109 #[105, 115, 115, 101, 100] hu.1.1 (by decide)))) (tv (cG rfl rfl) (aF (Tr.keep (env' := [(0, _), (3, _), (4, _), (8, _), (71, _)]) ⟨rfl, rfl, rfl, rfl, rfl, trivial⟩ (aB (aR rfl ?_)))))
 refine aO (aB (aE (aA (tv (aY kY rfl (bL (n := 2) (vs := [_, _]) (.tail _ (.head _)) rfl) rfl) (te (gQ ((fun i : Int => Value.int .i64 i)) rfl fun b79 => ?_))))))
 refine te (cD (a := 0) Tryz.underlying338 mN rfl rfl rfl .here (te (cD (a := 1) Tryz.underlying338 mN rfl rfl rfl .here (te (cD (a := 2) Tryz.underlying338 mN rfl rfl rfl .here (tv (aC rfl) (tv (aI iW rfl) (tv (aG wX rfl (aK (.tail _ (.head _)) rfl)) ?_))))))))
 refine tv (fF (v' := .int .i64 4) (fK (0) Tryz.underlying338 mN eQ rfl rfl (.head _)) (by rfl)) (te (bP kZ rfl rfl rfl rfl (fW (ws := [x, y, z, u]) _ (hs.sub (.cons _ (.cons _ (.cons _ (.refl _))))) (by intro z hz; simp at hz; rcases hz with rfl | rfl | rfl | rfl <;> first | exact hx.1 | exact hy.1 | exact hz.1 | exact hu.1) (by simp)) fun xo hO => ?_))
 obtain ⟨xv, xE⟩ := xo
 dsimp only at hO ⊢
 obtain ⟨sN, hv, hE⟩ := gA (n := 4) hO rfl (by decide)
 subst hv hE
 show Tr _ _ _ _ (cel sN.b 3 (.int .i64 (fH x) :: .int .i64 (fH y) :: .int .i64 (fH z) :: .int .i64 (fH u) :: sN.sp) :: _) _
 rw [hx.2]
 rw [hy.2]
 rw [hz.2]
 rw [hu.2]
 refine tv (aD rfl) (aF (Tr.keep (env' := [(0, _), (4, _), (9, _)]) ⟨rfl, rfl, rfl, trivial⟩ (aB (aE (aE ?_)))))
 refine aA (tv (aC rfl) (tv (aP Tryz.underlying24 rfl) (tv (fC rfl rfl) (aF (Tr.keep (env' := [(0, _), (4, _), (9, _), (87, _)]) ⟨rfl, rfl, rfl, rfl, trivial⟩ ?_)))))
 refine aB (bI rfl (aA (tv (aC rfl) (tv (dE (j := 2) Tryz.underlying24 eR rfl rfl rfl (by decide)) (tv (aG bB rfl (aK (.head _) rfl)) ?_)))))
 refine tv (aI rY rfl) (te (bR eR rfl rfl rfl .zero (.there (.there .here)) (aF (Tr.keep (env' := [(0, _), (4, _), (9, _)]) ⟨rfl, rfl, rfl, trivial⟩ (aB (aE ?_))))))
 refine aE (aA (tv (aC rfl) (tv (aP Tryz.underlying24 rfl) (tv (fC rfl rfl) (aF ?_)))))
 refine Tr.keep (env' := [(0, _), (4, _), (9, _), (94, _)]) ⟨rfl, rfl, rfl, rfl, trivial⟩ (aB (bI rfl (aA (tv (aC rfl) (tv (dE (j := 3) Tryz.underlying24 eR rfl rfl rfl (by decide)) ?_)))))
 refine tv (aG bB rfl (aK (.head _) rfl)) (tv (aI kS rfl) (te (bR eR rfl rfl rfl (.succ .zero) (.there (.there .here)) (aF (Tr.keep (env' := [(0, _), (4, _), (9, _)]) ⟨rfl, rfl, rfl, trivial⟩ (aB ?_))))))
 refine dV (.cons_cons _ (.cons_cons _ (.cons_cons _ (.cons_cons _ (.cons _ (.cons _ (.cons _ (.refl _)))))))) cK rfl (dv 0 rfl (.cons_cons _ (.cons_cons _ (.cons_cons _ (.cons_cons _ (.cons _ (.cons _ (.cons _ (.refl _)))))))) (aC rfl) (dv 1 rfl (.cons_cons _ (.cons_cons _ (.cons_cons _ (.cons_cons _ (.cons _ (.cons _ (.cons _ (.refl _)))))))) (aC rfl) (dv 2 rfl (.cons_cons _ (.cons_cons _ (.cons_cons _ (.cons_cons _ (.cons _ (.cons _ (.cons _ (.refl _)))))))) (aC rfl) (dv 3 rfl (.cons_cons _ (.cons_cons _ (.cons_cons _ (.cons_cons _ (.cons _ (.cons _ (.cons _ (.refl _)))))))) (dE (j := 0) Tryz.underlying24 eR rfl rfl rfl (by decide)) (dv 4 rfl (.cons_cons _ (.cons_cons _ (.cons_cons _ (.cons_cons _ (.cons _ (.cons _ (.cons _ (.refl _)))))))) (aG bB rfl (aK (.head _) rfl)) ?_)))))
 refine dv 6 rfl (.cons_cons _ (.cons_cons _ (.cons_cons _ (.cons_cons _ (.cons _ (.cons _ (.cons _ (.refl _)))))))) (aC rfl) (dv 7 rfl (.cons_cons _ (.cons_cons _ (.cons_cons _ (.cons_cons _ (.cons _ (.cons _ (.cons _ (.refl _)))))))) (dE (j := 1) Tryz.underlying24 eR rfl rfl rfl (by decide)) (dv 8 rfl (.cons_cons _ (.cons_cons _ (.cons_cons _ (.cons_cons _ (.cons _ (.cons _ (.cons _ (.refl _)))))))) (aG bB rfl (aK (.head _) rfl)) (dv 9 rfl (.cons_cons _ (.cons_cons _ (.cons_cons _ (.cons_cons _ (.cons _ (.cons _ (.cons _ (.refl _)))))))) (aY oV rfl (bL (n := 4) (vs := [_, _, _, _]) (.tail _ (.tail _ (.head _))) rfl) rfl) (de 5 rfl (aJ rB rfl rfl rfl rfl (wJ (e' := ea) (lv := lv) ((.tail _ (.tail _ (.tail _ (.tail _ (.tail _ (.tail _ (.tail _ hev))))))))) (aU (.cons_cons _ (.cons_cons _ (.cons_cons _ (.cons_cons _ (.cons _ (.cons _ (.cons _ (.refl _)))))))) ?_))))))
 refine de 10 rfl (kU aQ2 rfl rfl rfl (fun w hw => aY4 (ea := ea) (lv := lv) (v := ⟨n2, n3, false, 0⟩) (.tail _ (.tail _ (.tail _ (.tail _ hev)))) (hin.sub (.cons _ (.cons _ (.cons _ (.cons _ (.refl _)))))) ht hok w (hw.perm (pk (.there (.there (.there (.there .here)))) (pk (.there (.there (.there (.there .here)))) (pk (.there (.there (.there (.there .here)))) (.refl _)))))) ?_)
 exact gT (fun w hw => ⟨rfl, Ok.sub hw (.cons_cons _ (.cons_cons _ (.cons_cons _ (.cons _ (.cons _ (.cons _ (.cons _ (.refl _))))))))⟩)
end
end Go.Proofs.W
set_option linter.unusedVariables false
set_option linter.unusedSimpArgs false
set_option linter.unusedSectionVars false
set_option maxRecDepth 100000
namespace Go.Proofs.W
open Go Go.Sl Go.RowKit Go.Proofs
attribute [local irreducible] Go.Sl.Eff
theorem uI : bY Tryz.prog 46 = some (none) := by kernel_rfl
theorem bF2 : aV Tryz.prog 240 := aL Tryz.func240 (by kernel_rfl) (by kernel_rfl)
theorem en_37 : aV Tryz.prog 37 := aL Tryz.func37 (by kernel_rfl) (by kernel_rfl)
theorem en_39 : aV Tryz.prog 39 := aL Tryz.func39 (by kernel_rfl) (by kernel_rfl)
section
variable {w0 : World} {M : List Ent}
theorem take1_0 {ea : EvAt} {lv : Value} {lg : WLog} {b2 b4 : Nat} {sN : Sl3} {n1 n2 : Int} (hev : ea.ev lv ∈ M) (hwb : lg.eb ea.wl ∈ M) (hwm : lg.em ea.wl ∈ M) (hlf : lg.Fine) (hkv : lg.kv = [(R1, 2000), (R2, 302000)]) (hb2 : cel b2 46 [.pointer (some ⟨ea.eb, 0, none⟩)] ∈ M) (hb4 : cel b4 24 [sN.v 4] ∈ M) (hN : cel sN.b 3 (.int .i64 1 :: .int .i64 n1 :: .int .i64 n2 :: .int .i64 400000 :: sN.sp) ∈ M) :
  ∀ w, Ok w0 M w → Calls Tryz.prog 240 #[.int .i64 0, .pointer (some ⟨b2, 0, none⟩), .pointer (some ⟨b4, 0, none⟩)] w (fun e w' => e = .returned (.int .i64 1000) ∧ Ok w0 M w') := by
 refine enter (vs := [_, _, _]) Tryz.func240 rfl Tryz.ntmps240 rfl (aE (aA (tv (aD rfl) (aF (Tr.keep (env' := [(0, _), (1, _), (2, _)]) ⟨rfl, rfl, rfl, trivial⟩ ?_)))))
 refine aB (aE (cI cK rfl (dv 0 rfl (.refl _) (aG uI rfl (aK hb2 rfl)) (dv 1 rfl (.refl _) (aM rfl) (dv 2 rfl (.refl _) (aI mA rfl) ?_)))))
 refine dv 3 rfl (.refl _) (aG rJ rfl (aK hev rfl)) (dv 4 rfl (.refl _) (aG dQ rfl (aK hb4 rfl)) (dv 5 rfl (.refl _) (dE (j := 0) Tryz.underlying24 eR rfl rfl rfl (by decide)) (dv 6 rfl (.refl _) (aG bB rfl (aK hN rfl)) (dv 7 rfl (.refl _) (aC rfl) (dv 8 rfl (.refl _) (aG dQ rfl (aK hb4 rfl)) ?_)))))
 refine dv 9 rfl (.refl _) (dE (j := 3) Tryz.underlying24 eR rfl rfl rfl (by decide)) (dv 10 rfl (.refl _) (aG bB rfl (aK hN rfl)) (de 11 rfl (aJ en_39 rfl rfl rfl rfl (aM2 (g := lg) (l := ea.wl) (hwb) (hwm) hlf hkv) (aU (.refl _) (dv 12 rfl (.refl _) (aC rfl) (dv 13 rfl (.refl _) (bA rfl rfl) ?_))))))
 refine dv 14 rfl (.refl _) (bA rfl rfl) (dv 15 rfl (.refl _) (aD rfl) (dv 16 rfl (.refl _) (aD rfl) (bQ (by kernel_rfl) (Tr.keep (env' := [(1, _), (5, _), (6, _)]) ⟨rfl, rfl, rfl, trivial⟩ (aB ?_)))))
 refine aE (aA (tv (aC rfl) (te (aJ lA rfl rfl rfl rfl mL (aF (Tr.keep (env' := [(1, _), (5, _)]) ⟨rfl, rfl, trivial⟩ ?_))))))
 refine aB (aE (aA (tv (aG uI rfl (aK hb2 rfl)) (tv (aM rfl) (tv (aI mA rfl) ?_)))))
 refine tv (aG rJ rfl (aK hev rfl)) (te (bP bG0 rfl rfl rfl rfl (oP (g := lg) (l := ea.wl) R1 R2 2000 302000 (hwb) (hwm) hkv (by decide) (by decide)) fun xr hR => ?_))
 obtain ⟨rv, rE⟩ := xr
 dsimp only at hR ⊢
 obtain ⟨rb, rc, rsp, rfl, rfl, _⟩ := rO hR
 show Tr _ _ _ _ (cel rb 100 (R1.cellsAt 2000 ++ (R2.cellsAt 302000 ++ rsp)) :: _) _
 refine tv (aC rfl) (tv (dE (j := 0) Tryz.underlying56 dP rfl rfl rfl (by decide)) (tv (aI jN rfl) (tv (aG bB rfl (aK (.head _) rfl)) (tv (aD rfl) (aF ?_)))))
 refine Tr.keep (env' := [(4, _)]) ⟨rfl, trivial⟩ (aB (aQ (aW rfl rfl (fun w hw => ?_))))
 exact ⟨rfl, Ok.sub hw (.cons _ (.refl _))⟩
theorem take1_1 {ea : EvAt} {lv : Value} {lg : WLog} {b2 b4 : Nat} {sN : Sl3} {n1 n2 : Int} (hev : ea.ev lv ∈ M) (hwb : lg.eb ea.wl ∈ M) (hwm : lg.em ea.wl ∈ M) (hlf : lg.Fine) (hkv : lg.kv = [(R1, 2000), (R2, 302000)]) (hb2 : cel b2 46 [.pointer (some ⟨ea.eb, 0, none⟩)] ∈ M) (hb4 : cel b4 24 [sN.v 4] ∈ M) (hN : cel sN.b 3 (.int .i64 1 :: .int .i64 n1 :: .int .i64 n2 :: .int .i64 400000 :: sN.sp) ∈ M) :
  ∀ w, Ok w0 M w → Calls Tryz.prog 240 #[.int .i64 1, .pointer (some ⟨b2, 0, none⟩), .pointer (some ⟨b4, 0, none⟩)] w (fun e w' => e = .returned (.int .i64 301000) ∧ Ok w0 M w') := by
 refine enter (vs := [_, _, _]) Tryz.func240 rfl Tryz.ntmps240 rfl (aE (aA (tv (aD rfl) (aF (Tr.keep (env' := [(0, _), (1, _), (2, _)]) ⟨rfl, rfl, rfl, trivial⟩ ?_)))))
 refine aB (aE (cI cK rfl (dv 0 rfl (.refl _) (aG uI rfl (aK hb2 rfl)) (dv 1 rfl (.refl _) (aM rfl) (dv 2 rfl (.refl _) (aI mA rfl) ?_)))))
 refine dv 3 rfl (.refl _) (aG rJ rfl (aK hev rfl)) (dv 4 rfl (.refl _) (aG dQ rfl (aK hb4 rfl)) (dv 5 rfl (.refl _) (dE (j := 0) Tryz.underlying24 eR rfl rfl rfl (by decide)) (dv 6 rfl (.refl _) (aG bB rfl (aK hN rfl)) (dv 7 rfl (.refl _) (aC rfl) (dv 8 rfl (.refl _) (aG dQ rfl (aK hb4 rfl)) ?_)))))
 refine dv 9 rfl (.refl _) (dE (j := 3) Tryz.underlying24 eR rfl rfl rfl (by decide)) (dv 10 rfl (.refl _) (aG bB rfl (aK hN rfl)) (de 11 rfl (aJ en_39 rfl rfl rfl rfl (aM3 (g := lg) (l := ea.wl) (hwb) (hwm) hlf hkv) (aU (.refl _) (dv 12 rfl (.refl _) (aC rfl) (dv 13 rfl (.refl _) (bA rfl rfl) ?_))))))
 refine dv 14 rfl (.refl _) (bA rfl rfl) (dv 15 rfl (.refl _) (aD rfl) (dv 16 rfl (.refl _) (aD rfl) (bQ (by kernel_rfl) (Tr.keep (env' := [(1, _), (5, _), (6, _)]) ⟨rfl, rfl, rfl, trivial⟩ (aB ?_)))))
 refine aE (aA (tv (aC rfl) (te (aJ lA rfl rfl rfl rfl mL (aF (Tr.keep (env' := [(1, _), (5, _)]) ⟨rfl, rfl, trivial⟩ ?_))))))
 refine aB (aE (aA (tv (aG uI rfl (aK hb2 rfl)) (tv (aM rfl) (tv (aI mA rfl) ?_)))))
 refine tv (aG rJ rfl (aK hev rfl)) (te (bP bG0 rfl rfl rfl rfl (oP (g := lg) (l := ea.wl) R1 R2 2000 302000 (hwb) (hwm) hkv (by decide) (by decide)) fun xr hR => ?_))
 obtain ⟨rv, rE⟩ := xr
 dsimp only at hR ⊢
 obtain ⟨rb, rc, rsp, rfl, rfl, _⟩ := rO hR
 show Tr _ _ _ _ (cel rb 100 (R1.cellsAt 2000 ++ (R2.cellsAt 302000 ++ rsp)) :: _) _
 refine tv (aC rfl) (tv (dE (j := 1) Tryz.underlying56 dP rfl rfl rfl (by decide)) (tv (aI jN rfl) (tv (aG bB rfl (aK (.head _) rfl)) (tv (aD rfl) (aF ?_)))))
 refine Tr.keep (env' := [(4, _)]) ⟨rfl, trivial⟩ (aB (aQ (aW rfl rfl (fun w hw => ?_))))
 exact ⟨rfl, Ok.sub hw (.cons _ (.refl _))⟩
theorem take_ok {ea : EvAt} {lv : Value} {lg : WLog} {Fr : List Ent} {s0 n2 : Int} {l0 l1 l2 : CLine} {A : Option Addr} {cc : Nat} {x y z u v : ByteArray} (hev : ea.ev lv ∈ Fr) (hin : ea.sa.In Fr) (hwb : lg.eb ea.wl ∈ Fr) (hwm : lg.em ea.wl ∈ Fr) (hlf : lg.Fine) (hkv : lg.kv = [(R1, 2000), (R2, 302000)]) (hs : SlRd w0 (ea.ec (cd s0 l0 l1 l2) :: ea.es (cd s0 l0 l1 l2) :: ea.el (cd s0 l0 l1 l2) :: Fr) 1 A 4 [dG x, dG y, dG z, dG u]) (hx : iA x 1) (hy : iA y 1) (hz : iA z n2) (hu : iA u 400000) (ht : 0 ≤ s0 ∧ s0 ≤ 100000) (hok : jW l0 ⟨n2, 300000, false, 0⟩ l2) :
  ∀ w, Ok w0 (ea.ec (cd s0 l0 l1 l2) :: ea.es (cd s0 l0 l1 l2) :: ea.el (cd s0 l0 l1 l2) :: Fr) w → Calls Tryz.prog 181 #[.pointer (some ⟨ea.eb, 0, none⟩), .agg #[.string v, .slice A 4 cc]] w (fun e w' => ∃ y : Sl3 × Sl3, e = .returned (.tuple #[]) ∧ True ∧ Ok w0 ({ ea with starts := y.1, lines := y.2 }.ec (cd s0 l0 ⟨n2, 300000, false, 0⟩ l2) :: { ea with starts := y.1, lines := y.2 }.es (cd s0 l0 ⟨n2, 300000, false, 0⟩ l2) :: { ea with starts := y.1, lines := y.2 }.el (cd s0 l0 ⟨n2, 300000, false, 0⟩ l2) :: Fr) w') := by
 refine enter (vs := [_, _]) Tryz.func181 rfl Tryz.ntmps181 rfl (aE (aA (te (eL rfl rfl rfl fun b2 => (te (cH rfl rfl fun b3 => (aF ?_)))))))
 refine Tr.keep (env' := [(2, _), (3, _)]) ⟨rfl, rfl, trivial⟩ (aB (aE (aA (tv (aY kY rfl (bL (n := 2) (vs := [_, _]) (.head _) rfl) rfl) (te (bP kZ rfl rfl rfl rfl (fW (ws := [x, y, z, u]) _ (hs.sub (.cons _ (.cons _ (.refl _)))) (by intro z hz; simp at hz; rcases hz with rfl | rfl | rfl | rfl <;> first | exact hx.1 | exact hy.1 | exact hz.1 | exact hu.1) (by simp)) fun xo hO => ?_))))))
 obtain ⟨xv, xE⟩ := xo
 dsimp only at hO ⊢
 obtain ⟨sN, hv, hE⟩ := gA (n := 4) hO rfl (by decide)
 subst hv hE
 show Tr _ _ _ _ (cel sN.b 3 (.int .i64 (fH x) :: .int .i64 (fH y) :: .int .i64 (fH z) :: .int .i64 (fH u) :: sN.sp) :: _) _
 rw [hx.2]
 rw [hy.2]
 rw [hz.2]
 rw [hu.2]
 refine te (bO aG0 (l := [.slice none 0 0]) rfl rfl fun b4 => (te (bR lG rfl rfl rfl .zero .here (aF (Tr.keep (env' := [(2, _), (4, _)]) ⟨rfl, rfl, trivial⟩ (aB (aE ?_)))))))
 refine cI cK rfl (dv 0 rfl (.refl _) (aG uI rfl (aK (.tail _ (.tail _ (.tail _ (.head _)))) rfl)) (dv 1 rfl (.refl _) (aG dQ rfl (aK (.head _) rfl)) (dv 2 rfl (.refl _) (dE (j := 0) Tryz.underlying24 eR rfl rfl rfl (by decide)) (dv 3 rfl (.refl _) (aG bB rfl (aK (.tail _ (.head _)) rfl)) (de 4 rfl (aJ rB rfl rfl rfl rfl (wJ (e' := ea) (lv := lv) ((.tail _ (.tail _ (.tail _ (.tail _ (.tail _ (.tail _ (.tail _ hev))))))))) ?_))))))
 refine aU (.refl _) (dv 5 rfl (.refl _) (aD rfl) (bQ (by kernel_rfl) (Tr.keep (env' := [(2, _), (4, _), (5, _)]) ⟨rfl, rfl, rfl, trivial⟩ (aB (aE ?_)))))
 refine aE (cI cK rfl (dv 0 rfl (.refl _) (aG dQ rfl (aK (.head _) rfl)) (dv 1 rfl (.refl _) (dE (j := 1) Tryz.underlying24 eR rfl rfl rfl (by decide)) (dv 2 rfl (.refl _) (aG bB rfl (aK (.tail _ (.head _)) rfl)) (dv 3 rfl (.refl _) (aG uI rfl (aK (.tail _ (.tail _ (.tail _ (.head _)))) rfl)) ?_)))))
 refine dv 4 rfl (.refl _) (aM rfl) (dv 5 rfl (.refl _) (aI eD rfl) (dv 6 rfl (.refl _) (aI eA rfl) (dv 7 rfl (.refl _) (aI cQ rfl) (dv 8 rfl (.refl _) (aG eJ rfl (aK (.tail _ (.tail _ (.tail _ (.tail _ (.tail _ (.tail _ (.tail _ hev))))))) rfl)) (dv 9 rfl (.refl _) (aP Tryz.underlying28 rfl) ?_)))))
 refine dv 10 rfl (.refl _) (fI rfl rfl) (bQ (by kernel_rfl) (Tr.keep (env' := [(2, _), (4, _), (5, _), (26, _)]) ⟨rfl, rfl, rfl, rfl, trivial⟩ (aB (aR rfl (aO ?_)))))
 refine aB (aE (aA (tv (bG rfl rfl) (tv (aD rfl) (aF ?_)))))
 refine Tr.keep (env' := [(2, _), (4, _), (5, _), (6, _)]) ⟨rfl, rfl, rfl, rfl, trivial⟩ (aB (aE (cI cK rfl (dv 0 rfl (.refl _) (aC rfl) (dv 2 rfl (.refl _) (aC rfl) ?_)))))
 refine dv 3 rfl (.refl _) (aG uI rfl (aK (.tail _ (.tail _ (.tail _ (.head _)))) rfl)) (dv 4 rfl (.refl _) (aM rfl) (dv 5 rfl (.refl _) (aI eD rfl) (dv 6 rfl (.refl _) (aI eG rfl) (dv 7 rfl (.refl _) (aI kM rfl) (dv 8 rfl (.refl _) (aG bB rfl (aK (.tail _ (.tail _ (.tail _ (.tail _ (.tail _ (.tail _ (.tail _ hev))))))) rfl)) ?_)))))
 refine dv 9 rfl (.refl _) (cP rfl rfl (by omega)) (de 1 rfl (aJ bF2 rfl rfl rfl rfl (take1_0 (ea := ea) (lv := lv) (lg := lg) (sN := sN) ((.tail _ (.tail _ (.tail _ (.tail _ (.tail _ (.tail _ (.tail _ hev)))))))) ((.tail _ (.tail _ (.tail _ (.tail _ (.tail _ (.tail _ (.tail _ hwb)))))))) ((.tail _ (.tail _ (.tail _ (.tail _ (.tail _ (.tail _ (.tail _ hwm)))))))) hlf hkv ((.tail _ (.tail _ (.tail _ (.head _))))) ((.head _)) ((.tail _ (.head _)))) (aU (.refl _) (de 10 rfl (aJ bF2 rfl rfl rfl rfl (take1_1 (ea := ea) (lv := lv) (lg := lg) (sN := sN) ((.tail _ (.tail _ (.tail _ (.tail _ (.tail _ (.tail _ (.tail _ hev)))))))) ((.tail _ (.tail _ (.tail _ (.tail _ (.tail _ (.tail _ (.tail _ hwb)))))))) ((.tail _ (.tail _ (.tail _ (.tail _ (.tail _ (.tail _ (.tail _ hwm)))))))) hlf hkv ((.tail _ (.tail _ (.tail _ (.head _))))) ((.head _)) ((.tail _ (.head _)))) (aU (.refl _) (dv 11 rfl (.refl _) (aD rfl) ?_)))))))
 refine dv 12 rfl (.refl _) (aD rfl) (bQ (by kernel_rfl) (Tr.keep (env' := [(2, _), (4, _), (5, _), (7, _), (8, _)]) ⟨rfl, rfl, rfl, rfl, rfl, trivial⟩ (aB (aE (aE ?_)))))
 refine aA (tv (aC rfl) (tv (aC rfl) (tv (iF rfl rfl) (aF (Tr.keep (env' := [(2, _), (4, _), (5, _), (7, _), (8, _), (42, _)]) ⟨rfl, rfl, rfl, rfl, rfl, rfl, trivial⟩ ?_)))))
 refine aB (aR rfl (aO (aB (dV (.cons_cons _ (.cons_cons _ (.cons_cons _ (.cons_cons _ (.cons _ (.cons _ (.cons _ (.refl _)))))))) cK rfl (dv 0 rfl (.cons_cons _ (.cons_cons _ (.cons_cons _ (.cons_cons _ (.cons _ (.cons _ (.cons _ (.refl _)))))))) (aG uI rfl (aK (.tail _ (.tail _ (.tail _ (.head _)))) rfl)) ?_)))))
 refine dv 1 rfl (.cons_cons _ (.cons_cons _ (.cons_cons _ (.cons_cons _ (.cons _ (.cons _ (.cons _ (.refl _)))))))) (aC rfl) (dv 2 rfl (.cons_cons _ (.cons_cons _ (.cons_cons _ (.cons_cons _ (.cons _ (.cons _ (.cons _ (.refl _)))))))) (aG dQ rfl (aK (.head _) rfl)) (dv 3 rfl (.cons_cons _ (.cons_cons _ (.cons_cons _ (.cons_cons _ (.cons _ (.cons _ (.cons _ (.refl _)))))))) (dE (j := 1) Tryz.underlying24 eR rfl rfl rfl (by decide)) (dv 4 rfl (.cons_cons _ (.cons_cons _ (.cons_cons _ (.cons_cons _ (.cons _ (.cons _ (.cons _ (.refl _)))))))) (aG bB rfl (aK (.tail _ (.head _)) rfl)) (dv 5 rfl (.cons_cons _ (.cons_cons _ (.cons_cons _ (.cons_cons _ (.cons _ (.cons _ (.cons _ (.refl _)))))))) (aG dQ rfl (aK (.head _) rfl)) (dv 6 rfl (.cons_cons _ (.cons_cons _ (.cons_cons _ (.cons_cons _ (.cons _ (.cons _ (.cons _ (.refl _)))))))) (dE (j := 2) Tryz.underlying24 eR rfl rfl rfl (by decide)) ?_)))))
 refine dv 7 rfl (.cons_cons _ (.cons_cons _ (.cons_cons _ (.cons_cons _ (.cons _ (.cons _ (.cons _ (.refl _)))))))) (aG bB rfl (aK (.tail _ (.head _)) rfl)) (dv 8 rfl (.cons_cons _ (.cons_cons _ (.cons_cons _ (.cons_cons _ (.cons _ (.cons _ (.cons _ (.refl _)))))))) (aC rfl) (dv 9 rfl (.cons_cons _ (.cons_cons _ (.cons_cons _ (.cons_cons _ (.cons _ (.cons _ (.cons _ (.refl _)))))))) (aC rfl) (dv 10 rfl (.cons_cons _ (.cons_cons _ (.cons_cons _ (.cons_cons _ (.cons _ (.cons _ (.cons _ (.refl _)))))))) (cP rfl rfl (by omega)) (dv 11 rfl (.cons_cons _ (.cons_cons _ (.cons_cons _ (.cons_cons _ (.cons _ (.cons _ (.cons _ (.refl _)))))))) (bU rfl (v := .agg #[.int .i64 n2, .int .i64 300000, .bool false, .int .i64 0]) (fun w => by kernel_rfl)) (de 12 rfl (bP aQ2 rfl rfl rfl rfl (fun w hw => aY3 (ea := ea) (lv := lv) (v := ⟨n2, 300000, false, 0⟩) (.tail _ (.tail _ (.tail _ (.tail _ hev)))) (hin.sub (.cons _ (.cons _ (.cons _ (.cons _ (.refl _)))))) ht hok w (hw.perm (pk (.there (.there (.there (.there .here)))) (pk (.there (.there (.there (.there .here)))) (pk (.there (.there (.there (.there .here)))) (.refl _)))))) fun y _ => ?_))))))
 refine aU (.cons _ (.cons _ (.cons _ (.refl _)))) (bQ (by kernel_rfl) (Tr.keep (env' := []) trivial (eV rfl (fun w hw => ?_))))
 exact ⟨y, rfl, trivial, Ok.sub (hw.perm (pk .here (pk .here (pk .here (.refl _))))) (.cons_cons _ (.cons_cons _ (.cons_cons _ (.cons _ (.cons _ (.cons _ (.cons _ (.refl _))))))))⟩
theorem pass_ok {ea : EvAt} {lv : Value} {lg : WLog} {g : GuardSt} {Fr : List Ent} {n1 n4 n5 s2 : Int} {p : Nat} {A : Option Addr} {cc : Nat} {x0 x1 x2 x3 x4 x5 : ByteArray} (hev : ea.ev lv ∈ Fr) (hin : ea.sa.In Fr) (hs : SlRd w0 (lg.eb ea.wl :: lg.em ea.wl :: g.eg ea.gl :: g.er ea.gl :: g.ep ea.gl :: g.ec ea.gl :: Fr) 1 A 6 [dG x0, dG x1, dG x2, dG x3, dG x4, dG x5])
  (hx0 : iA x0 0) (hx1 : iA x1 n1) (hx2 : iA x2 1) (hx3 : iA x3 (p : Int)) (hx4 : iA x4 n4) (hx5 : iA x5 n5) (hsv : Own 82 2 ea.wl.sv (lg.srcs.map Src.cells) ea.wl.sE) (hlf : lg.Fine) (hok : lg.rightB ⟨0, n1, 1, 1, p, n4⟩ n5 = true) (hnew : aE2 ⟨0, n1, 1, 1, p, n4⟩ lg.kv = none) (hl5 : lg.kv.length < 5000)
  (hf : g.Fine) (hq : IntKind.i64.wrap (n5.tdiv 1000) = s2) (hval : gN g.plan 8 s2 p 0 = true) :
  ∀ w, Ok w0 (lg.eb ea.wl :: lg.em ea.wl :: g.eg ea.gl :: g.er ea.gl :: g.ep ea.gl :: g.ec ea.gl :: Fr) w → Calls Tryz.prog 175 #[.pointer (some ⟨ea.eb, 0, none⟩), .agg #[.string ⟨#[112, 97, 115, 115]⟩, .slice A 6 cc]] w (fun e w' => ∃ mb, e = .returned (.tuple #[]) ∧ True ∧ Ok w0 ((lg.add ⟨0, n1, 1, 1, p, n4⟩ n5).eb { ea.wl with mb := mb } :: (lg.add ⟨0, n1, 1, 1, p, n4⟩ n5).em { ea.wl with mb := mb } :: (g.hear 8 s2 p 0).eg ea.gl :: (g.hear 8 s2 p 0).er ea.gl :: (g.hear 8 s2 p 0).ep ea.gl :: (g.hear 8 s2 p 0).ec ea.gl :: Fr) w') := by
 refine enter (vs := [_, _]) Tryz.func175 rfl Tryz.ntmps175 rfl (aE (aA (te (cH rfl rfl fun b3 => (aF (Tr.keep (env' := [(0, _), (3, _)]) ⟨rfl, rfl, trivial⟩ ?_))))))
 refine aB (aE (aA (tv (aY kY rfl (bL (n := 2) (vs := [_, _]) (.head _) rfl) rfl) (te (bP kZ rfl rfl rfl rfl (fW (ws := [x0, x1, x2, x3, x4, x5]) _ (hs.sub (.cons _ (.refl _))) (by intro z hz; simp at hz; rcases hz with rfl | rfl | rfl | rfl | rfl | rfl <;> first | exact hx0.1 | exact hx1.1 | exact hx2.1 | exact hx3.1 | exact hx4.1 | exact hx5.1) (by simp)) fun xo hO => ?_)))))
 obtain ⟨xv, xE⟩ := xo
 dsimp only at hO ⊢
 obtain ⟨sN, hv, hE⟩ := gA (n := 6) hO rfl (by decide)
 subst hv hE
 show Tr _ _ _ _ (cel sN.b 3 (.int .i64 (fH x0) :: .int .i64 (fH x1) :: .int .i64 (fH x2) :: .int .i64 (fH x3) :: .int .i64 (fH x4) :: .int .i64 (fH x5) :: sN.sp) :: _) _
 rw [hx0.2]
 rw [hx1.2]
 rw [hx2.2]
 rw [hx3.2]
 rw [hx4.2]
 rw [hx5.2]
 refine tv (aD rfl) (aF (Tr.keep (env' := [(0, _), (3, _), (4, _)]) ⟨rfl, rfl, rfl, trivial⟩ (aB (aE (aA ?_)))))
 refine tv (aC rfl) (tv (aC rfl) (tv (dE (j := 2) Tryz.underlying24 eR rfl rfl rfl (by decide)) (tv (aG bB rfl (aK (.head _) rfl)) (te (aJ rB rfl rfl rfl rfl (wJ (e' := ea) (lv := lv) ((.tail _ (.tail _ (.tail _ (.tail _ (.tail _ (.tail _ (.tail _ (.tail _ hev)))))))))) (tv (aD rfl) ?_))))))
 refine aF (Tr.keep (env' := [(0, _), (3, _), (4, _), (5, _)]) ⟨rfl, rfl, rfl, rfl, trivial⟩ (aB (aE (cI cK rfl (dv 0 rfl (.refl _) (aC rfl) ?_)))))
 refine dv 1 rfl (.refl _) (dE (j := 0) Tryz.underlying24 eR rfl rfl rfl (by decide)) (dv 2 rfl (.refl _) (aG bB rfl (aK (.head _) rfl)) (dv 3 rfl (.refl _) (aC rfl) (dv 4 rfl (.refl _) (dE (j := 1) Tryz.underlying24 eR rfl rfl rfl (by decide)) (dv 5 rfl (.refl _) (aG bB rfl (aK (.head _) rfl)) (dv 6 rfl (.refl _) (aC rfl) ?_)))))
 refine dv 7 rfl (.refl _) (dE (j := 2) Tryz.underlying24 eR rfl rfl rfl (by decide)) (dv 8 rfl (.refl _) (aG bB rfl (aK (.head _) rfl)) (dv 9 rfl (.refl _) (aC rfl) (dv 10 rfl (.refl _) (dE (j := 3) Tryz.underlying24 eR rfl rfl rfl (by decide)) (dv 11 rfl (.refl _) (aG bB rfl (aK (.head _) rfl)) (dv 12 rfl (.refl _) (aC rfl) ?_)))))
 refine dv 13 rfl (.refl _) (dE (j := 4) Tryz.underlying24 eR rfl rfl rfl (by decide)) (dv 14 rfl (.refl _) (aG bB rfl (aK (.head _) rfl)) (dv 15 rfl (.refl _) (aC rfl) (dv 16 rfl (.refl _) (dE (j := 5) Tryz.underlying24 eR rfl rfl rfl (by decide)) (dv 17 rfl (.refl _) (aG bB rfl (aK (.head _) rfl)) (dv 18 rfl (.refl _) (bU rfl (v := .agg #[.int .i64 0, .int .i64 n1, .int .i64 1, .int .i64 1, .int .i64 (p : Int), .int .i64 n4, .int .i64 n5]) (fun w => by kernel_rfl)) ?_)))))
 refine de 19 rfl (bO gW (l := [.int .i64 0, .int .i64 0, .int .i64 0, .int .i64 0, .int .i64 0, .int .i64 0, .int .i64 0]) rfl rfl fun b6 => (aU (.cons _ (.refl _)) (de 20 rfl (bJ dP rfl rfl (vs := [_, _, _, _, _, _, _]) rfl rfl (by simp [Value.oneCell']) (.cons .zero (.cons (.succ .zero) (.cons (.succ (.succ .zero)) (.cons (.succ (.succ (.succ .zero))) (.cons (.succ (.succ (.succ (.succ .zero)))) (.cons (.succ (.succ (.succ (.succ (.succ .zero))))) (.cons (.succ (.succ (.succ (.succ (.succ (.succ .zero)))))) .nil))))))) .here (aU (.cons _ (.refl _)) (bQ (by kernel_rfl) (Tr.keep (env' := [(0, _), (3, _), (5, _), (6, _)]) ⟨rfl, rfl, rfl, rfl, trivial⟩ ?_)))))))
 refine aB (aE (aE (aA (tv (aI iY rfl) (tv (aG iP rfl (aK (.tail _ (.tail _ (.head _))) rfl)) ?_)))))
 refine tv (cM (v2 := .bool false) (iE rfl rfl) (by rfl)) (aF (Tr.keep (env' := [(0, _), (5, _), (6, _), (35, _)]) ⟨rfl, rfl, rfl, rfl, trivial⟩ (aB (aR rfl (aO ?_)))))
 refine aB (aE (dV (.cons_cons _ (.cons_cons _ (.cons_cons _ (.cons _ (.cons _ (.refl _)))))) cK rfl (dv 0 rfl (.cons_cons _ (.cons_cons _ (.cons_cons _ (.cons _ (.cons _ (.refl _)))))) (aC rfl) (dv 1 rfl (.cons_cons _ (.cons_cons _ (.cons_cons _ (.cons _ (.cons _ (.refl _)))))) (aM rfl) (dv 2 rfl (.cons_cons _ (.cons_cons _ (.cons_cons _ (.cons _ (.cons _ (.refl _)))))) (aI mA rfl) ?_)))))
 refine dv 3 rfl (.cons_cons _ (.cons_cons _ (.cons_cons _ (.cons _ (.cons _ (.refl _)))))) (aG rJ rfl (aK (.tail _ (.tail _ (.tail _ (.tail _ (.tail _ (.tail _ (.tail _ hev))))))) rfl)) (dv 4 rfl (.cons_cons _ (.cons_cons _ (.cons_cons _ (.cons _ (.cons _ (.refl _)))))) (aY eY rfl (bL (n := 7) (vs := [_, _, _, _, _, _, _]) (.head _) rfl) rfl) (de 5 rfl (bN (E := 100) (l := [.int .i64 0, .int .i64 n1, .int .i64 1, .int .i64 1, .int .i64 (p : Int), .int .i64 n4, .int .i64 n5]) rfl (fun w => by kernel_rfl) rfl fun b42 => (aU (.cons _ (.cons_cons _ (.cons_cons _ (.cons_cons _ (.cons _ (.cons _ (.refl _))))))) (de 6 rfl (bP en_37 rfl rfl rfl rfl (fun w hw => aC4 (Fr := _) (g := lg) (l := ea.wl) (rb := b42) ⟨0, n1, 1, 1, p, n4⟩ n5 hsv hlf ((.head _)) hok hnew hl5 w (hw.perm (pk (.there (.there (.there (.there .here)))) (pk (.there (.there (.there (.there .here)))) (.refl _))))) fun mb _ => (aU (.cons _ (.cons _ (.cons _ (.refl _)))) ?_)))))))
 refine de 7 rfl (aJ lA rfl rfl rfl rfl mL (aU (.cons _ (.cons _ (.cons _ (.refl _)))) (bQ (by kernel_rfl) (Tr.keep (env' := [(0, _), (5, _), (6, _)]) ⟨rfl, rfl, rfl, trivial⟩ (aB (aE ?_))))))
 refine cI cK rfl (dv 0 rfl (.refl _) (aI iR rfl) (dv 1 rfl (.refl _) (aG pM rfl (aK (.tail _ (.tail _ (.tail _ (.head _)))) rfl)) (dv 2 rfl (.refl _) (cW rfl rfl) (dv 3 rfl (.refl _) (aC rfl) (eI 4 rfl (.refl _) rfl rfl (aC rfl) ?_)))))
 refine eI 5 rfl (.refl _) rfl rfl (aM rfl) (eI 6 rfl (.refl _) rfl rfl (aI eD rfl) (eI 7 rfl (.refl _) rfl rfl (aI iZ rfl) (eI 8 rfl (.refl _) rfl rfl (aG oO rfl (aK (.tail _ (.tail _ (.tail _ (.tail _ (.tail _ (.tail _ (.tail _ (.tail _ (.tail _ (.tail _ hev)))))))))) rfl)) (eI 9 rfl (.refl _) rfl rfl (aI jL rfl) (eI 10 rfl (.refl _) rfl rfl (aG bB rfl (aK (.tail _ (.tail _ (.tail _ (.head _)))) rfl)) ?_)))))
 refine eI 11 rfl (.refl _) rfl rfl (dE (j := 0) Tryz.underlying27 aM6 rfl rfl rfl (by decide)) (eI 12 rfl (.refl _) rfl rfl (aI sH rfl) (eI 13 rfl (.refl _) rfl rfl (aG aM7 rfl (aK (.tail _ (.tail _ (.tail _ (.tail _ (.tail _ (.tail _ (.tail _ (.tail _ (.tail _ (.tail _ hin.srcs)))))))))) rfl)) (eI 14 rfl (.refl _) rfl rfl (eF rfl rfl) (dv 15 rfl (.refl _) (cG rfl rfl) (bQ (by kernel_rfl) ?_)))))
 refine Tr.keep (env' := [(0, _), (5, _), (6, _), (60, _)]) ⟨rfl, rfl, rfl, rfl, trivial⟩ (aB (bI rfl (dV (.cons_cons _ (.cons_cons _ (.cons_cons _ (.cons_cons _ (.cons_cons _ (.cons_cons _ (.cons _ (.cons _ (.cons _ (.cons _ (.refl _))))))))))) cK rfl (dv 0 rfl (.cons_cons _ (.cons_cons _ (.cons_cons _ (.cons_cons _ (.cons_cons _ (.cons_cons _ (.cons _ (.cons _ (.cons _ (.cons _ (.refl _))))))))))) (aC rfl) (dv 1 rfl (.cons_cons _ (.cons_cons _ (.cons_cons _ (.cons_cons _ (.cons_cons _ (.cons_cons _ (.cons _ (.cons _ (.cons _ (.cons _ (.refl _))))))))))) (aM rfl) ?_)))))
 refine dv 2 rfl (.cons_cons _ (.cons_cons _ (.cons_cons _ (.cons_cons _ (.cons_cons _ (.cons_cons _ (.cons _ (.cons _ (.cons _ (.cons _ (.refl _))))))))))) (aI iI rfl) (dv 3 rfl (.cons_cons _ (.cons_cons _ (.cons_cons _ (.cons_cons _ (.cons_cons _ (.cons_cons _ (.cons _ (.cons _ (.cons _ (.cons _ (.refl _))))))))))) (aG fE rfl (aK (.tail _ (.tail _ (.tail _ (.tail _ (.tail _ (.tail _ hev)))))) rfl)) (dv 4 rfl (.cons_cons _ (.cons_cons _ (.cons_cons _ (.cons_cons _ (.cons_cons _ (.cons_cons _ (.cons _ (.cons _ (.cons _ (.cons _ (.refl _))))))))))) (aI lW rfl) (dv 5 rfl (.cons_cons _ (.cons_cons _ (.cons_cons _ (.cons_cons _ (.cons_cons _ (.cons_cons _ (.cons _ (.cons _ (.cons _ (.cons _ (.refl _))))))))))) (aG bB rfl (aK (.tail _ (.tail _ (.tail _ (.head _)))) rfl)) (dv 6 rfl (.cons_cons _ (.cons_cons _ (.cons_cons _ (.cons_cons _ (.cons_cons _ (.cons_cons _ (.cons _ (.cons _ (.cons _ (.cons _ (.refl _))))))))))) (aC rfl) (dv 7 rfl (.cons_cons _ (.cons_cons _ (.cons_cons _ (.cons_cons _ (.cons_cons _ (.cons_cons _ (.cons _ (.cons _ (.cons _ (.cons _ (.refl _))))))))))) (aI iS rfl) ?_)))))
 refine dv 8 rfl (.cons_cons _ (.cons_cons _ (.cons_cons _ (.cons_cons _ (.cons_cons _ (.cons_cons _ (.cons _ (.cons _ (.cons _ (.cons _ (.refl _))))))))))) (aG bB rfl (aK (.tail _ (.tail _ (.tail _ (.head _)))) rfl)) (dv 9 rfl (.cons_cons _ (.cons_cons _ (.cons_cons _ (.cons_cons _ (.cons_cons _ (.cons_cons _ (.cons _ (.cons _ (.cons _ (.cons _ (.refl _))))))))))) (cM (v2 := .int .i64 s2) (r_quo rfl rfl (by decide)) (by rw [hq])) (dv 10 rfl (.cons_cons _ (.cons_cons _ (.cons_cons _ (.cons_cons _ (.cons_cons _ (.cons_cons _ (.cons _ (.cons _ (.cons _ (.cons _ (.refl _))))))))))) (bU rfl (v := .agg #[.int .i64 8, .int .i64 s2, .int .i64 (p : Int), .int .i64 0]) (fun w => by kernel_rfl)) (de 11 rfl (fD aN7 rfl rfl rfl rfl (fun w hw => aB6 (Fr := _) s2 p 0 hf hval w (hw.perm (pk (.there (.there (.there (.there (.there (.there .here)))))) (pk (.there (.there (.there (.there (.there (.there .here)))))) (pk (.there (.there (.there (.there (.there (.there .here)))))) (pk (.there (.there (.there (.there (.there (.there .here)))))) (.refl _))))))) (aU (.cons _ (.cons _ (.cons _ (.cons _ (.refl _))))) (bQ (by kernel_rfl) ?_))))))
 refine Tr.keep (env' := []) trivial (eV rfl (fun w hw => ?_))
 exact ⟨mb, rfl, trivial, Ok.sub (hw.perm (pk (.there (.there (.there (.there .here)))) (pk (.there (.there (.there (.there .here)))) (pk .here (pk .here (pk .here (pk .here (.refl _)))))))) (.cons_cons _ (.cons_cons _ (.cons_cons _ (.cons_cons _ (.cons_cons _ (.cons_cons _ (.cons _ (.cons _ (.cons _ (.cons _ (.refl _)))))))))))⟩
end
end Go.Proofs.W
set_option linter.unusedVariables false
set_option linter.unusedSimpArgs false
set_option linter.unusedSectionVars false
set_option maxRecDepth 100000
namespace Go.Proofs.W
open Go Go.Sl Go.RowKit Go.Proofs
attribute [local irreducible] Go.Sl.Eff
theorem ca_5 : bY Tryz.prog 5 = some (none) := by kernel_rfl
theorem en_275 : aV Tryz.prog 275 := aL Tryz.func275 (by kernel_rfl) (by kernel_rfl)
theorem en_276 : aV Tryz.prog 276 := aL Tryz.func276 (by kernel_rfl) (by kernel_rfl)
theorem en_294 : aV Tryz.prog 294 := aL Tryz.func294 (by kernel_rfl) (by kernel_rfl)
theorem inf_372 : (Tryz.prog.info? 372).map (fun i => (i.zero, i.size, i.bytes)) = some (some (.agg #[.int .u8 0, .int .u8 0, .int .u8 0, .int .u8 0, .int .u8 0, .int .u8 0, .int .u8 0, .int .u8 0, .int .u8 0, .int .u8 0, .int .u8 0, .int .u8 0, .int .u8 0, .int .u8 0, .int .u8 0, .int .u8 0, .int .u8 0, .int .u8 0, .int .u8 0, .int .u8 0, .int .u8 0, .int .u8 0, .int .u8 0, .int .u8 0, .int .u8 0, .int .u8 0, .int .u8 0, .int .u8 0, .int .u8 0, .int .u8 0, .int .u8 0, .int .u8 0, .int .u8 0, .int .u8 0, .int .u8 0, .int .u8 0, .int .u8 0, .int .u8 0, .int .u8 0, .int .u8 0, .int .u8 0, .int .u8 0, .int .u8 0, .int .u8 0, .int .u8 0, .int .u8 0, .int .u8 0, .int .u8 0, .int .u8 0, .int .u8 0, .int .u8 0, .int .u8 0, .int .u8 0, .int .u8 0, .int .u8 0, .int .u8 0, .int .u8 0, .int .u8 0, .int .u8 0, .int .u8 0, .int .u8 0, .int .u8 0, .int .u8 0, .int .u8 0, .int .u8 0]), 65, 65) := by kernel_rfl
theorem aQ4 : (Tryz.prog.info? 5).map (·.size) = some 1 := by kernel_rfl
def Tab (w0 : World) : Prop := w0.cell? ⟨7, 15, none⟩ = some (.int .u8 4)
def chF (b : Int) (s : ByteArray) : Nat → Int
 | 0 => b
 | p + 1 => IntKind.u64.wrap (bits .xor .u64 (chF b s p) ((s.get! p).toNat : Int) * 1099511628211)
def tF (b : Int) (s : ByteArray) : Int := IntKind.u64.wrap (chF b s s.size * 1099511628211)
abbrev aQ5 : ByteArray := ⟨#[48, 49, 50, 51, 52, 53, 54, 55, 56, 57, 97, 98, 99, 100, 101, 102, 103, 104, 105, 106, 107, 108, 109, 110, 111, 112, 113, 114, 115, 116, 117, 118, 119, 120, 121, 122]⟩
def lK (d : Nat) : UInt8 := aQ5.get! d
def oT : Nat → Nat → List UInt8 → List UInt8
 | 0, _, acc => acc
 | f + 1, n, acc => if n < 16 then lK n :: acc else oT f (n / 16) (lK (n % 16) :: acc)
def wW (n : Nat) : List UInt8 := oT 17 n []
abbrev aY7 (n : Nat) : ByteArray := ⟨(wW n).toArray⟩
theorem uJ : ∀ f n acc, (oT f n acc).length ≤ f + acc.length ∧ (0 < f → acc.length < (oT f n acc).length)
 | 0, _, acc => by simp [oT]
 | f + 1, n, acc => by
  unfold oT
  split
  ·simp; omega
  ·have := uJ f (n / 16) (lK (n % 16) :: acc)
   simp at this ⊢
   rcases Nat.eq_zero_or_pos f with h | h
   ·subst h; simp [oT]; omega
   ·omega
theorem aF2 {f n : Nat} {acc : List UInt8} (h : ¬ n < 16) : oT (f + 1) n acc = oT f (n / 16) (lK (n % 16) :: acc) := by rw [oT, if_neg h]
theorem aF3 {f n : Nat} {acc : List UInt8} (h : n < 16) : oT (f + 1) n acc = lK n :: acc := by rw [oT, if_pos h]
theorem getq {s : ByteArray} {p : Nat} (h : p < s.size) : s[p]? = some (s.get! p) := by rw [wM s p h]; simp [h]
theorem tG (z v : Value) (r : List Value) : ∀ k, SetAt (List.replicate (k + 1) z ++ r) k v (List.replicate k z ++ v :: r)
 | 0 => .zero
 | k + 1 => by
  rw [show List.replicate (k + 1 + 1) z ++ r = z :: (List.replicate (k + 1) z ++ r) from rfl, show List.replicate (k + 1) z ++ v :: r = z :: (List.replicate k z ++ v :: r) from rfl]
  exact .succ (tG z v r k)
theorem and15 {n : Nat} (h : n < 18446744073709551616) : bits .and .u64 (n : Int) 15 = ((n % 16 : Nat) : Int) := by
 have := bits_and_u64_nat n 15 h (by omega)
 rw [show ((15 : Nat) : Int) = 15 from rfl] at this
 rw [this, show (15 : Nat) = 2 ^ 4 - 1 from rfl, Nat.and_two_pow_sub_one_eq_mod]
theorem shr4 {n : Nat} : ((n : Int)).fdiv (2 ^ (min (4 : Int).toNat IntKind.u64.bits)) = ((n / 16 : Nat) : Int) := by
 show ((n : Int)).fdiv 16 = _
 rw [Int.fdiv_eq_ediv_of_nonneg _ (by decide)]
 rfl
section
variable {w0 : World} {M : List Ent}
theorem aY8 (b : Int) (s : ByteArray) (hs : s.size ≤ 4611686018427387904) : ∀ w, Ok w0 M w → Calls Tryz.prog 90 #[.int .u64 b, .string s] w (fun e w' => e = .returned (.int .u64 (tF b s)) ∧ Ok w0 M w') := by
 refine enter (vs := [_, _]) Tryz.func90 rfl Tryz.ntmps90 rfl (aE (aA (tv (aD rfl) (aF (Tr.keep (env' := [(0, _), (1, _)]) ⟨rfl, rfl, trivial⟩ ?_)))))
 refine aB (aE (aE (aA (tv (aC rfl) (tv (eO Tryz.underlying9 rfl) ?_)))))
 refine tv (aC rfl) (aF (Tr.keep (env' := [(0, _), (1, _), (7, _), (8, _)]) ⟨rfl, rfl, rfl, rfl, trivial⟩ (aB (aX (dW (fun p : Nat => [(0, .int .u64 (chF b s p)), (1, .string s), (7, .int .i64 (s.size : Int)), (8, .int .i64 (p : Int))]) (fun p : Nat => M) (fun p : Nat => p ≤ s.size) (fun p : Nat => s.size - p) 0 (Nat.zero_le _) ⟨rfl, rfl, rfl, rfl, trivial⟩ (.refl _) ?_)))))
 intro K p hp IH
 refine aE (aA (tv (dI rfl rfl) (aF (Tr.keep (env' := [(0, _), (1, _), (7, _), (8, _), (9, _)]) ⟨rfl, rfl, rfl, rfl, rfl, trivial⟩ (aB ?_)))))
 refine aE ?_
 refine bD rfl (fun hc => ?_) (fun hc => ?_)
 ·have hlt : p < s.size := by have := of_decide_eq_true hc; omega
  refine aO (aB (aE (aX (aE (aA ?_)))))
  refine tv (aC rfl) (tv (aD rfl) (aF (Tr.keep (env' := [(0, _), (1, _), (5, _), (7, _), (8, _)]) ⟨rfl, rfl, rfl, rfl, rfl, trivial⟩ (aB (aA ?_)))))
  refine tv (aC rfl) (tv (aC rfl) (tv (aC rfl) (tv (qV (b := s.get! p) p Tryz.underlying9 rfl rfl rfl (getq hlt)) (tv (cM (v2 := .int .u64 ((s.get! p).toNat : Int)) (qW Tryz.underlying5 Tryz.underlying177 rfl) (congrArg (Value.int .u64) (by rw [IntKind.wrap_u64]; have := (s.get! p).toNat_lt; omega))) (tv (r_xor rfl rfl) ?_)))))
  refine tv (oW rfl rfl) (tv (aD rfl) (aF (Tr.keep (env' := [(0, _), (1, _), (7, _), (8, _)]) ⟨rfl, rfl, rfl, rfl, trivial⟩ (cX (aB ?_)))))
  refine aA (tv (cC rfl rfl (by omega)) (tv (aC rfl) (aF (Tr.keep (env' := [(0, _), (1, _), (7, _), (8, _)]) ⟨rfl, rfl, rfl, rfl, trivial⟩ (aB ?_)))))
  refine nD (IH (p + 1) (by omega) (by omega)) ⟨rfl, rfl, rfl, rfl, trivial⟩ (.refl _)
 ·have hge : ¬ p < s.size := by have := of_decide_eq_false hc; omega
  obtain rfl : p = s.size := by omega
  refine cY (aS (aS (bX (aB (aE ?_)))))
  refine aA (tv (aC rfl) (tv (oW rfl rfl) (tv (aD rfl) (aF (Tr.keep (env' := [(4, _)]) ⟨rfl, trivial⟩ ?_)))))
  refine aB (aQ (aW rfl rfl (fun w hw => ?_)))
  exact ⟨rfl, hw⟩
theorem pow2_16 : ∀ w, Ok w0 M w → Calls Tryz.prog 275 #[.int .i64 16] w (fun e w' => e = .returned (.bool true) ∧ Ok w0 M w') := by
 refine enter (vs := [_]) Tryz.func275 rfl Tryz.ntmps275 rfl (aE (aA (tv (aD rfl) (aF (Tr.keep (env' := [(0, _)]) ⟨rfl, trivial⟩ ?_)))))
 refine aB (aE (aA (tv (aC rfl) (tv (aC rfl) (tv (cP rfl rfl (by omega)) ?_)))))
 refine tv (cM (v2 := .int .i64 0) (aA0 rfl rfl) (by rfl)) (tv (cW rfl rfl) (tv (aD rfl) (aF (Tr.keep (env' := [(2, _)]) ⟨rfl, trivial⟩ (aB ?_)))))
 refine aQ (aW rfl rfl (fun w hw => ?_))
 exact ⟨rfl, hw⟩
theorem tz64_16 (hT : Tab w0) : ∀ w, Ok w0 M w → Calls Tryz.prog 294 #[.int .u64 16] w (fun e w' => e = .returned (.int .i64 4) ∧ Ok w0 M w') := by
 refine enter (vs := [_]) Tryz.func294 rfl Tryz.ntmps294 rfl (aE (aA (tv (aD rfl) (aF (Tr.keep (env' := [(0, _)]) ⟨rfl, trivial⟩ ?_)))))
 refine aB (aE (aE (aA (tv (aC rfl) (tv (cW rfl rfl) ?_)))))
 refine aF (Tr.keep (env' := [(0, _), (4, _)]) ⟨rfl, rfl, trivial⟩ (aB (aR rfl (aO (aB ?_)))))
 refine aE (aA (tv (aC rfl) (tv (aC rfl) (tv (cM (v2 := .int .u64 18446744073709551600) (r_neg rfl) (by rfl)) (tv (cM (v2 := .int .u64 16) (aA0 rfl rfl) (by rfl)) ?_)))))
 refine tv (cM (v2 := .int .u64 4573923408821661840) (oW rfl rfl) (by rfl)) (tv (cM (v2 := .int .u64 15) (wS rfl rfl (by decide)) (by rfl)) (tv (xQ (j := 15) Tryz.underlying401 aQ4 rfl rfl rfl (by decide)) (tv (aG ca_5 rfl (bI1 hT)) (tv (hD Tryz.underlying5 Tryz.underlying3 rfl (i' := 4) (by rfl)) (tv (aD rfl) ?_)))))
 refine aF (Tr.keep (env' := [(2, _)]) ⟨rfl, trivial⟩ (aB (aQ (aW rfl rfl (fun w hw => ?_)))))
 exact ⟨rfl, hw⟩
theorem tz_16 (hT : Tab w0) : ∀ w, Ok w0 M w → Calls Tryz.prog 276 #[.int .u64 16] w (fun e w' => e = .returned (.int .i64 4) ∧ Ok w0 M w') := by
 refine enter (vs := [_]) Tryz.func276 rfl Tryz.ntmps276 rfl (aE (aA (tv (aD rfl) (aF (Tr.keep (env' := [(0, _)]) ⟨rfl, trivial⟩ ?_)))))
 refine aB (aE (aR rfl (aO (aB (aE ?_)))))
 refine aA (tv (aC rfl) (te (aJ en_294 rfl rfl rfl rfl (tz64_16 hT) (tv (aD rfl) (aF (Tr.keep (env' := [(2, _)]) ⟨rfl, trivial⟩ ?_))))))
 refine aB (aQ (aW rfl rfl (fun w hw => ?_)))
 exact ⟨rfl, hw⟩
theorem aF4 (hT : Tab w0) (n : Nat) (hn : n < 18446744073709551616) : ∀ w, Ok w0 M w → Calls Tryz.prog 254 #[.slice none 0 0, .int .u64 (n : Int), .int .i64 16, .bool false, .bool false] w (fun e w' => e = .returned (.tuple #[.slice none 0 0, .string (aY7 n)]) ∧ Ok w0 M w') := by
 refine enter (vs := [_, _, _, _, _]) Tryz.func254 rfl Tryz.ntmps254 rfl (aE (aA (tv (aD rfl) (tv (aD rfl) (aF ?_)))))
 refine Tr.keep (env' := [(0, _), (1, _), (2, _), (3, _), (4, _), (10, _), (11, _)]) ⟨rfl, rfl, rfl, rfl, rfl, rfl, rfl, trivial⟩ (aB (aE (aE (aA (tv (aC rfl) ?_)))))
 refine tv (dI rfl rfl) (tv (aC rfl) (cV rfl rfl (aC rfl) (cV rfl rfl (cW rfl rfl) (tv (bS rfl rfl) (tv (aC rfl) ?_)))))
 refine cV rfl rfl (aC rfl) (cV rfl rfl (fC rfl rfl) (tv (bS rfl rfl) (aF (Tr.keep (env' := [(0, _), (1, _), (2, _), (3, _), (4, _), (10, _), (11, _), (28, _)]) ⟨rfl, rfl, rfl, rfl, rfl, rfl, rfl, rfl, trivial⟩ (aB ?_)))))
 refine aR rfl (aO (aB (aE (aA (te (bO inf_372 (l := [.int .u8 0, .int .u8 0, .int .u8 0, .int .u8 0, .int .u8 0, .int .u8 0, .int .u8 0, .int .u8 0, .int .u8 0, .int .u8 0, .int .u8 0, .int .u8 0, .int .u8 0, .int .u8 0, .int .u8 0, .int .u8 0, .int .u8 0, .int .u8 0, .int .u8 0, .int .u8 0, .int .u8 0, .int .u8 0, .int .u8 0, .int .u8 0, .int .u8 0, .int .u8 0, .int .u8 0, .int .u8 0, .int .u8 0, .int .u8 0, .int .u8 0, .int .u8 0, .int .u8 0, .int .u8 0, .int .u8 0, .int .u8 0, .int .u8 0, .int .u8 0, .int .u8 0, .int .u8 0, .int .u8 0, .int .u8 0, .int .u8 0, .int .u8 0, .int .u8 0, .int .u8 0, .int .u8 0, .int .u8 0, .int .u8 0, .int .u8 0, .int .u8 0, .int .u8 0, .int .u8 0, .int .u8 0, .int .u8 0, .int .u8 0, .int .u8 0, .int .u8 0, .int .u8 0, .int .u8 0, .int .u8 0, .int .u8 0, .int .u8 0, .int .u8 0, .int .u8 0]) rfl rfl fun b12 => ?_))))))
 refine aF (Tr.keep (env' := [(0, _), (1, _), (2, _), (3, _), (4, _), (10, _), (11, _), (12, _)]) ⟨rfl, rfl, rfl, rfl, rfl, rfl, rfl, rfl, trivial⟩ (aB (aE (aA (tv (aD rfl) ?_)))))
 refine aF (Tr.keep (env' := [(0, _), (1, _), (2, _), (3, _), (4, _), (10, _), (11, _), (12, _), (13, _)]) ⟨rfl, rfl, rfl, rfl, rfl, rfl, rfl, rfl, rfl, trivial⟩ (aB (aE (aE (aA ?_)))))
 refine tv (aC rfl) (aF (Tr.keep (env' := [(0, _), (1, _), (2, _), (3, _), (4, _), (10, _), (11, _), (12, _), (13, _), (30, _)]) ⟨rfl, rfl, rfl, rfl, rfl, rfl, rfl, rfl, rfl, rfl, trivial⟩ (aB (aR rfl (aO ?_)))))
 refine aB (aE (aE (aA (tv (aC rfl) (te (aJ en_275 rfl rfl rfl rfl pow2_16 ?_))))))
 refine aF (Tr.keep (env' := [(0, _), (1, _), (2, _), (3, _), (4, _), (10, _), (11, _), (12, _), (13, _), (34, _)]) ⟨rfl, rfl, rfl, rfl, rfl, rfl, rfl, rfl, rfl, rfl, trivial⟩ (aB (bI rfl (aE (aA ?_)))))
 refine tv (aC rfl) (tv (qW Tryz.underlying3 Tryz.underlying274 rfl) (te (aJ en_276 rfl rfl rfl rfl (tz_16 hT) (tv (qW Tryz.underlying3 Tryz.underlying274 rfl) (tv (aD rfl) (aF ?_))))))
 refine Tr.keep (env' := [(0, _), (1, _), (2, _), (3, _), (4, _), (10, _), (11, _), (12, _), (13, _), (14, _)]) ⟨rfl, rfl, rfl, rfl, rfl, rfl, rfl, rfl, rfl, rfl, trivial⟩ (aB (aE (aA (tv (aC rfl) (tv (qW Tryz.underlying3 Tryz.underlying177 rfl) ?_)))))
 refine tv (aD rfl) (aF (Tr.keep (env' := [(0, _), (1, _), (2, _), (3, _), (4, _), (10, _), (11, _), (12, _), (13, _), (14, _), (15, _)]) ⟨rfl, rfl, rfl, rfl, rfl, rfl, rfl, rfl, rfl, rfl, rfl, trivial⟩ (aB (aE (aA ?_)))))
 refine tv (aC rfl) (tv (qW Tryz.underlying3 Tryz.underlying274 rfl) (tv (xN rfl rfl) (tv (aD rfl) (aF (Tr.keep (env' := [(0, _), (1, _), (3, _), (4, _), (10, _), (11, _), (12, _), (13, _), (14, _), (15, _), (16, _)]) ⟨rfl, rfl, rfl, rfl, rfl, rfl, rfl, rfl, rfl, rfl, rfl, trivial⟩ ?_)))))
 refine aB (aE (aX (dW (fun z : Nat × List UInt8 => [(0, .slice none 0 0), (1, .int .u64 (z.1 : Int)), (3, .bool false), (4, .bool false), (10, .slice none 0 0), (11, .string ⟨#[]⟩), (12, .pointer (some ⟨b12, 0, none⟩)), (13, .int .i64 (65 - (z.2.length : Int))), (14, .int .u64 4), (15, .int .u64 16), (16, .int .u64 15)]) (fun z : Nat × List UInt8 => cel b12 372 (List.replicate (64 - z.2.length + 1) (.int .u8 0) ++ kC z.2) :: M) (fun z : Nat × List UInt8 => z.2.length ≤ 16 ∧ z.1 < 16 ^ (16 - z.2.length) ∧ wW n = oT (17 - z.2.length) z.1 z.2) (fun z : Nat × List UInt8 => z.1) (n, []) ⟨Nat.zero_le _, hn, rfl⟩ ⟨rfl, rfl, rfl, rfl, rfl, rfl, rfl, rfl, rfl, rfl, rfl, trivial⟩ (.refl _) ?_)))
 intro K ⟨u, acc⟩ ⟨hl, hu, hx⟩ IH
 dsimp only at hl hu hx IH ⊢
 have hu64 : u < 18446744073709551616 := Nat.lt_of_lt_of_le hu (Nat.pow_le_pow_right (by decide) (by omega : 16 - acc.length ≤ 16))
 refine aE (aE (aA (tv (aC rfl) (tv (aC rfl) (tv (fI rfl rfl) ?_)))))
 refine aF (Tr.keep (env' := [(0, _), (1, _), (3, _), (4, _), (10, _), (11, _), (12, _), (13, _), (14, _), (15, _), (16, _), (46, _)]) ⟨rfl, rfl, rfl, rfl, rfl, rfl, rfl, rfl, rfl, rfl, rfl, rfl, trivial⟩ (aB ?_))
 refine bD rfl (fun hc => ?_) (fun hc => ?_)
 ·have hge : 16 ≤ u := by have := of_decide_eq_true hc; omega
  have hl15 : acc.length ≤ 15 := by
   rcases Nat.lt_or_ge acc.length 16 with h | h
   ·omega
   ·have : u < 16 ^ 0 := by rw [show (0 : Nat) = 16 - acc.length by omega]; exact hu
    simp at this; omega
  obtain ⟨f, hf⟩ : ∃ f, 17 - acc.length = f + 1 := ⟨16 - acc.length, by omega⟩
  have hua : oT (17 - acc.length) u acc = oT (17 - (acc.length + 1)) (u / 16) (lK (u % 16) :: acc) := by
   rw [hf, show 17 - (acc.length + 1) = f by omega]; exact aF2 (by omega)
  refine aO (aB (aX (aE (aA (tv (aC rfl) ?_)))))
  refine tv (cM (v2 := .int .i64 (65 - ((lK (u % 16) :: acc).length : Int))) (cP rfl rfl (by omega)) (congrArg (Value.int .i64) (by simp; omega))) (tv (aD rfl) (aF (Tr.keep (env' := [(0, _), (1, _), (3, _), (4, _), (10, _), (11, _), (12, _), (13, _), (14, _), (15, _), (16, _)]) ⟨rfl, rfl, rfl, rfl, rfl, rfl, rfl, rfl, rfl, rfl, rfl, trivial⟩ (aB (aE ?_)))))
  refine aA (tv (aC rfl) (tv (aC rfl) (tv (aC rfl) (tv (cM (v2 := .int .u64 ((u % 16 : Nat) : Int)) (aA0 rfl rfl) (congrArg (Value.int .u64) (and15 hu64))) (tv (qV (b := lK (u % 16)) (u % 16) Tryz.underlying9 rfl rfl rfl (getq (s := aQ5) (show u % 16 < 36 by omega))) ?_)))))
  refine tv (xQ (j := 64 - acc.length) Tryz.underlying372 aQ4 rfl rfl (by first | omega | (simp; omega)) (by omega)) (te (bR (l := List.replicate (64 - acc.length + 1) (.int .u8 0) ++ kC acc) (l' := List.replicate (64 - acc.length) (.int .u8 0) ++ kC (lK (u % 16) :: acc)) aQ4 rfl rfl rfl (by simpa using tG (.int .u8 0) (.int .u8 ((lK (u % 16)).toNat : Int)) (kC acc) (64 - acc.length)) .here (aF (Tr.keep (env' := [(0, _), (1, _), (3, _), (4, _), (10, _), (11, _), (12, _), (13, _), (14, _), (15, _), (16, _)]) ⟨rfl, rfl, rfl, rfl, rfl, rfl, rfl, rfl, rfl, rfl, rfl, trivial⟩ (aB (aA ?_))))))
  refine tv (aC rfl) (tv (aC rfl) (tv (cM (v2 := .int .u64 ((u / 16 : Nat) : Int)) (wS rfl rfl (by decide)) (congrArg (Value.int .u64) shr4)) (tv (aD rfl) (aF (Tr.keep (env' := [(0, _), (1, _), (3, _), (4, _), (10, _), (11, _), (12, _), (13, _), (14, _), (15, _), (16, _)]) ⟨rfl, rfl, rfl, rfl, rfl, rfl, rfl, rfl, rfl, rfl, rfl, trivial⟩ ?_)))))
  refine cX (aB ?_)
  refine nD (IH (u / 16, lK (u % 16) :: acc) ⟨by simp; omega, by simp only [List.length_cons]; rw [Nat.div_lt_iff_lt_mul (by decide), ← Nat.pow_succ, show (16 - (acc.length + 1)).succ = 16 - acc.length by omega]; exact hu, by rw [hx, hua]; rfl⟩ (by simp; omega)) ⟨rfl, rfl, rfl, rfl, rfl, rfl, rfl, rfl, rfl, rfl, rfl, trivial⟩ (by simp only [List.length_cons]; rw [show 64 - (acc.length + 1) + 1 = 64 - acc.length by omega]; exact .refl _)
 ·have hlt : u < 16 := by have := of_decide_eq_false hc; omega
  have hfin : wW n = lK u :: acc := by
   rw [hx]
   obtain ⟨f, hf⟩ : ∃ f, 17 - acc.length = f + 1 := ⟨16 - acc.length, by omega⟩
   rw [hf]; exact aF3 hlt
  refine cY (aS (aS (bX (aB (aE ?_)))))
  refine aA (tv (aC rfl) (tv (cM (v2 := .int .i64 (64 - (acc.length : Int))) (cP rfl rfl (by omega)) (congrArg (Value.int .i64) (by omega))) (tv (aD rfl) (aF (Tr.keep (env' := [(0, _), (1, _), (3, _), (4, _), (10, _), (11, _), (12, _), (13, _)]) ⟨rfl, rfl, rfl, rfl, rfl, rfl, rfl, rfl, trivial⟩ ?_)))))
  refine aB (aA (tv (aC rfl) (tv (aC rfl) (tv (qV (b := lK u) u Tryz.underlying9 rfl rfl rfl (getq (s := aQ5) (show u < 36 by omega))) (tv (xQ (j := 64 - acc.length) Tryz.underlying372 aQ4 rfl rfl (by first | omega | (simp; omega)) (by omega)) ?_)))))
  refine te (bR (l := List.replicate (64 - acc.length + 1) (.int .u8 0) ++ kC acc) (l' := List.replicate (64 - acc.length) (.int .u8 0) ++ kC (lK u :: acc)) aQ4 rfl rfl rfl (by simpa using tG (.int .u8 0) (.int .u8 ((lK u).toNat : Int)) (kC acc) (64 - acc.length)) .here (aF (Tr.keep (env' := [(0, _), (3, _), (4, _), (10, _), (11, _), (12, _), (13, _)]) ⟨rfl, rfl, rfl, rfl, rfl, rfl, rfl, trivial⟩ (aB (aE (aE ?_))))))
  refine aA (tv (aC rfl) (aF (Tr.keep (env' := [(0, _), (4, _), (10, _), (11, _), (12, _), (13, _), (89, _)]) ⟨rfl, rfl, rfl, rfl, rfl, rfl, rfl, trivial⟩ (aB (aR rfl ?_)))))
  refine aO (aB (aE (aE (aA (tv (aC rfl) ?_)))))
  refine aF (Tr.keep (env' := [(0, _), (10, _), (11, _), (12, _), (13, _), (94, _)]) ⟨rfl, rfl, rfl, rfl, rfl, rfl, trivial⟩ (aB (aR rfl (aO (aB ?_)))))
  refine aE (aA (tv (aC rfl) (tv (aY1 (64 - acc.length) Tryz.underlying372 aQ4 rfl rfl (by omega) (by omega)) ?_)))
  refine t_val (aP8 (l := lK u :: acc) Tryz.underlying92 Tryz.underlying5 Tryz.underlying9 rfl (by simp; omega) (fun j hj => by
  simp only [Addr.add_lit]
  refine aK (.head _) ?_
  rw [List.getElem?_append_right (by simp), List.length_replicate, show 0 + (64 - acc.length) * 1 + j - (64 - acc.length) = j by omega, List.getElem?_map, List.getElem?_eq_getElem hj]
  rfl)) rfl ?_
  refine tv (aD rfl) (aF (Tr.keep (env' := [(10, _), (11, _)]) ⟨rfl, rfl, trivial⟩ (aB (aQ (gG rfl rfl rfl (fun w hw => ?_))))))
  exact ⟨by rw [show aY7 n = ⟨(lK u :: acc).toArray⟩ from congrArg (fun l : List UInt8 => (⟨l.toArray⟩ : ByteArray)) hfin], hw.sub (.cons _ (.refl _))⟩
end
end Go.Proofs.W
set_option linter.unusedVariables false
set_option linter.unusedSimpArgs false
set_option linter.unusedSectionVars false
set_option maxRecDepth 100000
namespace Go.Proofs.W
open Go Go.Sl Go.RowKit Go.Proofs
attribute [local irreducible] Go.Sl.Eff
theorem en_145 : aV Tryz.prog 145 := aL Tryz.func145 (by kernel_rfl) (by kernel_rfl)
theorem en_146 : aV Tryz.prog 146 := aL Tryz.func146 (by kernel_rfl) (by kernel_rfl)
theorem en_206 : aV Tryz.prog 206 := aL Tryz.func206 (by kernel_rfl) (by kernel_rfl)
theorem en_207 : aV Tryz.prog 207 := aL Tryz.func207 (by kernel_rfl) (by kernel_rfl)
theorem aQ6 : aV Tryz.prog 208 := aL Tryz.func208 (by kernel_rfl) (by kernel_rfl)
theorem en_254 : aV Tryz.prog 254 := aL Tryz.func254 (by kernel_rfl) (by kernel_rfl)
theorem en_256 : aV Tryz.prog 256 := aL Tryz.func256 (by kernel_rfl) (by kernel_rfl)
theorem en_257 : aV Tryz.prog 257 := aL Tryz.func257 (by kernel_rfl) (by kernel_rfl)
theorem aL7 : ∀ f n acc, n < 16 ^ f → 0 < f → (oT (f + 1) n acc).length ≤ f + acc.length
 | 0, _, _, _, h => by omega
 | f + 1, n, acc, hn, _ => by
  by_cases h : n < 16
  ·rw [aF3 h]; simp; omega
  ·rw [aF2 h]
   have h1 : n / 16 < 16 ^ f := by rw [Nat.div_lt_iff_lt_mul (by decide), ← Nat.pow_succ]; exact hn
   have h2 : 0 < f := by
    rcases Nat.eq_zero_or_pos f with h3 | h3
    ·subst h3; simp at hn; omega
    ·exact h3
   have := aL7 f (n / 16) (lK (n % 16) :: acc) h1 h2
   simp at this ⊢; omega
theorem aL8 {n : Nat} (h : n < 18446744073709551616) : 1 ≤ (wW n).length ∧ (wW n).length ≤ 16 := by
 have h1 := aL7 16 n [] h (by decide)
 have h2 := (uJ 17 n []).2 (by decide)
 simp at h1 h2
 exact ⟨h2, h1⟩
abbrev aQ7 (k : Nat) : ByteArray := ⟨(List.replicate k (48 : UInt8)).toArray⟩
def gL (n : Nat) : ByteArray := aQ7 (16 - (wW n).length) ++ aY7 n
theorem aY9 : ∀ k, k < 16 → (⟨#[48, 48, 48, 48, 48, 48, 48, 48, 48, 48, 48, 48, 48, 48, 48, 48, 48, 48, 48, 48, 48, 48, 48, 48, 48, 48, 48, 48, 48, 48, 48, 48, 48, 48, 48, 48, 48, 48, 48, 48, 48, 48, 48, 48, 48, 48, 48, 48, 48, 48, 48, 48, 48, 48, 48, 48, 48, 48, 48, 48, 48, 48, 48, 48]⟩ : ByteArray).extract 0 k = aQ7 k := by decide
theorem and32 {k : Nat} (h : k ≤ 16) : bits .and .u64 (k : Int) 4294967295 = (k : Int) := by
 have := bits_and_u64_nat k 4294967295 (by omega) (by omega)
 rw [show ((4294967295 : Nat) : Int) = 4294967295 from rfl] at this
 rw [this, show (4294967295 : Nat) = 2 ^ 32 - 1 from rfl, Nat.and_two_pow_sub_one_eq_mod]
 omega
theorem shr32 {k : Nat} (h : k ≤ 16) : ((k : Int)).fdiv (2 ^ (min (32 : Int).toNat IntKind.u64.bits)) = 0 := by
 show ((k : Int)).fdiv 4294967296 = _
 rw [Int.fdiv_eq_ediv_of_nonneg _ (by decide)]
 omega
theorem bF3 {k : Nat} (h : k ≤ 16) : IntKind.u64.wrap (1 * (k : Int)) = (k : Int) := by rw [IntKind.wrap_u64]; omega
section
variable {w0 : World} {M : List Ent}
theorem fmtI_c (hT : Tab w0) (n : Nat) (hn : n < 18446744073709551616) : ∀ w, Ok w0 M w → Calls Tryz.prog 206 #[.int .u64 (n : Int), .int .i64 16] w (fun e w' => e = .returned (.string (aY7 n)) ∧ Ok w0 M w') := by
 refine enter (vs := [_, _]) Tryz.func206 rfl Tryz.ntmps206 rfl (aE (aA (tv (aD rfl) (aF (Tr.keep (env' := [(0, _), (1, _)]) ⟨rfl, rfl, trivial⟩ ?_)))))
 refine aB (aE (aE (aA (tv (aC rfl) (tv (cW rfl rfl) ?_)))))
 refine aF (Tr.keep (env' := [(0, _), (1, _), (10, _)]) ⟨rfl, rfl, rfl, trivial⟩ (aB (aR rfl (aO (aB ?_)))))
 refine aE (aA (tv (aC rfl) (tv (aC rfl) (te (aJ en_254 rfl rfl rfl rfl (aF4 hT n hn) (tv (aC rfl) ?_))))))
 refine tv (bA rfl rfl) (tv (bA rfl rfl) (tv (aD rfl) (tv (aD rfl) (aF (Tr.keep (env' := [(8, _)]) ⟨rfl, trivial⟩ ?_)))))
 refine aB (aE (aA (tv (aC rfl) (tv (aD rfl) (aF ?_)))))
 refine Tr.keep (env' := [(4, _)]) ⟨rfl, trivial⟩ (aB (aQ (aW rfl rfl (fun w hw => ?_))))
 exact ⟨rfl, hw⟩
theorem fmt_c (hT : Tab w0) (n : Nat) (hn : n < 18446744073709551616) : ∀ w, Ok w0 M w → Calls Tryz.prog 145 #[.int .u64 (n : Int), .int .i64 16] w (fun e w' => e = .returned (.string (aY7 n)) ∧ Ok w0 M w') := by
 refine enter (vs := [_, _]) Tryz.func145 rfl Tryz.ntmps145 rfl (aE (aA (tv (aD rfl) (aF (Tr.keep (env' := [(0, _), (1, _)]) ⟨rfl, rfl, trivial⟩ ?_)))))
 refine aB (aE (aA (tv (aC rfl) (tv (aC rfl) (te (aJ en_206 rfl rfl rfl rfl (fmtI_c hT n hn) ?_))))))
 refine tv (aD rfl) (aF (Tr.keep (env' := [(4, _)]) ⟨rfl, trivial⟩ (aB (aQ (aW rfl rfl (fun w hw => ?_))))))
 exact ⟨rfl, hw⟩
theorem yW (s p : ByteArray) : ∀ w, Ok w0 M w → Calls Tryz.prog 257 #[.string s, .string p] w (fun e w' => e = .returned (.bool (decide ((p.size : Int) ≤ (s.size : Int)) && decide (s.extract 0 p.size = p))) ∧ Ok w0 M w') := by
 refine enter (vs := [_, _]) Tryz.func257 rfl Tryz.ntmps257 rfl (aE (aA (tv (aD rfl) (aF (Tr.keep (env' := [(0, _), (1, _)]) ⟨rfl, rfl, trivial⟩ ?_)))))
 refine aB (aE (aA (tv (aC rfl) (tv (eO Tryz.underlying9 rfl) (tv (aC rfl) ?_)))))
 refine tv (eO Tryz.underlying9 rfl) (tv (fI rfl rfl) (tv (aC rfl) ?_))
 apply bH 7 (s := 10) (d := 17) rfl
 ·intro hg1 K hK
  refine bE hg1 rfl rfl (aC rfl) (bE hg1 rfl rfl (aC rfl) (bE hg1 rfl rfl (eO Tryz.underlying9 rfl) (bE hg1 rfl rfl (aH0 p.size Tryz.underlying9 rfl rfl rfl (by have := of_decide_eq_true hg1; omega)) (bE hg1 rfl rfl (aC rfl) (bE hg1 rfl rfl (iE rfl rfl) ?_)))))
  refine tv (bV hg1 rfl rfl) ?_
  iterate 6 refine Tr.weak2 rfl ?_
  exact hK _ (dT hg1)
 ·intro hg1 K hK
  refine aH hg1 rfl rfl rfl rfl (aH hg1 rfl rfl rfl rfl (aH hg1 rfl rfl rfl rfl (aH hg1 rfl rfl rfl rfl (aH hg1 rfl rfl rfl rfl (aH hg1 rfl rfl rfl rfl ?_)))))
  refine tv (bW hg1 rfl rfl) ?_
  iterate 6 refine Tr.weak2 rfl ?_
  exact hK _ (dU hg1)
 refine tv (aD rfl) (aF (Tr.keep (env' := [(4, _)]) ⟨rfl, trivial⟩ (aB (aQ (aW rfl rfl (fun w hw => ?_))))))
 exact ⟨rfl, hw⟩
theorem oU (s p : ByteArray) : ∀ w, Ok w0 M w → Calls Tryz.prog 208 #[.string s, .string p] w (fun e w' => e = .returned (.bool (decide ((p.size : Int) ≤ (s.size : Int)) && decide (s.extract 0 p.size = p))) ∧ Ok w0 M w') := by
 refine enter (vs := [_, _]) Tryz.func208 rfl Tryz.ntmps208 rfl (aE (aA (tv (aD rfl) (aF (Tr.keep (env' := [(0, _), (1, _)]) ⟨rfl, rfl, trivial⟩ ?_)))))
 refine aB (aE (aA (tv (aC rfl) (tv (aC rfl) (te (aJ en_257 rfl rfl rfl rfl (yW s p) ?_))))))
 refine tv (aD rfl) (aF (Tr.keep (env' := [(4, _)]) ⟨rfl, trivial⟩ (aB (aQ (aW rfl rfl (fun w hw => ?_))))))
 exact ⟨rfl, hw⟩
theorem mul64_c (k : Nat) (hk : k ≤ 16) : ∀ w, Ok w0 M w → Calls Tryz.prog 256 #[.int .u64 1, .int .u64 (k : Int)] w (fun e w' => e = .returned (.tuple #[.int .u64 0, .int .u64 (k : Int)]) ∧ Ok w0 M w') := by
 refine enter (vs := [_, _]) Tryz.func256 rfl Tryz.ntmps256 rfl (aE (aA (tv (aD rfl) (tv (aD rfl) (aF ?_)))))
 refine Tr.keep (env' := [(0, _), (1, _)]) ⟨rfl, rfl, trivial⟩ (aB (aE (aA (tv (aC rfl) (tv (cM (v2 := .int .u64 1) (aA0 rfl rfl) (congrArg (Value.int .u64) (by rfl))) ?_)))))
 refine tv (aD rfl) (aF (Tr.keep (env' := [(0, _), (1, _), (6, _)]) ⟨rfl, rfl, rfl, trivial⟩ (aB (aE (aA ?_)))))
 refine tv (aC rfl) (tv (cM (v2 := .int .u64 0) (wS rfl rfl (by decide)) (congrArg (Value.int .u64) (by rfl))) (tv (aD rfl) (aF (Tr.keep (env' := [(0, _), (1, _), (6, _), (7, _)]) ⟨rfl, rfl, rfl, rfl, trivial⟩ (aB ?_)))))
 refine aE (aA (tv (aC rfl) (tv (cM (v2 := .int .u64 (k : Int)) (aA0 rfl rfl) (congrArg (Value.int .u64) (and32 hk))) (tv (aD rfl) (aF ?_)))))
 refine Tr.keep (env' := [(0, _), (1, _), (6, _), (7, _), (8, _)]) ⟨rfl, rfl, rfl, rfl, rfl, trivial⟩ (aB (aE (aA (tv (aC rfl) (tv (cM (v2 := .int .u64 0) (wS rfl rfl (by decide)) (congrArg (Value.int .u64) (shr32 hk))) ?_)))))
 refine tv (aD rfl) (aF (Tr.keep (env' := [(0, _), (1, _), (6, _), (7, _), (8, _), (9, _)]) ⟨rfl, rfl, rfl, rfl, rfl, rfl, trivial⟩ (aB (aE (aA ?_)))))
 refine tv (aC rfl) (tv (aC rfl) (tv (cM (v2 := .int .u64 (k : Int)) (oW rfl rfl) (congrArg (Value.int .u64) (bF3 hk))) (tv (aD rfl) (aF (Tr.keep (env' := [(0, _), (1, _), (6, _), (7, _), (8, _), (9, _), (10, _)]) ⟨rfl, rfl, rfl, rfl, rfl, rfl, rfl, trivial⟩ ?_)))))
 refine aB (aE (aA (tv (aC rfl) (tv (aC rfl) (tv (cM (v2 := .int .u64 0) (oW rfl rfl) (congrArg (Value.int .u64) (by rw [IntKind.wrap_u64]; simp))) ?_)))))
 refine tv (aC rfl) (tv (cM (v2 := .int .u64 0) (wS rfl rfl (by decide)) (congrArg (Value.int .u64) (shr32 hk))) (tv (cM (v2 := .int .u64 0) (uN rfl rfl) (congrArg (Value.int .u64) (by rfl))) (tv (aD rfl) (aF (Tr.keep (env' := [(0, _), (1, _), (6, _), (7, _), (9, _), (11, _)]) ⟨rfl, rfl, rfl, rfl, rfl, rfl, trivial⟩ ?_)))))
 refine aB (aE (aA (tv (aC rfl) (tv (cM (v2 := .int .u64 0) (aA0 rfl rfl) (congrArg (Value.int .u64) (by rfl))) (tv (aD rfl) ?_)))))
 refine aF (Tr.keep (env' := [(0, _), (1, _), (6, _), (7, _), (9, _), (11, _), (12, _)]) ⟨rfl, rfl, rfl, rfl, rfl, rfl, rfl, trivial⟩ (aB (aE (aA (tv (aC rfl) ?_)))))
 refine tv (cM (v2 := .int .u64 0) (wS rfl rfl (by decide)) (congrArg (Value.int .u64) (by rfl))) (tv (aD rfl) (aF (Tr.keep (env' := [(0, _), (1, _), (6, _), (7, _), (9, _), (12, _), (13, _)]) ⟨rfl, rfl, rfl, rfl, rfl, rfl, rfl, trivial⟩ (aB (aE ?_)))))
 refine aA (tv (aC rfl) (tv (aC rfl) (tv (aC rfl) (tv (cM (v2 := .int .u64 0) (oW rfl rfl) (congrArg (Value.int .u64) (by rfl))) (tv (cM (v2 := .int .u64 0) (uN rfl rfl) (congrArg (Value.int .u64) (by rfl))) ?_)))))
 refine tv (aD rfl) (aF (Tr.keep (env' := [(0, _), (1, _), (7, _), (9, _), (12, _), (13, _)]) ⟨rfl, rfl, rfl, rfl, rfl, rfl, trivial⟩ (aB (aE (aA ?_)))))
 refine tv (aC rfl) (tv (aC rfl) (tv (cM (v2 := .int .u64 0) (oW rfl rfl) (congrArg (Value.int .u64) (by rfl))) (tv (aC rfl) (tv (cM (v2 := .int .u64 0) (uN rfl rfl) (congrArg (Value.int .u64) (by rfl))) (tv (aC rfl) ?_)))))
 refine tv (cM (v2 := .int .u64 0) (wS rfl rfl (by decide)) (congrArg (Value.int .u64) (by rfl))) (tv (cM (v2 := .int .u64 0) (uN rfl rfl) (congrArg (Value.int .u64) (by rfl))) (tv (aD rfl) (aF (Tr.keep (env' := [(0, _), (1, _), (4, _)]) ⟨rfl, rfl, rfl, trivial⟩ (aB ?_)))))
 refine aE (aA (tv (aC rfl) (tv (aC rfl) (tv (cM (v2 := .int .u64 (k : Int)) (oW rfl rfl) (congrArg (Value.int .u64) (bF3 hk))) (tv (aD rfl) ?_)))))
 refine aF (Tr.keep (env' := [(4, _), (5, _)]) ⟨rfl, rfl, trivial⟩ (aB (aQ (gG rfl rfl rfl (fun w hw => ?_)))))
 exact ⟨rfl, hw⟩
theorem mul_c (k : Nat) (hk : k ≤ 16) : ∀ w, Ok w0 M w → Calls Tryz.prog 207 #[.int .u64 1, .int .u64 (k : Int)] w (fun e w' => e = .returned (.tuple #[.int .u64 0, .int .u64 (k : Int)]) ∧ Ok w0 M w') := by
 refine enter (vs := [_, _]) Tryz.func207 rfl Tryz.ntmps207 rfl (aE (aA (tv (aD rfl) (tv (aD rfl) (aF ?_)))))
 refine Tr.keep (env' := [(0, _), (1, _)]) ⟨rfl, rfl, trivial⟩ (aB (aE (aR rfl (aO (aB ?_)))))
 refine aE (aA (tv (aC rfl) (tv (aC rfl) (te (aJ en_256 rfl rfl rfl rfl (mul64_c k hk) (tv (aC rfl) ?_))))))
 refine tv (bA rfl rfl) (tv (bA rfl rfl) (tv (aD rfl) (tv (aD rfl) (aF (Tr.keep (env' := [(8, _), (9, _)]) ⟨rfl, rfl, trivial⟩ ?_)))))
 refine aB (aE (aA (tv (aC rfl) (tv (aC rfl) (tv (aD rfl) ?_)))))
 refine tv (aD rfl) (aF (Tr.keep (env' := [(4, _), (5, _)]) ⟨rfl, rfl, trivial⟩ (aB (aQ (gG rfl rfl rfl (fun w hw => ?_))))))
 exact ⟨rfl, hw⟩
theorem bF4 (k : Nat) (hk : k < 16) : ∀ w, Ok w0 M w → Calls Tryz.prog 146 #[.string ⟨#[48]⟩, .int .i64 (k : Int)] w (fun e w' => e = .returned (.string (aQ7 k)) ∧ Ok w0 M w') := by
 refine enter (vs := [_, _]) Tryz.func146 rfl Tryz.ntmps146 rfl (aE (aA (tv (aD rfl) (aF (Tr.keep (env' := [(0, _), (1, _)]) ⟨rfl, rfl, trivial⟩ ?_)))))
 refine aB (aE (aE (aA (tv (aC rfl) (aF ?_)))))
 refine Tr.keep (env' := [(0, _), (1, _), (11, _)]) ⟨rfl, rfl, rfl, trivial⟩ (aB (aX (aE (aA (tv (cW rfl rfl) ?_)))))
 refine tv (aD rfl) (aF (Tr.keep (env' := [(0, _), (1, _), (11, _), (12, _)]) ⟨rfl, rfl, rfl, rfl, trivial⟩ (aB ?_)))
 refine bD rfl (fun h0 => ?_) (fun h0 => ?_)
 ·obtain rfl : k = 0 := by simpa using h0
  refine aE (aA (tv (aD rfl) (aF (Tr.keep (env' := [(4, _)]) ⟨rfl, trivial⟩ (aB ?_)))))
  refine aQ (bM (aN (aW rfl rfl (fun w hw => ?_))))
  exact ⟨rfl, hw⟩
 ·skip
  refine aE (aA (tv (cW rfl rfl) (tv (aD rfl) (aF (Tr.keep (env' := [(0, _), (1, _), (14, _)]) ⟨rfl, rfl, rfl, trivial⟩ ?_)))))
  refine aB ?_
  refine bD rfl (fun h1 => ?_) (fun h1 => ?_)
  ·have h1b : (k : Int) = 1 := by simpa using h1
   obtain rfl : k = 1 := by omega
   refine aE (aA (tv (aC rfl) (tv (aD rfl) (aF (Tr.keep (env' := [(4, _)]) ⟨rfl, trivial⟩ ?_)))))
   refine aB (aQ (bM (aN (aW rfl rfl (fun w hw => ?_)))))
   exact ⟨rfl, hw⟩
  ·skip
   refine aO (cX (aB (aE (aE (aA ?_)))))
   refine tv (aC rfl) (tv (dI rfl rfl) (aF (Tr.keep (env' := [(0, _), (1, _), (18, _)]) ⟨rfl, rfl, rfl, trivial⟩ (aB (aR (mY (by simp)) ?_)))))
   refine aO (aB (aE (aA (tv (aC rfl) (tv (cM (v2 := .int .i64 1) (eO Tryz.underlying9 rfl) rfl) ?_)))))
   refine tv (hD Tryz.underlying3 Tryz.underlying274 rfl (i' := 1) (by rw [IntKind.wrap_u64]; omega)) (tv (aC rfl) (tv (hD Tryz.underlying3 Tryz.underlying274 rfl (i' := (k : Int)) (by rw [IntKind.wrap_u64]; omega)) (te (aJ en_207 rfl rfl rfl rfl (mul_c k (by omega)) (tv (aC rfl) (tv (bA rfl rfl) ?_))))))
   refine tv (bA rfl rfl) (tv (aD rfl) (tv (aD rfl) (aF (Tr.keep (env' := [(0, _), (5, _), (6, _)]) ⟨rfl, rfl, rfl, trivial⟩ (aB ?_)))))
   refine aE (aE (aA (tv (aC rfl) (tv (cM (v2 := .bool false) (fC rfl rfl) (by rfl)) (tv (aC rfl) ?_)))))
   refine cV rfl rfl (aC rfl) (cV rfl rfl (cM (v2 := .bool false) (fC rfl rfl) (congrArg Value.bool (by simp; omega))) (tv (bS rfl rfl) (aF (Tr.keep (env' := [(0, _), (6, _), (34, _)]) ⟨rfl, rfl, rfl, trivial⟩ (aB ?_)))))
   refine aR rfl (aO (aB (aE (aA (tv (aC rfl) ?_)))))
   refine tv (hD Tryz.underlying274 Tryz.underlying3 rfl (i' := (k : Int)) (jI (by omega))) (tv (aD rfl) (aF (Tr.keep (env' := [(0, _), (7, _)]) ⟨rfl, rfl, trivial⟩ (aB (aE ?_)))))
   refine aE (aA (tv (aC rfl) (tv (cM (v2 := .int .i64 1) (eO Tryz.underlying9 rfl) rfl) (tv (cW rfl rfl) (aF ?_)))))
   refine Tr.keep (env' := [(0, _), (7, _), (40, _)]) ⟨rfl, rfl, rfl, trivial⟩ (aB (aR rfl (aO (aB (aE ?_)))))
   refine aE (aA (tv (aC rfl) (tv (qV (b := 48) 0 Tryz.underlying9 rfl rfl rfl rfl) (aF (Tr.keep (env' := [(0, _), (7, _), (42, _)]) ⟨rfl, rfl, rfl, trivial⟩ ?_)))))
   refine aB (aX (aE (aE (aA (tv (cM (v2 := .bool false) (cW rfl rfl) (by rfl)) ?_)))))
   refine tv (aD rfl) (aF (Tr.keep (env' := [(0, _), (7, _), (42, _), (43, _)]) ⟨rfl, rfl, rfl, rfl, trivial⟩ (aB (aR rfl (aE ?_)))))
   refine aA (tv (cM (v2 := .bool false) (cW rfl rfl) (by rfl)) (tv (aD rfl) (aF (Tr.keep (env' := [(0, _), (7, _), (42, _), (43, _)]) ⟨rfl, rfl, rfl, rfl, trivial⟩ (aB ?_)))))
   refine aR rfl (aE (aA (tv (cM (v2 := .bool true) (cW rfl rfl) (by rfl)) (tv (aD rfl) (aF ?_)))))
   refine Tr.keep (env' := [(0, _), (7, _), (42, _), (43, _)]) ⟨rfl, rfl, rfl, rfl, trivial⟩ (aB (bI rfl (aO (aB (bI rfl ?_)))))
   refine aX (aE (aA (tv (aC rfl) (tv (cM (v2 := .bool true) (iF rfl rfl) (congrArg Value.bool (by simp; omega))) (tv (aC rfl) ?_)))))
   refine cV rfl rfl (aC rfl) (gB rfl rfl (aJ (v := .bool false) aQ6 rfl rfl rfl rfl (fun w hw => (oU _ _ w hw).mono fun e w' h => ⟨by rw [h.1]; rfl, h.2⟩) (tv (cG rfl rfl) (tv (aD rfl) (aF (Tr.keep (env' := [(0, _), (7, _), (49, _)]) ⟨rfl, rfl, rfl, trivial⟩ ?_))))))
   refine aB (aR rfl (aE (aA (tv (aC rfl) (tv (cM (v2 := .bool true) (iF rfl rfl) (congrArg Value.bool (by simp; omega))) ?_)))))
   refine tv (aC rfl) (cV rfl rfl (aC rfl) (gB rfl rfl (aJ (v := .bool false) aQ6 rfl rfl rfl rfl (fun w hw => (oU _ _ w hw).mono fun e w' h => ⟨by rw [h.1]; rfl, h.2⟩) (tv (cG rfl rfl) (tv (aD rfl) (aF ?_))))))
   refine Tr.keep (env' := [(0, _), (7, _), (58, _)]) ⟨rfl, rfl, rfl, trivial⟩ (aB (aR rfl (aE (aA (tv (aC rfl) ?_)))))
   refine tv (cM (v2 := .bool true) (iF rfl rfl) (congrArg Value.bool (by simp; omega))) (tv (aC rfl) (cV rfl rfl (aC rfl) (gB rfl rfl (aJ (v := .bool true) aQ6 rfl rfl rfl rfl (fun w hw => (oU _ _ w hw).mono fun e w' h => ⟨by rw [h.1]; rfl, h.2⟩) (tv (cG rfl rfl) (tv (aD rfl) ?_))))))
   refine aF (Tr.keep (env' := [(0, _), (7, _), (67, _)]) ⟨rfl, rfl, rfl, trivial⟩ (aB (bI rfl (aE (aA ?_)))))
   refine tv (aC rfl) (tv (aH0 k Tryz.underlying9 rfl rfl rfl (by show k ≤ 64; omega)) (tv (aD rfl) (aF (Tr.keep (env' := [(4, _)]) ⟨rfl, trivial⟩ (aB ?_)))))
   refine aQ (bM (bM (aN (aW rfl rfl (fun w hw => ?_)))))
   exact ⟨by rw [aY9 k hk], hw⟩
theorem aL9 (hT : Tab w0) (n : Nat) (hn : n < 18446744073709551616) : ∀ w, Ok w0 M w → Calls Tryz.prog 91 #[.int .u64 (n : Int)] w (fun e w' => e = .returned (.string (gL n)) ∧ Ok w0 M w') := by
 have hl := aL8 hn
 have hz : (aY7 n).size = (wW n).length := rfl
 refine enter (vs := [_]) Tryz.func91 rfl Tryz.ntmps91 rfl (aE (aA (tv (aD rfl) (aF (Tr.keep (env' := [(0, _)]) ⟨rfl, trivial⟩ ?_)))))
 refine aB (aE (aA (tv (aC rfl) (te (aJ en_145 rfl rfl rfl rfl (fmt_c hT n hn) (tv (aD rfl) ?_))))))
 refine aF (Tr.keep (env' := [(3, _)]) ⟨rfl, trivial⟩ (aB (aE (aA (tv (aC rfl) ?_)))))
 refine tv (eO Tryz.underlying9 rfl) (tv (cM (v2 := .int .i64 ((16 - (wW n).length : Nat) : Int)) (cP rfl rfl (by omega)) (congrArg (Value.int .i64) (by omega))) (te (aJ en_146 rfl rfl rfl rfl (bF4 (16 - (wW n).length) (by omega)) (tv (aC rfl) (tv (aS2 rfl rfl (by simp [ByteArray.size, maxLen]; omega)) (tv (aD rfl) ?_))))))
 refine aF (Tr.keep (env' := [(2, _)]) ⟨rfl, trivial⟩ (aB (aQ (aW rfl rfl (fun w hw => ?_)))))
 exact ⟨rfl, hw⟩
end
end Go.Proofs.W
