/-
 What functions of the program that RallyChecks reaches do, one contract each, part 7.
-/
import Derived.Test.YtakiijkfjjmppaaGreatDoorKWF
import Derived.Test.YtakiijkfjjmppaaGreatDoorKSlB
set_option linter.unusedVariables false
set_option linter.unusedSimpArgs false
set_option linter.unusedSectionVars false
set_option maxRecDepth 100000
set_option maxHeartbeats 1000000
namespace Go.Proofs.W
open Go Go.Sl Go.RowKit Go.Proofs
attribute [local irreducible] Go.Sl.Eff
theorem gU : bY Tryz.prog 58 = some (none) := by kernel_rfl
theorem iP : bY Tryz.prog 9 = some (none) := by kernel_rfl
theorem bJ3 : aV Tryz.prog 266 := aL Tryz.func266 (by kernel_rfl) (by kernel_rfl)
theorem fP : bC Tryz.prog 235 1 = some 1 := by kernel_rfl
theorem oI : (Tryz.prog.info? 9).map (·.size) = some 1 := by kernel_rfl
section
variable {w0 : World} {N : Nat} {ds : List Deferred} {env : dM} {M : List Ent}
abbrev dG (s : ByteArray) : List Value := [.string s]
abbrev fH (s : ByteArray) : Int := lD s s.size
def Word (s : ByteArray) : Prop := fT s ∧ s.size ≤ 15 ∧ wL s = true
theorem fW {A : Option Addr} {n c : Nat} {ws : List ByteArray} (first : Value) (hs : SlRd w0 M 1 A n (ws.map dG)) (hd : ∀ s ∈ ws, Word s) (hn : n ≤ 100000) : ∀ w, Ok w0 M w → Calls Tryz.prog 233 #[.agg #[first, .slice A n c], .int .i64 n] w (fun e w' => ∃ x : Value × List Ent, e = .returned x.1 ∧ Own 3 1 x.1 ((ws.map fH).map encI) x.2 ∧ Ok w0 (x.2 ++ M) w') := by
 have hbig := hs.big
 have hlen : ws.length = n := by have := hs.len; simpa using this
 refine enter (vs := [_, _]) Tryz.func233 rfl Tryz.ntmps233 rfl (aE (aA (te (cH rfl rfl fun b2 => (tv (aD rfl) (aF ?_))))))
 refine Tr.keep (env' := [(1, _), (2, _)]) ⟨rfl, rfl, trivial⟩ (aB (aE (aE (aA (tv (aI fP rfl) ?_)))))
 refine tv (aG gU rfl (aK (.head _) rfl)) (tv (aP Tryz.underlying58 rfl) (tv (aC rfl) (tv (eF rfl rfl) (aF (Tr.keep (env' := [(2, _), (14, _)]) ⟨rfl, rfl, trivial⟩ ?_)))))
 refine aB (aR (mY (by simp)) (aO (aB (aE (aA ?_)))))
 refine tv (aD rfl) (aF (Tr.keep (env' := [(2, _), (5, _)]) ⟨rfl, rfl, trivial⟩ (aB (aE (aE ?_)))))
 refine aA (tv (aI fP rfl) (tv (aG gU rfl (aK (.head _) rfl)) (tv (aP Tryz.underlying58 rfl) (tv (aC rfl) (aF ?_)))))
 refine Tr.keep (env' := [(5, _), (17, _), (18, _), (19, _)]) ⟨rfl, rfl, rfl, rfl, trivial⟩ (aB (aX (dW (fun z : Nat × Value × List Ent => [(5, z.2.1), (17, .slice A n c), (18, .int .i64 n), (19, .int .i64 z.1)]) (fun z : Nat × Value × List Ent => z.2.2 ++ (cel b2 235 [first, .slice A n c] :: M)) (fun z : Nat × Value × List Ent => z.1 ≤ n ∧ Own 3 1 z.2.1 (((ws.take z.1).map fH).map encI) z.2.2) (fun z : Nat × Value × List Ent => n - z.1) (0, .slice none 0 0, []) ⟨Nat.zero_le _, Own.nil _ _⟩ ⟨rfl, rfl, rfl, rfl, trivial⟩ (.refl _) ?_)))
 intro K ⟨k, v, E⟩ ⟨hk, hO⟩ IH
 dsimp only at hk hO IH ⊢
 refine aE (aA (tv (dI rfl rfl) (aF (Tr.keep (env' := [(5, _), (17, _), (18, _), (19, _), (20, _)]) ⟨rfl, rfl, rfl, rfl, rfl, trivial⟩ (aB ?_)))))
 refine aE ?_
 refine bD rfl (fun hc1 => ?_) (fun hc1 => ?_)
 ·have hlt : k < n := by simpa using hc1
  obtain ⟨b, o, hA, hrd⟩ := hs.at' (by omega)
  obtain ⟨s, hsk⟩ : ∃ s, ws[k]? = some s := ⟨_, List.getElem?_eq_getElem (by omega)⟩
  have hws := hd s (List.mem_of_getElem? hsk)
  have hx : (ws.map dG)[k]? = some (dG s) := by rw [List.getElem?_map, hsk]; rfl
  refine aO (aB (aE (aX (aE (aA ?_)))))
  refine tv (cL k Tryz.underlying58 oI hA rfl rfl rfl hlt) (tv (aG iP rfl ((hrd k (dG s) hx 0 (.string s) rfl).sub (List.sublist_append_of_sublist_right (.cons _ (.refl _))))) (tv (aD rfl) (aF (Tr.keep (env' := [(5, _), (7, _), (17, _), (18, _), (19, _)]) ⟨rfl, rfl, rfl, rfl, rfl, trivial⟩ (aB ?_)))))
  refine aE (aA (tv (aC rfl) (te (aJ bJ3 rfl rfl rfl rfl (aK8 s hws.1 hws.2.1) (tv (aC rfl) (tv (bA rfl rfl) ?_))))))
  refine tv (bA rfl rfl) (tv (aD rfl) (tv (aD rfl) (aF (Tr.keep (env' := [(5, _), (8, _), (9, _), (17, _), (18, _), (19, _)]) ⟨rfl, rfl, rfl, rfl, rfl, rfl, trivial⟩ (aB ?_)))))
  refine aE (aE (aA (tv (aC rfl) (tv (bF rfl) (aF ?_)))))
  refine Tr.keep (env' := [(5, _), (8, _), (17, _), (18, _), (19, _), (29, _)]) ⟨rfl, rfl, rfl, rfl, rfl, rfl, trivial⟩ (aB (aR (mY (by rw [hws.2.2]; rfl)) (aO (aB (aA ?_)))))
  refine tv (aC rfl) (tv (aC rfl) (te (bN (E := 3) (l := encI (fH s)) rfl (fun w => by kernel_rfl) rfl fun b33 => (te (fN Tryz.underlying24 eQ rfl (by decide) rfl rfl hO (pk .here (mH .here (.refl _))) rfl (by simp [encI, Value.oneCell']) (by simp; omega) (by simp [maxLen]; omega) rfl fun v1 E1 hO1 => (tv (aD rfl) (aF ?_)))))))
  refine Tr.keep (env' := [(5, _), (17, _), (18, _), (19, _)]) ⟨rfl, rfl, rfl, rfl, trivial⟩ (cX (aB (aA (tv (cC rfl rfl (by omega)) (tv (aC rfl) ?_)))))
  refine aF (Tr.keep (env' := [(5, _), (17, _), (18, _), (19, _)]) ⟨rfl, rfl, rfl, rfl, trivial⟩ (aB ?_))
  refine nD (IH (k + 1, v1, E1) ⟨by omega, by rw [List.take_add_one, hsk]; simpa using hO1⟩ (by simp; omega)) ⟨rfl, rfl, rfl, rfl, trivial⟩ (List.Sublist.append (.refl _) (.cons_cons _ (.refl _)))
 ·have hge : ¬ k < n := by simpa using hc1
  refine cY (aS (aS (bX (aB (aE ?_)))))
  refine aA (tv (aC rfl) (tv (aD rfl) (aF (Tr.keep (env' := [(4, _)]) ⟨rfl, trivial⟩ (aB ?_)))))
  refine aQ (aW rfl rfl (fun w hw => ?_))
  have hk2 : k = n := by omega
  subst hk2
  rw [List.take_of_length_le (by omega)] at hO
  exact ⟨(v, E), rfl, hO, Ok.sub hw (List.Sublist.append (.refl _) (.cons _ (.refl _)))⟩
end
end Go.Proofs.W
set_option linter.unusedVariables false
set_option linter.unusedSimpArgs false
set_option linter.unusedSectionVars false
set_option maxRecDepth 100000
namespace Go.Proofs.W
open Go Go.Sl Go.RowKit Go.Proofs
attribute [local irreducible] Go.Sl.Eff
theorem en_171 : aV Tryz.prog 171 := aL Tryz.func171 (by kernel_rfl) (by kernel_rfl)
theorem en_232 : aV Tryz.prog 232 := aL Tryz.func232 (by kernel_rfl) (by kernel_rfl)
theorem bJ4 : aV Tryz.prog 265 := aL Tryz.func265 (by kernel_rfl) (by kernel_rfl)
theorem en_279 : aV Tryz.prog 279 := aL Tryz.func279 (by kernel_rfl) (by kernel_rfl)
theorem tT : wP Tryz.prog 295 Extern.BytealgIndexByte.indexByte := ⟨_, Tryz.func295, by kernel_rfl, by kernel_rfl, by kernel_rfl, by kernel_rfl⟩
theorem aS6 {s : ByteArray} {c : UInt8} (h : 0 ≤ rT s c) : (rT s c).toNat < s.size := by
 unfold rT at h ⊢
 cases e : (List.range s.size).find? fun i => s[i]! == c with
 | none => rw [e] at h; simp at h
 | some i =>
  have := List.mem_of_find?_eq_some e
  simp at this
  simpa using this
theorem bJ5 (c : UInt8) : rT ⟨#[c]⟩ c = 0 := by
 have : (List.range (ByteArray.mk #[c]).size) = [0] := rfl
 unfold rT
 rw [this]
 have e : (ByteArray.mk #[c])[0]! = c := rfl
 simp [e]
def gS (s : ByteArray) (c : UInt8) : ByteArray × ByteArray × Bool :=
 if 0 ≤ rT s c then (s.extract 0 (rT s c).toNat, s.extract ((rT s c).toNat + 1) s.size, true) else (s, ⟨#[]⟩, false)
def dX (c : UInt8) : Nat → ByteArray → List ByteArray
 | 0, s => [s]
 | n + 1, s => if (gS s c).2.2 then (gS s c).1 :: dX c n (gS s c).2.1 else [s]
abbrev cT (s : ByteArray) : List ByteArray := dX 32 s.size s
theorem uR (c : UInt8) (n : Nat) (s : ByteArray) (hn : s.size ≤ n) : ∃ post, dX c n s = (gS s c).1 :: post ∧
  ((gS s c).2.2 = true → ∃ k, n = k + 1 ∧ post = dX c k (gS s c).2.1 ∧ (gS s c).2.1.size ≤ k) ∧ ((gS s c).2.2 = false → post = []) := by
 by_cases h : 0 ≤ rT s c
 ·have hl := aS6 h
  have hb : (gS s c).2.2 = true := by simp [gS, h]
  obtain ⟨k, rfl⟩ : ∃ k, n = k + 1 := ⟨n - 1, by omega⟩
  refine ⟨dX c k (gS s c).2.1, by simp [dX, hb], fun _ => ⟨k, rfl, rfl, ?_⟩, fun h => absurd (hb.symm.trans h) (by decide)⟩
  simp [gS, h]
  omega
 ·have hb : (gS s c).2.2 = false := by simp [gS, h]
  have h1 : (gS s c).1 = s := by simp [gS, h]
  refine ⟨[], ?_, fun h => absurd (hb.symm.trans h) (by decide), fun _ => rfl⟩
  cases n <;> simp [dX, hb, h1]
section
variable {w0 : World} {M : List Ent}
theorem zG (s : ByteArray) (c : UInt8) : ∀ w, Ok w0 M w → Calls Tryz.prog 279 #[.string s, .int .u8 (c.toNat : Int)] w (fun e w' => e = .returned (.int .i64 (rT s c)) ∧ Ok w0 M w') := by
 refine enter (vs := [_, _]) Tryz.func279 rfl Tryz.ntmps279 rfl (aE (aA (tv (aD rfl) (aF (Tr.keep (env' := [(0, _), (1, _)]) ⟨rfl, rfl, trivial⟩ ?_)))))
 refine aB (aE (aA (tv (aC rfl) (tv (aC rfl) (te ?_)))))
 refine aE5 (s := s) (c := c) ?_ ?_ ?_ ?_ ?_
 ·exact tT
 ·rfl
 ·rfl
 ·rfl
 refine tv (aD rfl) (aF (Tr.keep (env' := [(4, _)]) ⟨rfl, trivial⟩ (aB (aQ (aW rfl rfl (fun w hw => ?_))))))
 exact ⟨rfl, hw⟩
theorem aA2 (s : ByteArray) (c : UInt8) : ∀ w, Ok w0 M w → Calls Tryz.prog 265 #[.string s, .string ⟨#[c]⟩] w (fun e w' => e = .returned (.int .i64 (rT s c)) ∧ Ok w0 M w') := by
 refine enter (vs := [_, _]) Tryz.func265 rfl Tryz.ntmps265 rfl (aE (aA (tv (aD rfl) (aF (Tr.keep (env' := [(0, _), (1, _)]) ⟨rfl, rfl, trivial⟩ ?_)))))
 refine aB (aE (aA (tv (aC rfl) (tv (cM (v2 := .int .i64 1) (eO Tryz.underlying9 rfl) rfl) (tv (aD rfl) ?_)))))
 refine aF (Tr.keep (env' := [(0, _), (1, _), (5, _)]) ⟨rfl, rfl, rfl, trivial⟩ (aB (aE (aX (aE ?_)))))
 refine aA (tv (aC rfl) (tv (cW rfl rfl) (tv (aC rfl) (cV rfl rfl (aC rfl) (cV rfl rfl (aC rfl) ?_)))))
 refine cV rfl rfl (iE rfl rfl) (tv (bS rfl rfl) (tv (aD rfl) (aF (Tr.keep (env' := [(0, _), (1, _), (5, _), (16, _)]) ⟨rfl, rfl, rfl, rfl, trivial⟩ (aB ?_)))))
 refine bD rfl (fun hc => ?_) (fun hc => ?_)
 ·skip
  refine aE (aA (tv (aD rfl) (aF (Tr.keep (env' := [(4, _)]) ⟨rfl, trivial⟩ (aB ?_)))))
  refine aQ (bM (aN (aW rfl rfl (fun w hw => (⟨?_, hw⟩)))))
  obtain rfl : s = ⟨#[c]⟩ := (of_decide_eq_true hc).symm
  rw [bJ5]
 ·skip
  refine aE (aA (tv (aC rfl) (tv (cW rfl rfl) (tv (aD rfl) (aF ?_)))))
  refine Tr.keep (env' := [(0, _), (1, _), (5, _), (24, _)]) ⟨rfl, rfl, rfl, rfl, trivial⟩ (aB (bI rfl (aE (aA (tv (aC rfl) ?_)))))
  refine tv (aC rfl) (tv (qV (b := c) 0 Tryz.underlying9 rfl rfl rfl rfl) (te (aJ en_279 rfl rfl rfl rfl (zG s c) (tv (aD rfl) (aF (Tr.keep (env' := [(4, _)]) ⟨rfl, trivial⟩ ?_))))))
  refine aB (aQ (bM (aN (aW rfl rfl (fun w hw => ?_)))))
  exact ⟨rfl, hw⟩
theorem slCut_c (s : ByteArray) (c : UInt8) (hs : s.size ≤ 4611686018427387904) : ∀ w, Ok w0 M w → Calls Tryz.prog 232 #[.string s, .string ⟨#[c]⟩] w (fun e w' => e = .returned (.tuple #[.string (gS s c).1, .string (gS s c).2.1, .bool (gS s c).2.2]) ∧ Ok w0 M w') := by
 refine enter (vs := [_, _]) Tryz.func232 rfl Tryz.ntmps232 rfl (aE (aA (tv (aD rfl) (tv (aD rfl) (tv (aD rfl) ?_)))))
 refine aF (Tr.keep (env' := [(0, _), (1, _)]) ⟨rfl, rfl, trivial⟩ (aB (aE (aE (aA ?_)))))
 refine tv (aC rfl) (tv (aC rfl) (te (aJ bJ4 rfl rfl rfl rfl (aA2 s c) (tv (aD rfl) (aF (Tr.keep (env' := [(0, _), (1, _), (7, _)]) ⟨rfl, rfl, rfl, trivial⟩ ?_))))))
 refine aB (aE (aA (tv (aC rfl) (tv (fI rfl rfl) (aF ?_)))))
 refine Tr.keep (env' := [(0, _), (1, _), (7, _), (12, _)]) ⟨rfl, rfl, rfl, rfl, trivial⟩ (aB ?_)
 refine bD rfl (fun hc => ?_) (fun hc => ?_)
 ·have hc0 : 0 ≤ rT s c := of_decide_eq_true hc
  have hlt := aS6 hc0
  refine aE (cI cK rfl (dv 0 rfl (.refl _) (aC rfl) (dv 1 rfl (.refl _) (aC rfl) (dv 2 rfl (.refl _) (aH0 (rT s c).toNat Tryz.underlying9 rfl rfl (by omega) (by omega)) (dv 3 rfl (.refl _) (aC rfl) ?_)))))
  refine dv 4 rfl (.refl _) (aC rfl) (dv 5 rfl (.refl _) (aC rfl) (dv 6 rfl (.refl _) (cM (v2 := .int .i64 1) (eO Tryz.underlying9 rfl) rfl) (dv 7 rfl (.refl _) (cM (v2 := .int .i64 (((rT s c).toNat + 1 : Nat) : Int)) (cC rfl rfl (by omega)) (by congr 1; omega)) (dv 8 rfl (.refl _) (bI9 ((rT s c).toNat + 1) Tryz.underlying9 rfl rfl rfl (by omega)) (dv 9 rfl (.refl _) (aD rfl) ?_)))))
  refine dv 10 rfl (.refl _) (aD rfl) (dv 11 rfl (.refl _) (aD rfl) (bQ (by kernel_rfl) (Tr.keep (env' := [(4, _), (5, _), (6, _)]) ⟨rfl, rfl, rfl, trivial⟩ (aB (aQ ?_)))))
  refine aN (aG8 rfl rfl rfl rfl (fun w hw => ?_))
  exact ⟨by simp [gS, hc0], hw⟩
 ·have hc0 : ¬ 0 ≤ rT s c := of_decide_eq_false hc
  refine aO (aB (aE (aA (tv (aC rfl) (tv (aD rfl) ?_)))))
  refine tv (aD rfl) (tv (aD rfl) (aF (Tr.keep (env' := [(4, _), (5, _), (6, _)]) ⟨rfl, rfl, rfl, trivial⟩ (aB (aQ ?_)))))
  refine aG8 rfl rfl rfl rfl (fun w hw => ?_)
  exact ⟨by simp [gS, hc0], hw⟩
theorem cut_c (s : ByteArray) (c : UInt8) (hs : s.size ≤ 4611686018427387904) : ∀ w, Ok w0 M w → Calls Tryz.prog 171 #[.string s, .string ⟨#[c]⟩] w (fun e w' => e = .returned (.tuple #[.string (gS s c).1, .string (gS s c).2.1, .bool (gS s c).2.2]) ∧ Ok w0 M w') := by
 refine enter (vs := [_, _]) Tryz.func171 rfl Tryz.ntmps171 rfl (aE (aA (tv (aD rfl) (tv (aD rfl) (tv (aD rfl) ?_)))))
 refine aF (Tr.keep (env' := [(0, _), (1, _)]) ⟨rfl, rfl, trivial⟩ (aB (aE (aA (tv (aC rfl) ?_)))))
 refine tv (aC rfl) (te (aJ en_232 rfl rfl rfl rfl (slCut_c s c hs) (tv (bA rfl rfl) (tv (bA rfl rfl) (tv (bA rfl rfl) (tv (aD rfl) ?_))))))
 refine tv (aD rfl) (tv (aD rfl) (aF (Tr.keep (env' := [(4, _), (5, _), (6, _)]) ⟨rfl, rfl, rfl, trivial⟩ (aB (aQ ?_)))))
 refine aG8 rfl rfl rfl rfl (fun w hw => ?_)
 exact ⟨rfl, hw⟩
theorem yF {σ : Type} {inv : List ByteArray → σ → Prop} {Me : σ → List Ent} {l lb : Nat} {rr : Loop} {Fr : List Ent} (line : ByteArray) (hs : line.size ≤ 4611686018427387904)
  (hy : Sl.Yields Tryz.prog w0 dG (fun pre (s : σ × ByteArray) => inv pre s.1) (fun s => cel lb 9 [.string s.2] :: Me s.1) (cT line) l rr) (s0 : σ) (h0 : inv [] s0) :
  ∀ w, Ok w0 (jX l rr :: (Fr ++ (cel lb 9 [.string line] :: Me s0))) w → Calls Tryz.prog 170 #[.func (.yield l) #[] #[], .pointer (some ⟨lb, 0, none⟩)] w (fun e w' => (∃ v, e = .returned v) ∧ ∃ s : σ × ByteArray, inv (cT line) s.1 ∧ Ok w0 (jX l rr :: (Fr ++ (cel lb 9 [.string s.2] :: Me s.1))) w') := by
 refine enter (vs := [_, _]) Tryz.func170 rfl Tryz.ntmps170 rfl (aX (dW (fun z : List ByteArray × Nat × ByteArray × σ => [(0, .func (.yield l) #[] #[]), (1, .pointer (some ⟨lb, 0, none⟩))]) (fun z : List ByteArray × Nat × ByteArray × σ => jX l rr :: (Fr ++ (cel lb 9 [.string z.2.2.1] :: Me z.2.2.2))) (fun z : List ByteArray × Nat × ByteArray × σ => z.2.2.1.size ≤ z.2.1 ∧ z.2.1 ≤ line.size ∧ cT line = z.1 ++ dX 32 z.2.1 z.2.2.1 ∧ inv z.1 z.2.2.2) (fun z : List ByteArray × Nat × ByteArray × σ => z.2.1) ([], line.size, line, s0) ⟨Nat.le_refl _, Nat.le_refl _, rfl, h0⟩ ⟨rfl, rfl, trivial⟩ (.refl _) ?_))
 intro K ⟨pre, n, cur, s⟩ ⟨hn, hnl, hxs, hI⟩ IH
 dsimp only at hn hnl hxs hI IH ⊢
 obtain ⟨post, hp, hp1, hp2⟩ := uR 32 n cur hn
 refine aX (aE (aA (tv (aG iP rfl (aK (.tail _ (List.mem_append_right _ (.head _))) rfl)) (te (aJ en_171 rfl rfl rfl rfl (cut_c cur 32 (by omega)) (tv (aC rfl) ?_))))))
 refine tv (bA rfl rfl) (tv (bA rfl rfl) (tv (bA rfl rfl) (tv (aD rfl) (tv (aD rfl) (tv (aD rfl) ?_)))))
 refine aF (Tr.keep (env' := [(0, _), (1, _), (3, _), (4, _), (5, _)]) ⟨rfl, rfl, rfl, rfl, rfl, trivial⟩ (aB (aE (aE (kF ?_)))))
 refine cJ (aC rfl) rfl (cJ (aC rfl) rfl (yC rfl (oA rfl rfl rfl (fun w hw => hy Fr pre _ post (by rw [hxs, hp]) (s, cur) hI w hw) (fun s1 h1 => ?_))))
 dsimp only at h1 ⊢
 refine cJ (bF rfl) rfl (cJ (aC rfl) rfl (iC rfl rfl (aC rfl) rfl (iC rfl rfl (bF rfl) rfl (cJ (bS rfl rfl) rfl (fZ ?_)))))
 refine Tr.keep (env' := [(0, _), (1, _), (4, _), (19, _)]) ⟨rfl, rfl, rfl, rfl, trivial⟩ (aB ?_)
 refine bD rfl (fun hm => ?_) (fun hm => ?_)
 ·have hm1 : (gS cur 32).2.2 = false := by simpa using hm
  obtain rfl := hp2 hm1
  refine aQ (aN (bM (aN (bM (aR8 rfl (fun w hw => ?_))))))
  exact ⟨⟨_, rfl⟩, s1, by rw [hxs, hp]; exact h1, hw⟩
 ·have hm1 : (gS cur 32).2.2 = true := by simpa using hm
  obtain ⟨k, rfl, rfl, hk⟩ := hp1 hm1
  refine aO (aB (aA (tv (aC rfl) (te (bR oI rfl rfl rfl .zero (.there (.right .here)) (aF ?_))))))
  refine Tr.keep (env' := [(0, _), (1, _)]) ⟨rfl, rfl, trivial⟩ (cX (aB ?_))
  refine nD (IH (pre ++ [(gS cur 32).1], k, (gS cur 32).2.1, s1.1) ⟨hk, by show k ≤ line.size; omega, by rw [hxs, hp]; simp, h1⟩ (by simp)) ⟨rfl, rfl, trivial⟩ (.refl _)
theorem aH8 (line : ByteArray) : ∀ w, Ok w0 M w → Calls Tryz.prog 126 #[.string line] w (fun e w' => ∃ lb, e = .returned (.func (.func 170) #[] #[.pointer (some ⟨lb, 0, none⟩)]) ∧ True ∧ Ok w0 (cel lb 9 [.string line] :: M) w') := by
 refine enter (vs := [_]) Tryz.func126 rfl Tryz.ntmps126 rfl (aE (aA (te (eL rfl rfl rfl fun b1 => (tv (aD rfl) (aF ?_))))))
 refine Tr.keep (env' := [(1, _)]) ⟨rfl, trivial⟩ (aB (aE (aA (tv (bG rfl rfl) (tv (aD rfl) ?_)))))
 refine aF (Tr.keep (env' := [(2, _)]) ⟨rfl, trivial⟩ (aB (aQ (aW rfl rfl (fun w hw => ?_)))))
 exact ⟨b1, rfl, trivial, hw⟩
end
end Go.Proofs.W
set_option linter.unusedVariables false
set_option linter.unusedSimpArgs false
set_option linter.unusedSectionVars false
set_option maxRecDepth 100000
namespace Go.Proofs.W
open Go Go.Sl Go.RowKit Go.Proofs
attribute [local irreducible] Go.Sl.Eff
theorem cZ {α : Type} [DecidableEq α] (a b : α) (v : Value) : ∀ l : List (α × Value), gH a (fO b v l) = if b = a then some v else gH a l
 | [] => by simp [fO, gH]
 | p :: l => by
  unfold fO
  by_cases hp : p.1 = b
  ·rw [if_pos hp]
   unfold gH
   by_cases hb : b = a
   ·simp [hb]
   ·simp [hp, hb]
  ·rw [if_neg hp]
   simp only [gH]
   by_cases hpa : p.1 = a
   ·rw [if_pos hpa, if_pos hpa, if_neg (fun h => hp (hpa.trans h.symm))]
   ·rw [if_neg hpa, if_neg hpa, cZ a b v l]
abbrev oC (s : ByteArray) : Value := .string s
theorem dD : KeyK Tryz.prog 9 oC := KeyK.str Tryz.underlying9
def dY (eb : Nat) : List (ByteArray × Value) := fO ⟨#[100, 114, 111, 112]⟩ (.func (.func 186) #[.pointer (some ⟨eb, 0, none⟩)] #[]) (fO ⟨#[100, 105, 115, 109, 105, 115, 115]⟩ (.func (.func 184) #[.pointer (some ⟨eb, 0, none⟩)] #[]) (fO ⟨#[106, 117, 100, 103, 101]⟩ (.func (.func 184) #[.pointer (some ⟨eb, 0, none⟩)] #[]) (fO ⟨#[97, 112, 112, 101, 97, 108]⟩ (.func (.func 185) #[.pointer (some ⟨eb, 0, none⟩)] #[]) (fO ⟨#[114, 101, 106, 101, 99, 116]⟩ (.func (.func 184) #[.pointer (some ⟨eb, 0, none⟩)] #[]) (fO ⟨#[100, 101, 99, 105, 100, 101]⟩ (.func (.func 184) #[.pointer (some ⟨eb, 0, none⟩)] #[]) (fO ⟨#[112, 114, 111, 116, 101, 115, 116]⟩ (.func (.func 183) #[.pointer (some ⟨eb, 0, none⟩)] #[]) (fO ⟨#[112, 117, 98, 108, 105, 115, 104]⟩ (.func (.func 182) #[.pointer (some ⟨eb, 0, none⟩)] #[]) (fO ⟨#[116, 97, 107, 101]⟩ (.func (.func 181) #[.pointer (some ⟨eb, 0, none⟩)] #[]) (fO ⟨#[108, 105, 110, 101]⟩ (.func (.func 180) #[.pointer (some ⟨eb, 0, none⟩)] #[]) (fO ⟨#[108, 101, 103]⟩ (.func (.func 179) #[.pointer (some ⟨eb, 0, none⟩)] #[]) (fO ⟨#[99, 108, 97, 115, 115]⟩ (.func (.func 178) #[.pointer (some ⟨eb, 0, none⟩)] #[]) (fO ⟨#[118, 111, 105, 100]⟩ (.func (.func 177) #[.pointer (some ⟨eb, 0, none⟩)] #[]) (fO ⟨#[111, 117, 116]⟩ (.func (.func 176) #[.pointer (some ⟨eb, 0, none⟩)] #[]) (fO ⟨#[110, 111, 116]⟩ (.func (.func 175) #[.pointer (some ⟨eb, 0, none⟩)] #[]) (fO ⟨#[112, 97, 115, 115]⟩ (.func (.func 175) #[.pointer (some ⟨eb, 0, none⟩)] #[]) (fO ⟨#[115, 116, 97, 114, 116]⟩ (.func (.func 174) #[.pointer (some ⟨eb, 0, none⟩)] #[]) (fO ⟨#[102, 111, 117, 110, 100]⟩ (.func (.func 173) #[.pointer (some ⟨eb, 0, none⟩)] #[]) (fO ⟨#[115, 97, 102, 101]⟩ (.func (.func 173) #[.pointer (some ⟨eb, 0, none⟩)] #[]) (fO ⟨#[103, 114, 101, 101, 110]⟩ (.func (.func 172) #[.pointer (some ⟨eb, 0, none⟩)] #[]) (fO ⟨#[114, 101, 100]⟩ (.func (.func 172) #[.pointer (some ⟨eb, 0, none⟩)] #[]) (fO ⟨#[112, 111, 115, 116]⟩ (.func (.func 172) #[.pointer (some ⟨eb, 0, none⟩)] #[]) (fO ⟨#[117, 110, 99, 111, 118, 101, 114, 101, 100]⟩ (.func (.func 172) #[.pointer (some ⟨eb, 0, none⟩)] #[]) (fO ⟨#[99, 111, 118, 101, 114, 101, 100]⟩ (.func (.func 172) #[.pointer (some ⟨eb, 0, none⟩)] #[]) (fO ⟨#[99, 108, 111, 115, 101]⟩ (.func (.func 172) #[.pointer (some ⟨eb, 0, none⟩)] #[]) (fO ⟨#[111, 112, 101, 110]⟩ (.func (.func 172) #[.pointer (some ⟨eb, 0, none⟩)] #[]) ([]))))))))))))))))))))))))))
theorem aA3 (eb : Nat) : gH ⟨#[111, 112, 101, 110]⟩ (dY eb) = some (.func (.func 172) #[.pointer (some ⟨eb, 0, none⟩)] #[]) := by
 unfold dY
 repeat' first | rw [cZ, if_pos rfl] | rw [cZ, if_neg (by decide)]
theorem aH9 (eb : Nat) : gH ⟨#[99, 111, 118, 101, 114, 101, 100]⟩ (dY eb) = some (.func (.func 172) #[.pointer (some ⟨eb, 0, none⟩)] #[]) := by
 unfold dY
 repeat' first | rw [cZ, if_pos rfl] | rw [cZ, if_neg (by decide)]
theorem aA4 (eb : Nat) : gH ⟨#[112, 111, 115, 116]⟩ (dY eb) = some (.func (.func 172) #[.pointer (some ⟨eb, 0, none⟩)] #[]) := by
 unfold dY
 repeat' first | rw [cZ, if_pos rfl] | rw [cZ, if_neg (by decide)]
theorem yG (eb : Nat) : gH ⟨#[115, 116, 97, 114, 116]⟩ (dY eb) = some (.func (.func 174) #[.pointer (some ⟨eb, 0, none⟩)] #[]) := by
 unfold dY
 repeat' first | rw [cZ, if_pos rfl] | rw [cZ, if_neg (by decide)]
theorem bA2 (eb : Nat) : gH ⟨#[112, 97, 115, 115]⟩ (dY eb) = some (.func (.func 175) #[.pointer (some ⟨eb, 0, none⟩)] #[]) := by
 unfold dY
 repeat' first | rw [cZ, if_pos rfl] | rw [cZ, if_neg (by decide)]
theorem bJ6 (eb : Nat) : gH ⟨#[108, 101, 103]⟩ (dY eb) = some (.func (.func 179) #[.pointer (some ⟨eb, 0, none⟩)] #[]) := by
 unfold dY
 repeat' first | rw [cZ, if_pos rfl] | rw [cZ, if_neg (by decide)]
theorem aA5 (eb : Nat) : gH ⟨#[108, 105, 110, 101]⟩ (dY eb) = some (.func (.func 180) #[.pointer (some ⟨eb, 0, none⟩)] #[]) := by
 unfold dY
 repeat' first | rw [cZ, if_pos rfl] | rw [cZ, if_neg (by decide)]
theorem bA3 (eb : Nat) : gH ⟨#[116, 97, 107, 101]⟩ (dY eb) = some (.func (.func 181) #[.pointer (some ⟨eb, 0, none⟩)] #[]) := by
 unfold dY
 repeat' first | rw [cZ, if_pos rfl] | rw [cZ, if_neg (by decide)]
theorem bA4 (eb : Nat) : gH ⟨#[106, 117, 109, 112]⟩ (dY eb) = none := by
 unfold dY
 repeat' first | rw [cZ, if_pos rfl] | rw [cZ, if_neg (by decide)]
 rfl
section
variable {w0 : World} {M : List Ent}
theorem aI0 (eb : Nat) : ∀ w, Ok w0 M w → Calls Tryz.prog 127 #[.pointer (some ⟨eb, 0, none⟩)] w (fun e w' => ∃ b, e = .returned (.map (some b)) ∧ True ∧ Ok w0 (kE b oC (dY eb) :: M) w') := by
 refine enter (vs := [_]) Tryz.func127 rfl Tryz.ntmps127 rfl (aE (aA (tv (aD rfl) (aF (Tr.keep (env' := [(0, _)]) ⟨rfl, trivial⟩ ?_)))))
 refine aB (aE (aA (te (gQ (oC) rfl fun b3 => (tv (aC rfl) (tv (bG rfl rfl) ?_))))))
 refine te (cD (a := ⟨#[111, 112, 101, 110]⟩) Tryz.underlying232 dD rfl rfl rfl .here (tv (aC rfl) (tv (bG rfl rfl) (te (cD (a := ⟨#[99, 108, 111, 115, 101]⟩) Tryz.underlying232 dD rfl rfl rfl .here (tv (aC rfl) (tv (bG rfl rfl) ?_)))))))
 refine te (cD (a := ⟨#[99, 111, 118, 101, 114, 101, 100]⟩) Tryz.underlying232 dD rfl rfl rfl .here (tv (aC rfl) (tv (bG rfl rfl) (te (cD (a := ⟨#[117, 110, 99, 111, 118, 101, 114, 101, 100]⟩) Tryz.underlying232 dD rfl rfl rfl .here (tv (aC rfl) (tv (bG rfl rfl) ?_)))))))
 refine te (cD (a := ⟨#[112, 111, 115, 116]⟩) Tryz.underlying232 dD rfl rfl rfl .here (tv (aC rfl) (tv (bG rfl rfl) (te (cD (a := ⟨#[114, 101, 100]⟩) Tryz.underlying232 dD rfl rfl rfl .here (tv (aC rfl) (tv (bG rfl rfl) ?_)))))))
 refine te (cD (a := ⟨#[103, 114, 101, 101, 110]⟩) Tryz.underlying232 dD rfl rfl rfl .here (tv (aC rfl) (tv (bG rfl rfl) (te (cD (a := ⟨#[115, 97, 102, 101]⟩) Tryz.underlying232 dD rfl rfl rfl .here (tv (aC rfl) (tv (bG rfl rfl) ?_)))))))
 refine te (cD (a := ⟨#[102, 111, 117, 110, 100]⟩) Tryz.underlying232 dD rfl rfl rfl .here (tv (aC rfl) (tv (bG rfl rfl) (te (cD (a := ⟨#[115, 116, 97, 114, 116]⟩) Tryz.underlying232 dD rfl rfl rfl .here (tv (aC rfl) (tv (bG rfl rfl) ?_)))))))
 refine te (cD (a := ⟨#[112, 97, 115, 115]⟩) Tryz.underlying232 dD rfl rfl rfl .here (tv (aC rfl) (tv (bG rfl rfl) (te (cD (a := ⟨#[110, 111, 116]⟩) Tryz.underlying232 dD rfl rfl rfl .here (tv (aC rfl) (tv (bG rfl rfl) ?_)))))))
 refine te (cD (a := ⟨#[111, 117, 116]⟩) Tryz.underlying232 dD rfl rfl rfl .here (tv (aC rfl) (tv (bG rfl rfl) (te (cD (a := ⟨#[118, 111, 105, 100]⟩) Tryz.underlying232 dD rfl rfl rfl .here (tv (aC rfl) (tv (bG rfl rfl) ?_)))))))
 refine te (cD (a := ⟨#[99, 108, 97, 115, 115]⟩) Tryz.underlying232 dD rfl rfl rfl .here (tv (aC rfl) (tv (bG rfl rfl) (te (cD (a := ⟨#[108, 101, 103]⟩) Tryz.underlying232 dD rfl rfl rfl .here (tv (aC rfl) (tv (bG rfl rfl) ?_)))))))
 refine te (cD (a := ⟨#[108, 105, 110, 101]⟩) Tryz.underlying232 dD rfl rfl rfl .here (tv (aC rfl) (tv (bG rfl rfl) (te (cD (a := ⟨#[116, 97, 107, 101]⟩) Tryz.underlying232 dD rfl rfl rfl .here (tv (aC rfl) (tv (bG rfl rfl) ?_)))))))
 refine te (cD (a := ⟨#[112, 117, 98, 108, 105, 115, 104]⟩) Tryz.underlying232 dD rfl rfl rfl .here (tv (aC rfl) (tv (bG rfl rfl) (te (cD (a := ⟨#[112, 114, 111, 116, 101, 115, 116]⟩) Tryz.underlying232 dD rfl rfl rfl .here (tv (aC rfl) (tv (bG rfl rfl) ?_)))))))
 refine te (cD (a := ⟨#[100, 101, 99, 105, 100, 101]⟩) Tryz.underlying232 dD rfl rfl rfl .here (tv (aC rfl) (tv (bG rfl rfl) (te (cD (a := ⟨#[114, 101, 106, 101, 99, 116]⟩) Tryz.underlying232 dD rfl rfl rfl .here (tv (aC rfl) (tv (bG rfl rfl) ?_)))))))
 refine te (cD (a := ⟨#[97, 112, 112, 101, 97, 108]⟩) Tryz.underlying232 dD rfl rfl rfl .here (tv (aC rfl) (tv (bG rfl rfl) (te (cD (a := ⟨#[106, 117, 100, 103, 101]⟩) Tryz.underlying232 dD rfl rfl rfl .here (tv (aC rfl) (tv (bG rfl rfl) ?_)))))))
 refine te (cD (a := ⟨#[100, 105, 115, 109, 105, 115, 115]⟩) Tryz.underlying232 dD rfl rfl rfl .here (tv (aC rfl) (tv (bG rfl rfl) (te (cD (a := ⟨#[100, 114, 111, 112]⟩) Tryz.underlying232 dD rfl rfl rfl .here (tv (aC rfl) (tv (aD rfl) ?_)))))))
 refine aF (Tr.keep (env' := [(2, _)]) ⟨rfl, trivial⟩ (aB (aQ (aW rfl rfl (fun w hw => ?_)))))
 exact ⟨b3, rfl, trivial, hw⟩
end
end Go.Proofs.W
set_option linter.unusedVariables false
set_option linter.unusedSimpArgs false
set_option linter.unusedSectionVars false
set_option maxRecDepth 100000
namespace Go.Proofs.W
open Go Go.Sl Go.RowKit Go.Proofs
attribute [local irreducible] Go.Sl.Eff
theorem kY : bY Tryz.prog 235 = some (some 2) := by kernel_rfl
theorem kZ : aV Tryz.prog 233 := aL Tryz.func233 (by kernel_rfl) (by kernel_rfl)
theorem lA : aV Tryz.prog 234 := aL Tryz.func234 (by kernel_rfl) (by kernel_rfl)
theorem aN7 : aV Tryz.prog 28 := aL Tryz.func28 (by kernel_rfl) (by kernel_rfl)
theorem iY : bC Tryz.prog 235 0 = some 0 := by kernel_rfl
theorem aI1 : (Tryz.prog.info? 77).map (fun i => (i.zero, i.size, i.bytes)) = some (some ((.int .i64 0)), 1, 8) := by kernel_rfl
section
variable {w0 : World} {M : List Ent}
def iA (s : ByteArray) (n : Int) : Prop := Word s ∧ fH s = n
theorem aN8 {A : Option Addr} {c : Nat} {x : ByteArray} (first : Value) (hs : SlRd w0 M 1 A 1 [dG x]) (hx1 : fT x) (hx2 : x.size ≤ 15) (hx : wL x = false) : ∀ w, Ok w0 M w → Calls Tryz.prog 233 #[.agg #[first, .slice A 1 c], .int .i64 1] w (fun e w' => e = .panicked (jQ 3) ∧ Ok w0 M w') := by
 obtain ⟨b, o, hA, hrd⟩ := hs.at' (by decide)
 refine enter (vs := [_, _]) Tryz.func233 rfl Tryz.ntmps233 rfl (aE (aA (te (cH rfl rfl fun b2 => (tv (aD rfl) (aF ?_))))))
 refine Tr.keep (env' := [(1, _), (2, _)]) ⟨rfl, rfl, trivial⟩ (aB (aE (aE (aA (tv (aI fP rfl) ?_)))))
 refine tv (aG gU rfl (aK (.head _) rfl)) (tv (aP Tryz.underlying58 rfl) (tv (aC rfl) (tv (eF rfl rfl) (aF (Tr.keep (env' := [(2, _), (14, _)]) ⟨rfl, rfl, trivial⟩ ?_)))))
 refine aB (aR rfl (aO (aB (aE (aA ?_)))))
 refine tv (aD rfl) (aF (Tr.keep (env' := [(2, _), (5, _)]) ⟨rfl, rfl, trivial⟩ (aB (aE (aE ?_)))))
 refine aA (tv (aI fP rfl) (tv (aG gU rfl (aK (.head _) rfl)) (tv (aP Tryz.underlying58 rfl) (tv (aC rfl) (aF ?_)))))
 refine Tr.keep (env' := [(5, _), (17, _), (18, _), (19, _)]) ⟨rfl, rfl, rfl, rfl, trivial⟩ (aB (aX (eN (cR (aE ?_)))))
 refine aA (tv (dI rfl rfl) (aF (Tr.keep (env' := [(5, _), (17, _), (18, _), (19, _), (20, _)]) ⟨rfl, rfl, rfl, rfl, rfl, trivial⟩ (aB (aE ?_)))))
 refine bI rfl (aO (aB (aE (aX (aE ?_)))))
 refine aA (tv (cL 0 Tryz.underlying58 oI hA rfl rfl rfl (by decide)) (tv (aG iP rfl ((hrd 0 (dG x) rfl 0 (.string x) rfl).sub (.cons _ (.refl _)))) (tv (aD rfl) (aF (Tr.keep (env' := [(5, _), (7, _), (17, _), (18, _), (19, _)]) ⟨rfl, rfl, rfl, rfl, rfl, trivial⟩ ?_)))))
 refine aB (aE (aA (tv (aC rfl) (te (aJ bJ3 rfl rfl rfl rfl (aK8 x hx1 hx2) (tv (aC rfl) ?_))))))
 refine tv (bA rfl rfl) (tv (bA rfl rfl) (tv (aD rfl) (tv (aD rfl) (aF (Tr.keep (env' := [(5, _), (8, _), (9, _), (17, _), (18, _), (19, _)]) ⟨rfl, rfl, rfl, rfl, rfl, rfl, trivial⟩ ?_)))))
 refine aB (aE (aE (aA (tv (aC rfl) (tv (bF rfl) ?_)))))
 refine aF (Tr.keep (env' := [(5, _), (8, _), (17, _), (18, _), (19, _), (29, _)]) ⟨rfl, rfl, rfl, rfl, rfl, rfl, trivial⟩ (aB (bI (mY (by rw [hx]; rfl)) (aA (te (kU lA rfl rfl rfl (vH 3 (by decide)) ?_))))))
 refine gZ (nR (gZ (gZ (nR (gZ ?_)))))
 exact gT (fun w hw => ⟨rfl, Ok.sub hw (.cons _ (.refl _))⟩)
theorem bA5 {ea : EvAt} {lv : Value} {g : GuardSt} {Fr : List Ent} {A : Option Addr} {cc : Nat} {x : ByteArray} (s : Int) (hev : ea.ev lv ∈ Fr) (hs : SlRd w0 (g.eg ea.gl :: g.er ea.gl :: g.ep ea.gl :: g.ec ea.gl :: Fr) 1 A 1 [dG x]) (hx : iA x s) (hf : g.Fine) (hval : gN g.plan 1 s 0 0 = true) :
 ∀ w, Ok w0 (g.eg ea.gl :: g.er ea.gl :: g.ep ea.gl :: g.ec ea.gl :: Fr) w → Calls Tryz.prog 172 #[.pointer (some ⟨ea.eb, 0, none⟩), .agg #[.string ⟨#[111, 112, 101, 110]⟩, .slice A 1 cc]] w (fun e w' => e = .returned (.tuple #[]) ∧
  Ok w0 ((g.hear 1 s 0 0).eg ea.gl :: (g.hear 1 s 0 0).er ea.gl :: (g.hear 1 s 0 0).ep ea.gl :: (g.hear 1 s 0 0).ec ea.gl :: Fr) w') := by
 refine enter (vs := [_, _]) Tryz.func172 rfl Tryz.ntmps172 rfl (aE (aA (te (cH rfl rfl fun b3 => (aF (Tr.keep (env' := [(0, _), (3, _)]) ⟨rfl, rfl, trivial⟩ ?_))))))
 refine aB (aE (aA (tv (aI iY rfl) (tv (aG iP rfl (aK (.head _) rfl)) (aF ?_)))))
 refine Tr.keep (env' := [(0, _), (3, _), (9, _)]) ⟨rfl, rfl, rfl, trivial⟩ (aB (aX (aE (aE (aA ?_)))))
 refine tv (cM (v2 := .bool false) (iE rfl rfl) (by rfl)) (tv (aD rfl) (aF (Tr.keep (env' := [(0, _), (3, _), (9, _), (28, _)]) ⟨rfl, rfl, rfl, rfl, trivial⟩ (aB (aR rfl ?_)))))
 refine aE (aA (tv (cM (v2 := .bool false) (iE rfl rfl) (by rfl)) (tv (aD rfl) (aF (Tr.keep (env' := [(0, _), (3, _), (9, _), (28, _)]) ⟨rfl, rfl, rfl, rfl, trivial⟩ ?_)))))
 refine aB (aR rfl (aA (tv (cM (v2 := .bool false) (iE rfl rfl) (by rfl)) (tv (aD rfl) (aF ?_)))))
 refine Tr.keep (env' := [(0, _), (3, _), (28, _)]) ⟨rfl, rfl, rfl, trivial⟩ (aB (aR rfl (aE (aA (tv (aY kY rfl (bL (n := 2) (vs := [_, _]) (.head _) rfl) rfl) ?_)))))
 refine te (bP kZ rfl rfl rfl rfl (fW (ws := [x]) _ (hs.sub (.cons _ (.refl _))) (by intro z hz; rw [List.mem_singleton.1 hz]; exact hx.1) (by decide)) fun xo hO => ?_)
 obtain ⟨xv, xE⟩ := xo
 dsimp only at hO ⊢
 obtain ⟨sN, hv, hE⟩ := gA (n := 1) hO rfl (by decide)
 subst hv hE
 show Tr _ _ _ _ (cel sN.b 3 (.int .i64 (fH x) :: sN.sp) :: _) _
 rw [hx.2]
 refine tv (aD rfl) (aF (Tr.keep (env' := [(0, _), (3, _), (6, _)]) ⟨rfl, rfl, rfl, trivial⟩ (aB (aE (aA ?_)))))
 refine te (gQ (oC) rfl fun b12 => (te (cD (a := ⟨#[111, 112, 101, 110]⟩) Tryz.underlying333 dD rfl rfl rfl .here (te (cD (a := ⟨#[99, 108, 111, 115, 101]⟩) Tryz.underlying333 dD rfl rfl rfl .here (te (cD (a := ⟨#[99, 111, 118, 101, 114, 101, 100]⟩) Tryz.underlying333 dD rfl rfl rfl .here (te (cD (a := ⟨#[117, 110, 99, 111, 118, 101, 114, 101, 100]⟩) Tryz.underlying333 dD rfl rfl rfl .here (tv (aC rfl) ?_))))))))))
 refine tv (aI iY rfl) (tv (aG iP rfl (aK (.tail _ (.tail _ (.head _))) rfl)) (tv (fF (v' := .int .i64 1) (fK (⟨#[111, 112, 101, 110]⟩) Tryz.underlying333 dD aI1 rfl rfl (.head _)) (by (repeat' first | rw [cZ, if_pos rfl] | rw [cZ, if_neg (by decide)]); rfl)) (tv (aD rfl) (aF (Tr.keep (env' := [(0, _), (6, _), (7, _)]) ⟨rfl, rfl, rfl, trivial⟩ ?_)))))
 refine aB (dV (.cons_cons _ (.cons_cons _ (.cons_cons _ (.cons _ (.cons _ (.cons _ (.cons _ (.refl _)))))))) cK rfl (dv 0 rfl (.cons_cons _ (.cons_cons _ (.cons_cons _ (.cons _ (.cons _ (.cons _ (.cons _ (.refl _)))))))) (aC rfl) (dv 1 rfl (.cons_cons _ (.cons_cons _ (.cons_cons _ (.cons _ (.cons _ (.cons _ (.cons _ (.refl _)))))))) (aM rfl) (dv 2 rfl (.cons_cons _ (.cons_cons _ (.cons_cons _ (.cons _ (.cons _ (.cons _ (.cons _ (.refl _)))))))) (aI iI rfl) (dv 3 rfl (.cons_cons _ (.cons_cons _ (.cons_cons _ (.cons _ (.cons _ (.cons _ (.cons _ (.refl _)))))))) (aG fE rfl (aK (.tail _ (.tail _ (.tail _ hev))) rfl)) ?_)))))
 refine dv 4 rfl (.cons_cons _ (.cons_cons _ (.cons_cons _ (.cons _ (.cons _ (.cons _ (.cons _ (.refl _)))))))) (aC rfl) (dv 5 rfl (.cons_cons _ (.cons_cons _ (.cons_cons _ (.cons _ (.cons _ (.cons _ (.cons _ (.refl _)))))))) (aC rfl) (dv 6 rfl (.cons_cons _ (.cons_cons _ (.cons_cons _ (.cons _ (.cons _ (.cons _ (.cons _ (.refl _)))))))) (dE (j := 0) Tryz.underlying24 eR rfl rfl rfl (by decide)) (dv 7 rfl (.cons_cons _ (.cons_cons _ (.cons_cons _ (.cons _ (.cons _ (.cons _ (.cons _ (.refl _)))))))) (aG bB rfl (aK (.tail _ (.head _)) rfl)) (dv 8 rfl (.cons_cons _ (.cons_cons _ (.cons_cons _ (.cons _ (.cons _ (.cons _ (.cons _ (.refl _)))))))) (bU rfl (v := .agg #[.int .i64 1, .int .i64 s, .int .i64 0, .int .i64 0]) (fun w => by kernel_rfl)) (de 9 rfl (fD aN7 rfl rfl rfl rfl (fun w hw => aB3 (Fr := _) s 0 0 hf hval w (hw.perm (pk (.there (.there (.there .here))) (pk (.there (.there (.there .here))) (pk (.there (.there (.there .here))) (pk (.there (.there (.there .here))) (.refl _))))))) ?_))))))
 refine aU (.cons _ (.cons _ (.cons _ (.cons _ (.refl _))))) (de 10 rfl (aJ lA rfl rfl rfl rfl mL (aU (.cons _ (.cons _ (.cons _ (.cons _ (.refl _))))) (bQ (by kernel_rfl) (Tr.keep (env' := []) trivial (cX ?_))))))
 refine eV rfl (fun w hw => ?_)
 exact ⟨rfl, Ok.sub (hw.perm (pk .here (pk .here (pk .here (pk .here (.refl _)))))) (.cons_cons _ (.cons_cons _ (.cons_cons _ (.cons_cons _ (.cons _ (.cons _ (.cons _ (.refl _))))))))⟩
theorem aI2 {ea : EvAt} {lv : Value} {g : GuardSt} {Fr : List Ent} {A : Option Addr} {cc : Nat} {x : ByteArray} (s : Int) (hev : ea.ev lv ∈ Fr) (hs : SlRd w0 (g.eg ea.gl :: g.er ea.gl :: g.ep ea.gl :: g.ec ea.gl :: Fr) 1 A 1 [dG x]) (hx : iA x s) (hf : g.Fine) (hval : gN g.plan 6 s 0 0 = true) :
 ∀ w, Ok w0 (g.eg ea.gl :: g.er ea.gl :: g.ep ea.gl :: g.ec ea.gl :: Fr) w → Calls Tryz.prog 172 #[.pointer (some ⟨ea.eb, 0, none⟩), .agg #[.string ⟨#[99, 111, 118, 101, 114, 101, 100]⟩, .slice A 1 cc]] w (fun e w' => e = .returned (.tuple #[]) ∧
  Ok w0 ((g.hear 6 s 0 0).eg ea.gl :: (g.hear 6 s 0 0).er ea.gl :: (g.hear 6 s 0 0).ep ea.gl :: (g.hear 6 s 0 0).ec ea.gl :: Fr) w') := by
 refine enter (vs := [_, _]) Tryz.func172 rfl Tryz.ntmps172 rfl (aE (aA (te (cH rfl rfl fun b3 => (aF (Tr.keep (env' := [(0, _), (3, _)]) ⟨rfl, rfl, trivial⟩ ?_))))))
 refine aB (aE (aA (tv (aI iY rfl) (tv (aG iP rfl (aK (.head _) rfl)) (aF ?_)))))
 refine Tr.keep (env' := [(0, _), (3, _), (9, _)]) ⟨rfl, rfl, rfl, trivial⟩ (aB (aX (aE (aE (aA ?_)))))
 refine tv (cM (v2 := .bool false) (iE rfl rfl) (by rfl)) (tv (aD rfl) (aF (Tr.keep (env' := [(0, _), (3, _), (9, _), (28, _)]) ⟨rfl, rfl, rfl, rfl, trivial⟩ (aB (aR rfl ?_)))))
 refine aE (aA (tv (cM (v2 := .bool false) (iE rfl rfl) (by rfl)) (tv (aD rfl) (aF (Tr.keep (env' := [(0, _), (3, _), (9, _), (28, _)]) ⟨rfl, rfl, rfl, rfl, trivial⟩ ?_)))))
 refine aB (aR rfl (aA (tv (cM (v2 := .bool false) (iE rfl rfl) (by rfl)) (tv (aD rfl) (aF ?_)))))
 refine Tr.keep (env' := [(0, _), (3, _), (28, _)]) ⟨rfl, rfl, rfl, trivial⟩ (aB (aR rfl (aE (aA (tv (aY kY rfl (bL (n := 2) (vs := [_, _]) (.head _) rfl) rfl) ?_)))))
 refine te (bP kZ rfl rfl rfl rfl (fW (ws := [x]) _ (hs.sub (.cons _ (.refl _))) (by intro z hz; rw [List.mem_singleton.1 hz]; exact hx.1) (by decide)) fun xo hO => ?_)
 obtain ⟨xv, xE⟩ := xo
 dsimp only at hO ⊢
 obtain ⟨sN, hv, hE⟩ := gA (n := 1) hO rfl (by decide)
 subst hv hE
 show Tr _ _ _ _ (cel sN.b 3 (.int .i64 (fH x) :: sN.sp) :: _) _
 rw [hx.2]
 refine tv (aD rfl) (aF (Tr.keep (env' := [(0, _), (3, _), (6, _)]) ⟨rfl, rfl, rfl, trivial⟩ (aB (aE (aA ?_)))))
 refine te (gQ (oC) rfl fun b12 => (te (cD (a := ⟨#[111, 112, 101, 110]⟩) Tryz.underlying333 dD rfl rfl rfl .here (te (cD (a := ⟨#[99, 108, 111, 115, 101]⟩) Tryz.underlying333 dD rfl rfl rfl .here (te (cD (a := ⟨#[99, 111, 118, 101, 114, 101, 100]⟩) Tryz.underlying333 dD rfl rfl rfl .here (te (cD (a := ⟨#[117, 110, 99, 111, 118, 101, 114, 101, 100]⟩) Tryz.underlying333 dD rfl rfl rfl .here (tv (aC rfl) ?_))))))))))
 refine tv (aI iY rfl) (tv (aG iP rfl (aK (.tail _ (.tail _ (.head _))) rfl)) (tv (fF (v' := .int .i64 6) (fK (⟨#[99, 111, 118, 101, 114, 101, 100]⟩) Tryz.underlying333 dD aI1 rfl rfl (.head _)) (by (repeat' first | rw [cZ, if_pos rfl] | rw [cZ, if_neg (by decide)]); rfl)) (tv (aD rfl) (aF (Tr.keep (env' := [(0, _), (6, _), (7, _)]) ⟨rfl, rfl, rfl, trivial⟩ ?_)))))
 refine aB (dV (.cons_cons _ (.cons_cons _ (.cons_cons _ (.cons _ (.cons _ (.cons _ (.cons _ (.refl _)))))))) cK rfl (dv 0 rfl (.cons_cons _ (.cons_cons _ (.cons_cons _ (.cons _ (.cons _ (.cons _ (.cons _ (.refl _)))))))) (aC rfl) (dv 1 rfl (.cons_cons _ (.cons_cons _ (.cons_cons _ (.cons _ (.cons _ (.cons _ (.cons _ (.refl _)))))))) (aM rfl) (dv 2 rfl (.cons_cons _ (.cons_cons _ (.cons_cons _ (.cons _ (.cons _ (.cons _ (.cons _ (.refl _)))))))) (aI iI rfl) (dv 3 rfl (.cons_cons _ (.cons_cons _ (.cons_cons _ (.cons _ (.cons _ (.cons _ (.cons _ (.refl _)))))))) (aG fE rfl (aK (.tail _ (.tail _ (.tail _ hev))) rfl)) ?_)))))
 refine dv 4 rfl (.cons_cons _ (.cons_cons _ (.cons_cons _ (.cons _ (.cons _ (.cons _ (.cons _ (.refl _)))))))) (aC rfl) (dv 5 rfl (.cons_cons _ (.cons_cons _ (.cons_cons _ (.cons _ (.cons _ (.cons _ (.cons _ (.refl _)))))))) (aC rfl) (dv 6 rfl (.cons_cons _ (.cons_cons _ (.cons_cons _ (.cons _ (.cons _ (.cons _ (.cons _ (.refl _)))))))) (dE (j := 0) Tryz.underlying24 eR rfl rfl rfl (by decide)) (dv 7 rfl (.cons_cons _ (.cons_cons _ (.cons_cons _ (.cons _ (.cons _ (.cons _ (.cons _ (.refl _)))))))) (aG bB rfl (aK (.tail _ (.head _)) rfl)) (dv 8 rfl (.cons_cons _ (.cons_cons _ (.cons_cons _ (.cons _ (.cons _ (.cons _ (.cons _ (.refl _)))))))) (bU rfl (v := .agg #[.int .i64 6, .int .i64 s, .int .i64 0, .int .i64 0]) (fun w => by kernel_rfl)) (de 9 rfl (fD aN7 rfl rfl rfl rfl (fun w hw => aB5 (Fr := _) s 0 0 hf hval w (hw.perm (pk (.there (.there (.there .here))) (pk (.there (.there (.there .here))) (pk (.there (.there (.there .here))) (pk (.there (.there (.there .here))) (.refl _))))))) ?_))))))
 refine aU (.cons _ (.cons _ (.cons _ (.cons _ (.refl _))))) (de 10 rfl (aJ lA rfl rfl rfl rfl mL (aU (.cons _ (.cons _ (.cons _ (.cons _ (.refl _))))) (bQ (by kernel_rfl) (Tr.keep (env' := []) trivial (cX ?_))))))
 refine eV rfl (fun w hw => ?_)
 exact ⟨rfl, Ok.sub (hw.perm (pk .here (pk .here (pk .here (pk .here (.refl _)))))) (.cons_cons _ (.cons_cons _ (.cons_cons _ (.cons_cons _ (.cons _ (.cons _ (.cons _ (.refl _))))))))⟩
theorem bA6 {ea : EvAt} {lv : Value} {g : GuardSt} {Fr : List Ent} {A : Option Addr} {cc : Nat} {x y : ByteArray} (s : Int) (p : Nat) (hev : ea.ev lv ∈ Fr) (hs : SlRd w0 (g.eg ea.gl :: g.er ea.gl :: g.ep ea.gl :: g.ec ea.gl :: Fr) 1 A 2 [dG x, dG y]) (hx : iA x (p : Int)) (hy : iA y s) (hf : g.Fine) (hval : gN g.plan 3 s p 0 = true) :
 ∀ w, Ok w0 (g.eg ea.gl :: g.er ea.gl :: g.ep ea.gl :: g.ec ea.gl :: Fr) w → Calls Tryz.prog 172 #[.pointer (some ⟨ea.eb, 0, none⟩), .agg #[.string ⟨#[112, 111, 115, 116]⟩, .slice A 2 cc]] w (fun e w' => e = .returned (.tuple #[]) ∧
  Ok w0 ((g.hear 3 s p 0).eg ea.gl :: (g.hear 3 s p 0).er ea.gl :: (g.hear 3 s p 0).ep ea.gl :: (g.hear 3 s p 0).ec ea.gl :: Fr) w') := by
 refine enter (vs := [_, _]) Tryz.func172 rfl Tryz.ntmps172 rfl (aE (aA (te (cH rfl rfl fun b3 => (aF (Tr.keep (env' := [(0, _), (3, _)]) ⟨rfl, rfl, trivial⟩ ?_))))))
 refine aB (aE (aA (tv (aI iY rfl) (tv (aG iP rfl (aK (.head _) rfl)) (aF ?_)))))
 refine Tr.keep (env' := [(0, _), (3, _), (9, _)]) ⟨rfl, rfl, rfl, trivial⟩ (aB (aX (aE (aE (aA ?_)))))
 refine tv (cM (v2 := .bool true) (iE rfl rfl) (by rfl)) (tv (aD rfl) (aF (Tr.keep (env' := [(0, _), (3, _), (9, _), (28, _)]) ⟨rfl, rfl, rfl, rfl, trivial⟩ (aB (bI rfl ?_)))))
 refine aO (aB (bI rfl (aE (aA (tv (aY kY rfl (bL (n := 2) (vs := [_, _]) (.head _) rfl) rfl) ?_)))))
 refine te (bP kZ rfl rfl rfl rfl (fW (ws := [x, y]) _ (hs.sub (.cons _ (.refl _))) (by intro z hz; simp at hz; rcases hz with rfl | rfl <;> first | exact hx.1 | exact hy.1) (by decide)) fun xo hO => ?_)
 obtain ⟨xv, xE⟩ := xo
 dsimp only at hO ⊢
 obtain ⟨sN, hv, hE⟩ := gA (n := 2) hO rfl (by decide)
 subst hv hE
 show Tr _ _ _ _ (cel sN.b 3 (.int .i64 (fH x) :: .int .i64 (fH y) :: sN.sp) :: _) _
 rw [hx.2]
 rw [hy.2]
 refine tv (aD rfl) (aF (Tr.keep (env' := [(0, _), (3, _), (4, _)]) ⟨rfl, rfl, rfl, trivial⟩ (aB (aE (aA ?_)))))
 refine te (gQ (oC) rfl fun b34 => (te (cD (a := ⟨#[112, 111, 115, 116]⟩) Tryz.underlying333 dD rfl rfl rfl .here (te (cD (a := ⟨#[114, 101, 100]⟩) Tryz.underlying333 dD rfl rfl rfl .here (te (cD (a := ⟨#[103, 114, 101, 101, 110]⟩) Tryz.underlying333 dD rfl rfl rfl .here (tv (aC rfl) (tv (aI iY rfl) ?_)))))))))
 refine tv (aG iP rfl (aK (.tail _ (.tail _ (.head _))) rfl)) (tv (fF (v' := .int .i64 3) (fK (⟨#[112, 111, 115, 116]⟩) Tryz.underlying333 dD aI1 rfl rfl (.head _)) (by (repeat' first | rw [cZ, if_pos rfl] | rw [cZ, if_neg (by decide)]); rfl)) (tv (aD rfl) (aF (Tr.keep (env' := [(0, _), (4, _), (5, _)]) ⟨rfl, rfl, rfl, trivial⟩ (aB ?_)))))
 refine dV (.cons_cons _ (.cons_cons _ (.cons_cons _ (.cons _ (.cons _ (.cons _ (.cons _ (.refl _)))))))) cK rfl (dv 0 rfl (.cons_cons _ (.cons_cons _ (.cons_cons _ (.cons _ (.cons _ (.cons _ (.cons _ (.refl _)))))))) (aC rfl) (dv 1 rfl (.cons_cons _ (.cons_cons _ (.cons_cons _ (.cons _ (.cons _ (.cons _ (.cons _ (.refl _)))))))) (aM rfl) (dv 2 rfl (.cons_cons _ (.cons_cons _ (.cons_cons _ (.cons _ (.cons _ (.cons _ (.cons _ (.refl _)))))))) (aI iI rfl) (dv 3 rfl (.cons_cons _ (.cons_cons _ (.cons_cons _ (.cons _ (.cons _ (.cons _ (.cons _ (.refl _)))))))) (aG fE rfl (aK (.tail _ (.tail _ (.tail _ hev))) rfl)) (dv 4 rfl (.cons_cons _ (.cons_cons _ (.cons_cons _ (.cons _ (.cons _ (.cons _ (.cons _ (.refl _)))))))) (aC rfl) ?_)))))
 refine dv 5 rfl (.cons_cons _ (.cons_cons _ (.cons_cons _ (.cons _ (.cons _ (.cons _ (.cons _ (.refl _)))))))) (aC rfl) (dv 6 rfl (.cons_cons _ (.cons_cons _ (.cons_cons _ (.cons _ (.cons _ (.cons _ (.cons _ (.refl _)))))))) (dE (j := 0) Tryz.underlying24 eR rfl rfl rfl (by decide)) (dv 7 rfl (.cons_cons _ (.cons_cons _ (.cons_cons _ (.cons _ (.cons _ (.cons _ (.cons _ (.refl _)))))))) (aG bB rfl (aK (.tail _ (.head _)) rfl)) (dv 8 rfl (.cons_cons _ (.cons_cons _ (.cons_cons _ (.cons _ (.cons _ (.cons _ (.cons _ (.refl _)))))))) (aC rfl) (dv 9 rfl (.cons_cons _ (.cons_cons _ (.cons_cons _ (.cons _ (.cons _ (.cons _ (.cons _ (.refl _)))))))) (dE (j := 1) Tryz.underlying24 eR rfl rfl rfl (by decide)) (dv 10 rfl (.cons_cons _ (.cons_cons _ (.cons_cons _ (.cons _ (.cons _ (.cons _ (.cons _ (.refl _)))))))) (aG bB rfl (aK (.tail _ (.head _)) rfl)) ?_)))))
 refine dv 11 rfl (.cons_cons _ (.cons_cons _ (.cons_cons _ (.cons _ (.cons _ (.cons _ (.cons _ (.refl _)))))))) (bU rfl (v := .agg #[.int .i64 3, .int .i64 s, .int .i64 (p : Int), .int .i64 0]) (fun w => by kernel_rfl)) (de 12 rfl (fD aN7 rfl rfl rfl rfl (fun w hw => aB4 (Fr := _) s p 0 hf hval w (hw.perm (pk (.there (.there (.there .here))) (pk (.there (.there (.there .here))) (pk (.there (.there (.there .here))) (pk (.there (.there (.there .here))) (.refl _))))))) (aU (.cons _ (.cons _ (.cons _ (.cons _ (.refl _))))) (de 13 rfl (aJ lA rfl rfl rfl rfl mL (aU (.cons _ (.cons _ (.cons _ (.cons _ (.refl _))))) (bQ (by kernel_rfl) ?_)))))))
 refine Tr.keep (env' := []) trivial (cX (eV rfl (fun w hw => ?_)))
 exact ⟨rfl, Ok.sub (hw.perm (pk .here (pk .here (pk .here (pk .here (.refl _)))))) (.cons_cons _ (.cons_cons _ (.cons_cons _ (.cons_cons _ (.cons _ (.cons _ (.cons _ (.refl _))))))))⟩
end
end Go.Proofs.W
set_option linter.unusedVariables false
set_option linter.unusedSimpArgs false
set_option linter.unusedSectionVars false
set_option maxRecDepth 100000
namespace Go.Proofs.W
open Go Go.Sl Go.RowKit Go.Proofs
attribute [local irreducible] Go.Sl.Eff
theorem rB : aV Tryz.prog 235 := aL Tryz.func235 (by kernel_rfl) (by kernel_rfl)
theorem en_27 : aV Tryz.prog 27 := aL Tryz.func27 (by kernel_rfl) (by kernel_rfl)
section
variable {w0 : World} {M : List Ent}
theorem zH {g : GuardSt} {l : GAt} (k s p c : Int) (hg : g.eg l ∈ M) (hf : g.Fine) (hval : gN g.plan k s p c = false) : ∀ w, Ok w0 M w → Calls Tryz.prog 28 #[.pointer (some ⟨l.g, 0, none⟩), .agg #[.int .i64 k, .int .i64 s, .int .i64 p, .int .i64 c]] w (fun e w' => e = .returned (.int .i64 2) ∧ Ok w0 M w') := by
 have hnc := hf.nc
 refine enter (vs := [_, _]) Tryz.func28 rfl Tryz.ntmps28 rfl (aE (aA (te (eL rfl rfl rfl fun b2 => (te (cH rfl rfl fun b3 => (tv (aD rfl) ?_)))))))
 refine aF (Tr.keep (env' := [(2, _), (3, _)]) ⟨rfl, rfl, trivial⟩ (aB (aE (aE (aA ?_)))))
 refine tv (aG fE rfl (aK (.tail _ (.head _)) rfl)) (te (aJ zQ rfl rfl rfl rfl (hP (.tail _ (.tail _ hg))) (tv (bF rfl) (aF (Tr.keep (env' := [(2, _), (3, _), (9, _)]) ⟨rfl, rfl, rfl, trivial⟩ (aB ?_))))))
 refine aR (mY (by simp; omega)) (aO (aB (aE (aE (aA ?_)))))
 refine tv (aG fE rfl (aK (.tail _ (.head _)) rfl)) (tv (aY aJ4 rfl (bL (n := 4) (vs := [_, _, _, _]) (.head _) rfl) rfl) (te (aJ aJ5 rfl rfl rfl rfl (iQ k s p c (.tail _ (.tail _ hg)) hf) (tv (bF rfl) (aF (Tr.keep (env' := [(2, _), (3, _), (13, _)]) ⟨rfl, rfl, rfl, trivial⟩ ?_))))))
 refine aB (bI (mY (by rw [hval]; rfl)) (aE (aA (tv (aD rfl) (aF ?_)))))
 refine Tr.keep (env' := [(4, _)]) ⟨rfl, trivial⟩ (aB (aQ (aN (aW rfl rfl (fun w hw => ?_)))))
 exact ⟨rfl, Ok.sub hw (.cons _ (.cons _ (.refl _)))⟩
theorem zI {ea : EvAt} {lv : Value} {A : Option Addr} {cc : Nat} {x : ByteArray} (hev : ea.ev lv ∈ M) (hs : SlRd w0 M 1 A 1 [dG x]) (hx1 : fT x) (hx2 : x.size ≤ 15) (hx : wL x = false) :
 ∀ w, Ok w0 M w → Calls Tryz.prog 172 #[.pointer (some ⟨ea.eb, 0, none⟩), .agg #[.string ⟨#[111, 112, 101, 110]⟩, .slice A 1 cc]] w (fun e w' => e = .panicked (jQ 3) ∧ Ok w0 M w') := by
 refine enter (vs := [_, _]) Tryz.func172 rfl Tryz.ntmps172 rfl (aE (aA (te (cH rfl rfl fun b3 => (aF (Tr.keep (env' := [(0, _), (3, _)]) ⟨rfl, rfl, trivial⟩ ?_))))))
 refine aB (aE (aA (tv (aI iY rfl) (tv (aG iP rfl (aK (.head _) rfl)) (aF ?_)))))
 refine Tr.keep (env' := [(0, _), (3, _), (9, _)]) ⟨rfl, rfl, rfl, trivial⟩ (aB (aX (aE (aE (aA ?_)))))
 refine tv (cM (v2 := .bool false) (iE rfl rfl) (by rfl)) (tv (aD rfl) (aF (Tr.keep (env' := [(0, _), (3, _), (9, _), (28, _)]) ⟨rfl, rfl, rfl, rfl, trivial⟩ (aB (aR rfl ?_)))))
 refine aE (aA (tv (cM (v2 := .bool false) (iE rfl rfl) (by rfl)) (tv (aD rfl) (aF (Tr.keep (env' := [(0, _), (3, _), (9, _), (28, _)]) ⟨rfl, rfl, rfl, rfl, trivial⟩ ?_)))))
 refine aB (aR rfl (aA (tv (cM (v2 := .bool false) (iE rfl rfl) (by rfl)) (tv (aD rfl) (aF ?_)))))
 refine Tr.keep (env' := [(0, _), (3, _), (28, _)]) ⟨rfl, rfl, rfl, trivial⟩ (aB (aR rfl (aE (aA (tv (aY kY rfl (bL (n := 2) (vs := [_, _]) (.head _) rfl) rfl) ?_)))))
 refine te (kU kZ rfl rfl rfl (aN8 _ (hs.sub (.cons _ (.refl _))) hx1 hx2 hx) (gZ (nR ?_)))
 exact gT (fun w hw => ⟨rfl, Ok.sub hw (.cons _ (.refl _))⟩)
theorem aI3 {ea : EvAt} {lv : Value} {g : GuardSt} {A : Option Addr} {cc : Nat} {x y : ByteArray} (s p : Int) (hev : ea.ev lv ∈ M) (hg : g.eg ea.gl ∈ M) (hs : SlRd w0 M 1 A 2 [dG x, dG y]) (hx : iA x p) (hy : iA y s) (hf : g.Fine) (hval : gN g.plan 3 s p 0 = false) :
 ∀ w, Ok w0 M w → Calls Tryz.prog 172 #[.pointer (some ⟨ea.eb, 0, none⟩), .agg #[.string ⟨#[112, 111, 115, 116]⟩, .slice A 2 cc]] w (fun e w' => e = .panicked (jQ 2) ∧ Ok w0 M w') := by
 refine enter (vs := [_, _]) Tryz.func172 rfl Tryz.ntmps172 rfl (aE (aA (te (cH rfl rfl fun b3 => (aF (Tr.keep (env' := [(0, _), (3, _)]) ⟨rfl, rfl, trivial⟩ ?_))))))
 refine aB (aE (aA (tv (aI iY rfl) (tv (aG iP rfl (aK (.head _) rfl)) (aF ?_)))))
 refine Tr.keep (env' := [(0, _), (3, _), (9, _)]) ⟨rfl, rfl, rfl, trivial⟩ (aB (aX (aE (aE (aA ?_)))))
 refine tv (cM (v2 := .bool true) (iE rfl rfl) (by rfl)) (tv (aD rfl) (aF (Tr.keep (env' := [(0, _), (3, _), (9, _), (28, _)]) ⟨rfl, rfl, rfl, rfl, trivial⟩ (aB (bI rfl ?_)))))
 refine aO (aB (bI rfl (aE (aA (tv (aY kY rfl (bL (n := 2) (vs := [_, _]) (.head _) rfl) rfl) ?_)))))
 refine te (bP kZ rfl rfl rfl rfl (fW (ws := [x, y]) _ (hs.sub (.cons _ (.refl _))) (by intro z hz; simp at hz; rcases hz with rfl | rfl <;> first | exact hx.1 | exact hy.1) (by decide)) fun xo hO => ?_)
 obtain ⟨xv, xE⟩ := xo
 dsimp only at hO ⊢
 obtain ⟨sN, hv, hE⟩ := gA (n := 2) hO rfl (by decide)
 subst hv hE
 show Tr _ _ _ _ (cel sN.b 3 (.int .i64 (fH x) :: .int .i64 (fH y) :: sN.sp) :: _) _
 rw [hx.2]
 rw [hy.2]
 refine tv (aD rfl) (aF (Tr.keep (env' := [(0, _), (3, _), (4, _)]) ⟨rfl, rfl, rfl, trivial⟩ (aB (aE (aA ?_)))))
 refine te (gQ (oC) rfl fun b34 => (te (cD (a := ⟨#[112, 111, 115, 116]⟩) Tryz.underlying333 dD rfl rfl rfl .here (te (cD (a := ⟨#[114, 101, 100]⟩) Tryz.underlying333 dD rfl rfl rfl .here (te (cD (a := ⟨#[103, 114, 101, 101, 110]⟩) Tryz.underlying333 dD rfl rfl rfl .here (tv (aC rfl) (tv (aI iY rfl) ?_)))))))))
 refine tv (aG iP rfl (aK (.tail _ (.tail _ (.head _))) rfl)) (tv (fF (v' := .int .i64 3) (fK (⟨#[112, 111, 115, 116]⟩) Tryz.underlying333 dD aI1 rfl rfl (.head _)) (by (repeat' first | rw [cZ, if_pos rfl] | rw [cZ, if_neg (by decide)]); rfl)) (tv (aD rfl) (aF (Tr.keep (env' := [(0, _), (4, _), (5, _)]) ⟨rfl, rfl, rfl, trivial⟩ (aB ?_)))))
 refine cI cK rfl (dv 0 rfl (.refl _) (aC rfl) (dv 1 rfl (.refl _) (aM rfl) (dv 2 rfl (.refl _) (aI iI rfl) (dv 3 rfl (.refl _) (aG fE rfl (aK (.tail _ (.tail _ (.tail _ hev))) rfl)) (dv 4 rfl (.refl _) (aC rfl) ?_)))))
 refine dv 5 rfl (.refl _) (aC rfl) (dv 6 rfl (.refl _) (dE (j := 0) Tryz.underlying24 eR rfl rfl rfl (by decide)) (dv 7 rfl (.refl _) (aG bB rfl (aK (.tail _ (.head _)) rfl)) (dv 8 rfl (.refl _) (aC rfl) (dv 9 rfl (.refl _) (dE (j := 1) Tryz.underlying24 eR rfl rfl rfl (by decide)) (dv 10 rfl (.refl _) (aG bB rfl (aK (.tail _ (.head _)) rfl)) ?_)))))
 refine dv 11 rfl (.refl _) (bU rfl (v := .agg #[.int .i64 3, .int .i64 s, .int .i64 p, .int .i64 0]) (fun w => by kernel_rfl)) (de 12 rfl (aJ aN7 rfl rfl rfl rfl (zH 3 s p 0 ((.tail _ (.tail _ (.tail _ hg)))) hf hval) (aU (.refl _) (de 13 rfl (kU lA rfl rfl rfl (vH 2 (by decide)) (nR ?_))))))
 exact gT (fun w hw => ⟨rfl, Ok.sub hw (.cons _ (.cons _ (.cons _ (.refl _))))⟩)
theorem bA7 {ea : EvAt} {lv : Value} {g : GuardSt} {Fr : List Ent} {A : Option Addr} {cc : Nat} {x y : ByteArray} (s : Int) (hev : ea.ev lv ∈ Fr) (hs : SlRd w0 (g.eg ea.gl :: g.er ea.gl :: g.ep ea.gl :: g.ec ea.gl :: Fr) 1 A 2 [dG x, dG y]) (hx : iA x 1) (hy : iA y s) (hf : g.Fine) (hsn : g.Sane) (hss : 0 ≤ s ∧ s ≤ 100000) (hm : g.may 0 s = []) {v : ByteArray} :
 ∀ w, Ok w0 (g.eg ea.gl :: g.er ea.gl :: g.ep ea.gl :: g.ec ea.gl :: Fr) w → Calls Tryz.prog 174 #[.pointer (some ⟨ea.eb, 0, none⟩), .agg #[.string v, .slice A 2 cc]] w (fun e w' => e = .returned (.tuple #[]) ∧ Ok w0 ((g.start 0 s).eg ea.gl :: (g.start 0 s).er ea.gl :: (g.start 0 s).ep ea.gl :: (g.start 0 s).ec ea.gl :: Fr) w') := by
 refine enter (vs := [_, _]) Tryz.func174 rfl Tryz.ntmps174 rfl (aE (aA (te (cH rfl rfl fun b3 => (aF (Tr.keep (env' := [(0, _), (3, _)]) ⟨rfl, rfl, trivial⟩ ?_))))))
 refine aB (aE (aA (tv (aY kY rfl (bL (n := 2) (vs := [_, _]) (.head _) rfl) rfl) (te (bP kZ rfl rfl rfl rfl (fW (ws := [x, y]) _ (hs.sub (.cons _ (.refl _))) (by intro z hz; simp at hz; rcases hz with rfl | rfl <;> first | exact hx.1 | exact hy.1) (by decide)) fun xo hO => ?_)))))
 obtain ⟨xv, xE⟩ := xo
 dsimp only at hO ⊢
 obtain ⟨sN, hv, hE⟩ := gA (n := 2) hO rfl (by decide)
 subst hv hE
 show Tr _ _ _ _ (cel sN.b 3 (.int .i64 (fH x) :: .int .i64 (fH y) :: sN.sp) :: _) _
 rw [hx.2]
 rw [hy.2]
 refine tv (aD rfl) (aF (Tr.keep (env' := [(0, _), (4, _)]) ⟨rfl, rfl, trivial⟩ (aB (dV (.cons_cons _ (.cons_cons _ (.cons _ (.cons _ (.cons _ (.cons _ (.refl _))))))) cK rfl (dv 0 rfl (.cons_cons _ (.cons_cons _ (.cons _ (.cons _ (.cons _ (.cons _ (.refl _))))))) (aC rfl) ?_)))))
 refine dv 1 rfl (.cons_cons _ (.cons_cons _ (.cons _ (.cons _ (.cons _ (.cons _ (.refl _))))))) (aM rfl) (dv 2 rfl (.cons_cons _ (.cons_cons _ (.cons _ (.cons _ (.cons _ (.cons _ (.refl _))))))) (aI iI rfl) (dv 3 rfl (.cons_cons _ (.cons_cons _ (.cons _ (.cons _ (.cons _ (.cons _ (.refl _))))))) (aG fE rfl (aK (.tail _ (.tail _ hev)) rfl)) (dv 4 rfl (.cons_cons _ (.cons_cons _ (.cons _ (.cons _ (.cons _ (.cons _ (.refl _))))))) (aC rfl) (dv 5 rfl (.cons_cons _ (.cons_cons _ (.cons _ (.cons _ (.cons _ (.cons _ (.refl _))))))) (aC rfl) (dv 6 rfl (.cons_cons _ (.cons_cons _ (.cons _ (.cons _ (.cons _ (.cons _ (.refl _))))))) (dE (j := 0) Tryz.underlying24 eR rfl rfl rfl (by decide)) ?_)))))
 refine dv 7 rfl (.cons_cons _ (.cons_cons _ (.cons _ (.cons _ (.cons _ (.cons _ (.refl _))))))) (aG bB rfl (aK (.head _) rfl)) (dv 9 rfl (.cons_cons _ (.cons_cons _ (.cons _ (.cons _ (.cons _ (.cons _ (.refl _))))))) (aC rfl) (dv 10 rfl (.cons_cons _ (.cons_cons _ (.cons _ (.cons _ (.cons _ (.cons _ (.refl _))))))) (dE (j := 1) Tryz.underlying24 eR rfl rfl rfl (by decide)) (dv 11 rfl (.cons_cons _ (.cons_cons _ (.cons _ (.cons _ (.cons _ (.cons _ (.refl _))))))) (aG bB rfl (aK (.head _) rfl)) (de 8 rfl (aJ rB rfl rfl rfl rfl (wJ (e' := ea) (lv := lv) ((.tail _ (.tail _ (.tail _ (.tail _ (.tail _ (.tail _ hev)))))))) (aU (.cons_cons _ (.cons_cons _ (.cons _ (.cons _ (.cons _ (.cons _ (.refl _))))))) ?_))))))
 refine de 12 rfl (fD en_27 rfl rfl rfl rfl (fun w hw => uX (Fr := _) (car := 0) (t := s) hf hsn (by have := hf.nc; omega) hss hm w (hw.perm (pk (.there (.there .here)) (pk (.there (.there .here)) (pk (.there (.there .here)) (pk (.there (.there .here)) (.refl _))))))) (aU (.cons _ (.cons _ (.cons _ (.cons _ (.refl _))))) (de 13 rfl (aJ lA rfl rfl rfl rfl mL (aU (.cons _ (.cons _ (.cons _ (.cons _ (.refl _))))) (bQ (by kernel_rfl) (Tr.keep (env' := []) trivial ?_)))))))
 refine eV rfl (fun w hw => ?_)
 exact ⟨rfl, Ok.sub (hw.perm (pk .here (pk .here (pk .here (pk .here (.refl _)))))) (.cons_cons _ (.cons_cons _ (.cons_cons _ (.cons_cons _ (.cons _ (.cons _ (.refl _)))))))⟩
theorem bJ7 {ea : EvAt} {lv : Value} {g : GuardSt} {Fr : List Ent} {A : Option Addr} {cc : Nat} {x y : ByteArray} (s : Int) (hev : ea.ev lv ∈ Fr) (hs : SlRd w0 (g.eg ea.gl :: g.er ea.gl :: g.ep ea.gl :: g.ec ea.gl :: Fr) 1 A 2 [dG x, dG y]) (hx : iA x 1) (hy : iA y s) (hf : g.Fine) (hsn : g.Sane) (hss : 0 ≤ s ∧ s ≤ 100000) (hm : g.may 0 s ≠ []) {v : ByteArray} :
 ∀ w, Ok w0 (g.eg ea.gl :: g.er ea.gl :: g.ep ea.gl :: g.ec ea.gl :: Fr) w → Calls Tryz.prog 174 #[.pointer (some ⟨ea.eb, 0, none⟩), .agg #[.string v, .slice A 2 cc]] w (fun e w' => e = .panicked (jQ 7) ∧ Ok w0 (g.eg ea.gl :: g.er ea.gl :: g.ep ea.gl :: g.ec ea.gl :: Fr) w') := by
 refine enter (vs := [_, _]) Tryz.func174 rfl Tryz.ntmps174 rfl (aE (aA (te (cH rfl rfl fun b3 => (aF (Tr.keep (env' := [(0, _), (3, _)]) ⟨rfl, rfl, trivial⟩ ?_))))))
 refine aB (aE (aA (tv (aY kY rfl (bL (n := 2) (vs := [_, _]) (.head _) rfl) rfl) (te (bP kZ rfl rfl rfl rfl (fW (ws := [x, y]) _ (hs.sub (.cons _ (.refl _))) (by intro z hz; simp at hz; rcases hz with rfl | rfl <;> first | exact hx.1 | exact hy.1) (by decide)) fun xo hO => ?_)))))
 obtain ⟨xv, xE⟩ := xo
 dsimp only at hO ⊢
 obtain ⟨sN, hv, hE⟩ := gA (n := 2) hO rfl (by decide)
 subst hv hE
 show Tr _ _ _ _ (cel sN.b 3 (.int .i64 (fH x) :: .int .i64 (fH y) :: sN.sp) :: _) _
 rw [hx.2]
 rw [hy.2]
 refine tv (aD rfl) (aF (Tr.keep (env' := [(0, _), (4, _)]) ⟨rfl, rfl, trivial⟩ (aB (dV (.cons_cons _ (.cons_cons _ (.cons _ (.cons _ (.cons _ (.cons _ (.refl _))))))) cK rfl (dv 0 rfl (.cons_cons _ (.cons_cons _ (.cons _ (.cons _ (.cons _ (.cons _ (.refl _))))))) (aC rfl) ?_)))))
 refine dv 1 rfl (.cons_cons _ (.cons_cons _ (.cons _ (.cons _ (.cons _ (.cons _ (.refl _))))))) (aM rfl) (dv 2 rfl (.cons_cons _ (.cons_cons _ (.cons _ (.cons _ (.cons _ (.cons _ (.refl _))))))) (aI iI rfl) (dv 3 rfl (.cons_cons _ (.cons_cons _ (.cons _ (.cons _ (.cons _ (.cons _ (.refl _))))))) (aG fE rfl (aK (.tail _ (.tail _ hev)) rfl)) (dv 4 rfl (.cons_cons _ (.cons_cons _ (.cons _ (.cons _ (.cons _ (.cons _ (.refl _))))))) (aC rfl) (dv 5 rfl (.cons_cons _ (.cons_cons _ (.cons _ (.cons _ (.cons _ (.cons _ (.refl _))))))) (aC rfl) (dv 6 rfl (.cons_cons _ (.cons_cons _ (.cons _ (.cons _ (.cons _ (.cons _ (.refl _))))))) (dE (j := 0) Tryz.underlying24 eR rfl rfl rfl (by decide)) ?_)))))
 refine dv 7 rfl (.cons_cons _ (.cons_cons _ (.cons _ (.cons _ (.cons _ (.cons _ (.refl _))))))) (aG bB rfl (aK (.head _) rfl)) (dv 9 rfl (.cons_cons _ (.cons_cons _ (.cons _ (.cons _ (.cons _ (.cons _ (.refl _))))))) (aC rfl) (dv 10 rfl (.cons_cons _ (.cons_cons _ (.cons _ (.cons _ (.cons _ (.cons _ (.refl _))))))) (dE (j := 1) Tryz.underlying24 eR rfl rfl rfl (by decide)) (dv 11 rfl (.cons_cons _ (.cons_cons _ (.cons _ (.cons _ (.cons _ (.cons _ (.refl _))))))) (aG bB rfl (aK (.head _) rfl)) (de 8 rfl (aJ rB rfl rfl rfl rfl (wJ (e' := ea) (lv := lv) ((.tail _ (.tail _ (.tail _ (.tail _ (.tail _ (.tail _ hev)))))))) (aU (.cons_cons _ (.cons_cons _ (.cons _ (.cons _ (.cons _ (.cons _ (.refl _))))))) ?_))))))
 refine de 12 rfl (fD en_27 rfl rfl rfl rfl (fun w hw => xI (Fr := _) (car := 0) (t := s) hf hsn (by have := hf.nc; omega) hss hm w (hw.perm (pk (.there (.there .here)) (pk (.there (.there .here)) (pk (.there (.there .here)) (pk (.there (.there .here)) (.refl _))))))) (aU (.cons _ (.cons _ (.cons _ (.cons _ (.refl _))))) (de 13 rfl (kU lA rfl rfl rfl (vH 7 (by decide)) ?_))))
 exact gT (fun w hw => ⟨rfl, Ok.sub (hw.perm (pk .here (pk .here (pk .here (pk .here (.refl _)))))) (.cons_cons _ (.cons_cons _ (.cons_cons _ (.cons_cons _ (.cons _ (.cons _ (.refl _)))))))⟩)
end
end Go.Proofs.W
set_option linter.unusedVariables false
set_option linter.unusedSimpArgs false
set_option linter.unusedSectionVars false
set_option maxRecDepth 100000
namespace Go.Proofs.W
open Go Go.Sl Go.RowKit Go.Proofs
attribute [local irreducible] Go.Sl.Eff
theorem aW9 : bY Tryz.prog 41 = some (none) := by kernel_rfl
theorem aS7 : aV Tryz.prog 125 := aL Tryz.func125 (by kernel_rfl) (by kernel_rfl)
theorem aS8 : aV Tryz.prog 126 := aL Tryz.func126 (by kernel_rfl) (by kernel_rfl)
theorem aS9 : aV Tryz.prog 127 := aL Tryz.func127 (by kernel_rfl) (by kernel_rfl)
theorem aT0 : aV Tryz.prog 170 := aL Tryz.func170 (by kernel_rfl) (by kernel_rfl)
theorem bJ8 : bC Tryz.prog 227 0 = some 0 := by kernel_rfl
theorem inf_227 : (Tryz.prog.info? 227).map (fun i => (i.zero, i.size, i.bytes)) = some (some (.agg #[.int .i64 0]), 1, 8) := by kernel_rfl
theorem aI4 : (Tryz.prog.info? 230).map (fun i => (i.zero, i.size, i.bytes)) = some (some ((.nilFunc)), 1, 8) := by kernel_rfl
theorem aT1 : (Tryz.prog.info? 41).map (fun i => (i.zero, i.size, i.bytes)) = some (some ((.int .i64 0)), 1, 8) := by kernel_rfl
theorem aT2 : (Tryz.prog.info? 58).map (fun i => (i.zero, i.size, i.bytes)) = some (some ((.slice none 0 0)), 1, 24) := by kernel_rfl
theorem bJ9 : (Tryz.prog.info? 9).map (fun i => (i.zero, i.size, i.bytes)) = some (some ((.string ⟨#[]⟩)), 1, 16) := by kernel_rfl
theorem iz_227 : (Tryz.prog.info? 227).map (·.size) = some 1 := by kernel_rfl
theorem bK0 : (Tryz.prog.info? 41).map (·.size) = some 1 := by kernel_rfl
theorem bK1 : (Tryz.prog.info? 58).map (·.size) = some 1 := by kernel_rfl
theorem gJ (c : UInt8) : ∀ (n : Nat) (s : ByteArray), (dX c n s).length ≤ n + 1
 | 0, s => by simp [dX]
 | n + 1, s => by
  unfold dX
  split
  ·have := gJ c n (gS s c).2.1
   simp; omega
  ·simp
theorem aI5 {T : TypeId} {z n : Nat} {v : Value} {xs : List (List Value)} {E : List Ent} (h : Own T z v xs E) (hn : xs.length = n) (h0 : 0 < n) : ∃ s : Sl3, v = s.v n ∧ E = [cel s.b T (bT xs ++ s.sp)] ∧ n ≤ s.c := by
 subst hn
 rcases h.sh with ⟨_, rfl, _⟩ | ⟨b, c, l, rfl, rfl, h2, h3, h4, h5⟩
 ·simp at h0
 ·refine ⟨⟨b, c, l.drop (xs.length * z)⟩, rfl, ?_, h3⟩
  rw [← h5, List.take_append_drop]
theorem aX0 : Tryz.prog.isIface 20 = true := by kernel_rfl
section
variable {w0 : World} {M : List Ent}
theorem aX1 {b4 : Nat} : ∀ w, Ok w0 M w → CallsDIn Fence.wide 1 Tryz.prog 125 #[.pointer (some ⟨b4, 0, none⟩)] .returning w (fun e x w' => e = .returned (.tuple #[]) ∧ x = .returning ∧ Ok w0 M w') := by
 refine wR (vs := [_]) Tryz.func125 rfl (fun c₀ cs h => .inl ⟨by simp [recoverD, h], rfl, rfl⟩) rfl rfl rfl rfl (aE (aA (tv (aC rfl) (tv (rU aX0 rfl rfl) (aF ?_)))))
 refine Tr.keep (env' := [(0, _), (1, _), (6, _)]) ⟨rfl, rfl, rfl, trivial⟩ (aB (aR rfl (aO (eV rfl (fun w hw => ?_)))))
 exact ⟨rfl, hw⟩
theorem bA8 {b4 : Nat} {x y : Int} {L M' : List Ent} (hu : Upd M (cel b4 41 [.int .i64 y]) (cel b4 41 [.int .i64 x]) M') : ∀ w, Ok w0 M w → CallsDIn Fence.wide 1 Tryz.prog 125 #[.pointer (some ⟨b4, 0, none⟩)] (.panicking (jQ x)) w (fun e u w' => e = .returned (.tuple #[]) ∧ u = .panicking [{ v := .iface 227 (.agg #[.int .i64 x]), recovered := true }] ∧ Ok w0 M' w') := by
 refine wR (vs := [_]) (v := .iface 227 (.agg #[.int .i64 x])) Tryz.func125 rfl (fun c₀ cs h => .inr (by simp [recoverD, h])) rfl rfl rfl rfl (aE (aA (tv (aC rfl) (tv (aE8 aX0 rfl rfl) (aF ?_)))))
 refine Tr.keep (env' := [(0, _), (1, _), (6, _)]) ⟨rfl, rfl, rfl, trivial⟩ (aB (bI rfl (aE (aA (tv (aC rfl) ?_)))))
 refine tv (xX Tryz.underlying227 (by simp) rfl) (tv (aC rfl) (tv (bA rfl rfl) (tv (bA rfl rfl) (te (bO inf_227 (l := [.int .i64 0]) rfl rfl fun b2 => (te (bJ iz_227 rfl rfl (vs := [_]) rfl rfl (by simp [Value.oneCell']) (.cons .zero .nil) .here ?_)))))))
 refine tv (aD rfl) (aF (Tr.keep (env' := [(0, _), (1, _), (2, _), (3, _)]) ⟨rfl, rfl, rfl, rfl, trivial⟩ (aB (aE (aE ?_)))))
 refine aA (tv (aC rfl) (tv (bF rfl) (aF (Tr.keep (env' := [(0, _), (1, _), (2, _), (13, _)]) ⟨rfl, rfl, rfl, rfl, trivial⟩ (aB ?_)))))
 refine aR rfl (aO (aB (aA (tv (aI bJ8 rfl) (tv (aG aW9 rfl (aK (.head _) rfl)) ?_)))))
 refine te (bR (l := [.int .i64 y]) (l' := [.int .i64 x]) bK0 rfl rfl rfl .zero (.there hu) (aF (Tr.keep (env' := []) trivial (eV rfl (fun w hw => ?_)))))
 exact ⟨rfl, Ok.sub hw (.cons _ (.refl _))⟩
theorem bK2 {eb : Nat} {line wd : ByteArray} {ws : List ByteArray} {M1 : List Ent} {f : Nat} {φ : List Ent → Prop} (hlen : line.size ≤ 200) (hwd : cT line = wd :: ws) (hget : gH wd (dY eb) = some (.func (.func f) #[.pointer (some ⟨eb, 0, none⟩)] #[])) (he : aV Tryz.prog f) (hcall : ∀ A n c Fr, n = ws.length → SlRd w0 (M1 ++ Fr) 1 A n (ws.map dG) → ∀ w, Ok w0 (M1 ++ Fr) w → Calls Tryz.prog f #[.pointer (some ⟨eb, 0, none⟩), .agg #[.string wd, .slice A n c]] w (fun e w' => ∃ M2, e = .returned (.tuple #[]) ∧ φ M2 ∧ Ok w0 (M2 ++ Fr) w')) :
  ∀ w, Ok w0 M1 w → Calls Tryz.prog 63 #[.pointer (some ⟨eb, 0, none⟩), .string line] w (fun e w' => ∃ M2, e = .returned (.int .i64 0) ∧ φ M2 ∧ Ok w0 M2 w') := by
 refine rA (vs := [_, _]) Tryz.func63 rfl Tryz.ntmps63 rfl (aE (aA (te (bO aT1 (l := [.int .i64 0]) rfl rfl fun b4 => (aF (Tr.keep (env' := [(0, _), (1, _), (4, _)]) ⟨rfl, rfl, rfl, trivial⟩ ?_))))))
 refine aB (aE (aA (tv (bG rfl rfl) (te (aE7 rfl (aF ?_))))))
 refine Tr.keep (env' := [(0, _), (1, _), (4, _)]) ⟨rfl, rfl, rfl, trivial⟩ (aB (aE (aE (aA (tv (aC rfl) ?_)))))
 refine tv (eO Tryz.underlying9 rfl) (tv (fC rfl rfl) (aF (Tr.keep (env' := [(0, _), (1, _), (4, _), (12, _)]) ⟨rfl, rfl, rfl, rfl, trivial⟩ (aB (aR (mY (by simp; omega)) ?_)))))
 refine aO (aB (aE (aA (te (bO aT2 (l := [.slice none 0 0]) rfl rfl fun b5 => (aF ?_))))))
 refine Tr.keep (env' := [(0, _), (1, _), (4, _), (5, _)]) ⟨rfl, rfl, rfl, rfl, trivial⟩ (aB (aE (aE (aA (tv (aC rfl) ?_)))))
 refine te (bP aS8 rfl rfl rfl rfl (aH8 line) fun lb _ => (aF (Tr.keep (env' := [(0, _), (4, _), (5, _), (14, _)]) ⟨rfl, rfl, rfl, rfl, trivial⟩ (aB (aX (Tr.keep (env' := [(0, _), (4, _), (5, _), (14, _)]) ⟨rfl, rfl, rfl, rfl, trivial⟩ ?_))))))
 refine jJ rfl aT0 (dG) (fun _ => rfl) (by decide) (cT line) (fun pre (z : (Value × List Ent) × ByteArray) => Own 9 1 z.1.1 (pre.map dG) z.1.2) (fun z : (Value × List Ent) × ByteArray => cel lb 9 [.string z.2] :: (z.1.2 ++ (cel b5 58 [z.1.1] :: cel b4 41 [.int .i64 0] :: M1))) (((.slice none 0 0, []), line)) (Own.nil _ _) rfl ?_ ?_ ?_
 ·exact fun l r Fr hy => yF (σ := Value × List Ent) (inv := fun pre z => Own 9 1 z.1 (pre.map dG) z.2) (Me := fun z => z.2 ++ (cel b5 58 [z.1] :: cel b4 41 [.int .i64 0] :: M1)) line (by omega) hy (.slice none 0 0, []) (Own.nil _ _)
 ·intro l rr Fr pre y post hx z hz
  obtain ⟨⟨v, E⟩, ln⟩ := z
  dsimp only at hz ⊢
  have hbb : pre.length ≤ 200 := by
   have h8 : (cT line).length ≤ line.size + 1 := gJ 32 line.size line
   rw [hx] at h8
   simp at h8
   omega
  refine Tr.keep (env' := [(5, _), (15, _)]) ⟨rfl, rfl, trivial⟩ (eE (cJ (aD rfl) rfl (fZ (Tr.keep (env' := [(5, _), (6, _), (15, _)]) ⟨rfl, rfl, rfl, trivial⟩ (aB ?_)))))
  refine oB .here (nZ (eE (cJ (aG gU rfl (aK (.tail _ (List.mem_append_right _ (.tail _ (List.mem_append_right _ (.head _))))) rfl)) rfl (cJ (aC rfl) rfl (gR rfl (bN (E := 9) (l := dG y) rfl (fun w => by kernel_rfl) rfl fun b18 => ?_))))))
  refine gR rfl (fN Tryz.underlying58 bJ9 rfl (by decide) rfl rfl hz (pk .here (mH (.there (.right (.there .here))) (.refl _))) rfl (by simp [dG, Value.oneCell']) (by simp; omega) (by simp [maxLen]; omega) rfl fun v2 E2 hO2 => (gR rfl (bR bK1 rfl rfl (Own.one (by assumption)) .zero (.right (.there (.right (.there .here)))) (fZ (Tr.keep (env' := []) trivial (cX (fV (.right .here) (fun w hw => ?_))))))))
  exact ⟨rfl, ((v2, E2), ln), by simpa using hO2, Ok.sub (hw.perm (pk (.right .here) (mH (.right .here) (pk (.right .here) (mH .here (pk .here (pk .here (.refl _)))))))) (.refl _)⟩
 ·intro D z hz
  obtain ⟨⟨v, E⟩, ln⟩ := z
  dsimp only at hz ⊢
  rw [hwd] at hz
  obtain ⟨sW, hv, hE, hcW⟩ := aI5 (n := ws.length + 1) hz (by simp) (by omega)
  subst hv hE
  have hwl : ws.length ≤ 200 := by
   have h8 : (cT line).length ≤ line.size + 1 := gJ 32 line.size line
   rw [hwd] at h8
   simp at h8
   omega
  show Tr w0 _ _ _ (jV D :: cel lb 9 [.string ln] :: cel sW.b 9 (.string wd :: (bT (ws.map dG) ++ sW.sp)) :: cel b5 58 [.slice (some ⟨sW.b, 0, none⟩) (ws.length + 1) sW.c] :: cel b4 41 [.int .i64 0] :: M1) _
  refine cX (aB (aE (cI cK rfl (dL 0 rfl (by kernel_rfl) (by kernel_rfl) (by kernel_rfl) (.then (.bodyM rfl rfl)) (.refl _) rfl (aC rfl) (dL 2 rfl (by kernel_rfl) (by kernel_rfl) (by kernel_rfl) (.then (.bodyM rfl rfl)) (.refl _) rfl (aG gU rfl (aK (.tail _ (.tail _ (.tail _ (.head _)))) rfl)) ?_)))))
  refine dL 3 rfl (by kernel_rfl) (by kernel_rfl) (by kernel_rfl) (.then (.bodyM rfl rfl)) (.refl _) rfl (dE (j := 0) Tryz.underlying58 oI rfl rfl rfl (by omega)) (dL 4 rfl (by kernel_rfl) (by kernel_rfl) (by kernel_rfl) (.then (.bodyM rfl rfl)) (.refl _) rfl (aG iP rfl (aK (.tail _ (.tail _ (.head _))) rfl)) (de 1 rfl (bP aS9 rfl rfl rfl rfl (aI0 eb) fun vb _ => (aU (.cons _ (.refl _)) (de 5 rfl (iK (fF (v' := .tuple #[.func (.func f) #[.pointer (some ⟨eb, 0, none⟩)] #[], .bool true]) (pJ (wd) Tryz.underlying232 dD aI4 rfl rfl (.head _)) (by rw [hget]; rfl)) rfl (aU (.cons _ (.refl _)) ?_)))))))
  refine dL 6 rfl (by kernel_rfl) (by kernel_rfl) (by kernel_rfl) (.then (.bodyM rfl rfl)) (.cons _ (.refl _)) rfl (aC rfl) (dL 7 rfl (by kernel_rfl) (by kernel_rfl) (by kernel_rfl) (.then (.bodyM rfl rfl)) (.cons _ (.refl _)) rfl (bA rfl rfl) (dL 8 rfl (by kernel_rfl) (by kernel_rfl) (by kernel_rfl) (.then (.bodyM rfl rfl)) (.cons _ (.refl _)) rfl (bA rfl rfl) (dL 9 rfl (by kernel_rfl) (by kernel_rfl) (by kernel_rfl) (.then (.bodyM rfl rfl)) (.cons _ (.refl _)) rfl (aD rfl) (dL 10 rfl (by kernel_rfl) (by kernel_rfl) (by kernel_rfl) (.then (.bodyM rfl rfl)) (.cons _ (.refl _)) rfl (aD rfl) (bQ (by kernel_rfl) ?_)))))
  refine Tr.keep (env' := [(4, _), (5, _), (7, _), (8, _)]) ⟨rfl, rfl, rfl, rfl, trivial⟩ (aB (aE (aE (aA (tv (aC rfl) ?_)))))
  refine tv (bF rfl) (aF (Tr.keep (env' := [(4, _), (5, _), (7, _), (30, _)]) ⟨rfl, rfl, rfl, rfl, trivial⟩ (aB (aR rfl (aO ?_)))))
  refine aB (aE ?_)
  have hW : cel sW.b 9 (bT ((wd :: ws).map dG) ++ sW.sp) ∈ M1 ++ [kE vb oC (dY eb), jV D, cel lb 9 [.string ln], cel sW.b 9 (.string wd :: (bT (ws.map dG) ++ sW.sp)), cel b5 58 [.slice (some ⟨sW.b, 0, none⟩) (ws.length + 1) sW.c], cel b4 41 [.int .i64 0]] := List.mem_append_right _ (by simp [bT, dG])
  obtain ⟨A, hA, hrd⟩ := (SlRd.of_cel (w0 := w0) (M := M1 ++ [kE vb oC (dY eb), jV D, cel lb 9 [.string ln], cel sW.b 9 (.string wd :: (bT (ws.map dG) ++ sW.sp)), cel b5 58 [.slice (some ⟨sW.b, 0, none⟩) (ws.length + 1) sW.c], cel b4 41 [.int .i64 0]]) (T := 9) (z := 1) (n := ws.length + 1) (b := sW.b) (xs := (wd :: ws).map dG) (sp := sW.sp) hW (by simp) (by simp [dG]) (by omega)).cut 1 (by omega) hcW
  simp only [List.map_cons, List.drop_succ_cons, List.drop_zero] at hrd
  refine dV (.cons_cons _ (.cons_cons _ (.cons_cons _ (.cons_cons _ (.cons_cons _ (.cons_cons _ (List.nil_sublist _))))))) cK rfl (dL 0 rfl (by kernel_rfl) (by kernel_rfl) (by kernel_rfl) (.then (.bodyM rfl rfl)) (.cons_cons _ (.cons_cons _ (.cons_cons _ (.cons_cons _ (.cons_cons _ (.cons_cons _ (List.nil_sublist _))))))) rfl (aC rfl) (dL 1 rfl (by kernel_rfl) (by kernel_rfl) (by kernel_rfl) (.then (.bodyM rfl rfl)) (.cons_cons _ (.cons_cons _ (.cons_cons _ (.cons_cons _ (.cons_cons _ (.cons_cons _ (List.nil_sublist _))))))) rfl (aG gU rfl (aK (.tail _ (.tail _ (.tail _ (.tail _ (.head _))))) rfl)) (dL 2 rfl (by kernel_rfl) (by kernel_rfl) (by kernel_rfl) (.then (.bodyM rfl rfl)) (.cons_cons _ (.cons_cons _ (.cons_cons _ (.cons_cons _ (.cons_cons _ (.cons_cons _ (List.nil_sublist _))))))) rfl (dE (j := 0) Tryz.underlying58 oI rfl rfl rfl (by omega)) (dL 3 rfl (by kernel_rfl) (by kernel_rfl) (by kernel_rfl) (.then (.bodyM rfl rfl)) (.cons_cons _ (.cons_cons _ (.cons_cons _ (.cons_cons _ (.cons_cons _ (.cons_cons _ (List.nil_sublist _))))))) rfl (aG iP rfl (aK (.tail _ (.tail _ (.tail _ (.head _)))) rfl)) (dL 4 rfl (by kernel_rfl) (by kernel_rfl) (by kernel_rfl) (.then (.bodyM rfl rfl)) (.cons_cons _ (.cons_cons _ (.cons_cons _ (.cons_cons _ (.cons_cons _ (.cons_cons _ (List.nil_sublist _))))))) rfl (aG gU rfl (aK (.tail _ (.tail _ (.tail _ (.tail _ (.head _))))) rfl)) ?_)))))
  refine dL 5 rfl (by kernel_rfl) (by kernel_rfl) (by kernel_rfl) (.then (.bodyM rfl rfl)) (.cons_cons _ (.cons_cons _ (.cons_cons _ (.cons_cons _ (.cons_cons _ (.cons_cons _ (List.nil_sublist _))))))) rfl (fF (v' := .slice A (ws.length + 1 - 1) (sW.c - 1)) (aS1 1 Tryz.underlying58 oI rfl rfl rfl (by omega)) hA) (dL 6 rfl (by kernel_rfl) (by kernel_rfl) (by kernel_rfl) (.then (.bodyM rfl rfl)) (.cons_cons _ (.cons_cons _ (.cons_cons _ (.cons_cons _ (.cons_cons _ (.cons_cons _ (List.nil_sublist _))))))) rfl (bU rfl (v := .agg #[.string wd, .slice A (ws.length + 1 - 1) (sW.c - 1)]) (fun w => by kernel_rfl)) (de 7 rfl (bP he rfl rfl rfl rfl (fun w hw => hcall A (ws.length + 1 - 1) (sW.c - 1) [kE vb oC (dY eb), jV D, cel lb 9 [.string ln], cel sW.b 9 (.string wd :: (bT (ws.map dG) ++ sW.sp)), cel b5 58 [.slice (some ⟨sW.b, 0, none⟩) (ws.length + 1) sW.c], cel b4 41 [.int .i64 0]] (by omega) hrd w (hw.perm (List.perm_append_comm : ([kE vb oC (dY eb), jV D, cel lb 9 [.string ln], cel sW.b 9 (.string wd :: (bT (ws.map dG) ++ sW.sp)), cel b5 58 [.slice (some ⟨sW.b, 0, none⟩) (ws.length + 1) sW.c], cel b4 41 [.int .i64 0]] ++ M1).Perm (M1 ++ [kE vb oC (dY eb), jV D, cel lb 9 [.string ln], cel sW.b 9 (.string wd :: (bT (ws.map dG) ++ sW.sp)), cel b5 58 [.slice (some ⟨sW.b, 0, none⟩) (ws.length + 1) sW.c], cel b4 41 [.int .i64 0]])))) fun M2 hM2 => (aU (List.Sublist.trans (.refl _) (List.sublist_append_right _ _)) (bQ (by kernel_rfl) (Tr.keep (env' := [(4, _)]) ⟨rfl, trivial⟩ ?_))))))
  refine aB (aE (aA (te (bR bK0 rfl rfl rfl .zero (.right (.there (.there (.there (.there (.there .here)))))) (aF (Tr.keep (env' := [(4, _)]) ⟨rfl, trivial⟩ ?_))))))
  refine aB (aQ ?_)
  refine aV6 rfl aW9 rfl aS7 (pk (.right (.there .here)) (.refl _)) (aK (List.mem_append_right _ (.tail _ (.tail _ (.tail _ (.tail _ (.head _)))))) rfl) aX1 (fun w hw => ⟨M2, rfl, hM2, hw.sub (List.sublist_append_left _ _)⟩)
theorem bA9 {eb : Nat} {line wd : ByteArray} {ws : List ByteArray} {M1 : List Ent} {f : Nat} {x : Int} (hlen : line.size ≤ 200) (hwd : cT line = wd :: ws) (hget : gH wd (dY eb) = some (.func (.func f) #[.pointer (some ⟨eb, 0, none⟩)] #[])) (he : aV Tryz.prog f) (hcall : ∀ A n c Fr, n = ws.length → SlRd w0 (M1 ++ Fr) 1 A n (ws.map dG) → ∀ w, Ok w0 (M1 ++ Fr) w → Calls Tryz.prog f #[.pointer (some ⟨eb, 0, none⟩), .agg #[.string wd, .slice A n c]] w (fun e w' => e = .panicked (jQ x) ∧ Ok w0 (M1 ++ Fr) w')) :
  ∀ w, Ok w0 M1 w → Calls Tryz.prog 63 #[.pointer (some ⟨eb, 0, none⟩), .string line] w (fun e w' => e = .returned (.int .i64 x) ∧ Ok w0 M1 w') := by
 refine rA (vs := [_, _]) Tryz.func63 rfl Tryz.ntmps63 rfl (aE (aA (te (bO aT1 (l := [.int .i64 0]) rfl rfl fun b4 => (aF (Tr.keep (env' := [(0, _), (1, _), (4, _)]) ⟨rfl, rfl, rfl, trivial⟩ ?_))))))
 refine aB (aE (aA (tv (bG rfl rfl) (te (aE7 rfl (aF ?_))))))
 refine Tr.keep (env' := [(0, _), (1, _), (4, _)]) ⟨rfl, rfl, rfl, trivial⟩ (aB (aE (aE (aA (tv (aC rfl) ?_)))))
 refine tv (eO Tryz.underlying9 rfl) (tv (fC rfl rfl) (aF (Tr.keep (env' := [(0, _), (1, _), (4, _), (12, _)]) ⟨rfl, rfl, rfl, rfl, trivial⟩ (aB (aR (mY (by simp; omega)) ?_)))))
 refine aO (aB (aE (aA (te (bO aT2 (l := [.slice none 0 0]) rfl rfl fun b5 => (aF ?_))))))
 refine Tr.keep (env' := [(0, _), (1, _), (4, _), (5, _)]) ⟨rfl, rfl, rfl, rfl, trivial⟩ (aB (aE (aE (aA (tv (aC rfl) ?_)))))
 refine te (bP aS8 rfl rfl rfl rfl (aH8 line) fun lb _ => (aF (Tr.keep (env' := [(0, _), (4, _), (5, _), (14, _)]) ⟨rfl, rfl, rfl, rfl, trivial⟩ (aB (aX (Tr.keep (env' := [(0, _), (4, _), (5, _), (14, _)]) ⟨rfl, rfl, rfl, rfl, trivial⟩ ?_))))))
 refine jJ rfl aT0 (dG) (fun _ => rfl) (by decide) (cT line) (fun pre (z : (Value × List Ent) × ByteArray) => Own 9 1 z.1.1 (pre.map dG) z.1.2) (fun z : (Value × List Ent) × ByteArray => cel lb 9 [.string z.2] :: (z.1.2 ++ (cel b5 58 [z.1.1] :: cel b4 41 [.int .i64 0] :: M1))) (((.slice none 0 0, []), line)) (Own.nil _ _) rfl ?_ ?_ ?_
 ·exact fun l r Fr hy => yF (σ := Value × List Ent) (inv := fun pre z => Own 9 1 z.1 (pre.map dG) z.2) (Me := fun z => z.2 ++ (cel b5 58 [z.1] :: cel b4 41 [.int .i64 0] :: M1)) line (by omega) hy (.slice none 0 0, []) (Own.nil _ _)
 ·intro l rr Fr pre y post hx z hz
  obtain ⟨⟨v, E⟩, ln⟩ := z
  dsimp only at hz ⊢
  have hbb : pre.length ≤ 200 := by
   have h8 : (cT line).length ≤ line.size + 1 := gJ 32 line.size line
   rw [hx] at h8
   simp at h8
   omega
  refine Tr.keep (env' := [(5, _), (15, _)]) ⟨rfl, rfl, trivial⟩ (eE (cJ (aD rfl) rfl (fZ (Tr.keep (env' := [(5, _), (6, _), (15, _)]) ⟨rfl, rfl, rfl, trivial⟩ (aB ?_)))))
  refine oB .here (nZ (eE (cJ (aG gU rfl (aK (.tail _ (List.mem_append_right _ (.tail _ (List.mem_append_right _ (.head _))))) rfl)) rfl (cJ (aC rfl) rfl (gR rfl (bN (E := 9) (l := dG y) rfl (fun w => by kernel_rfl) rfl fun b18 => ?_))))))
  refine gR rfl (fN Tryz.underlying58 bJ9 rfl (by decide) rfl rfl hz (pk .here (mH (.there (.right (.there .here))) (.refl _))) rfl (by simp [dG, Value.oneCell']) (by simp; omega) (by simp [maxLen]; omega) rfl fun v2 E2 hO2 => (gR rfl (bR bK1 rfl rfl (Own.one (by assumption)) .zero (.right (.there (.right (.there .here)))) (fZ (Tr.keep (env' := []) trivial (cX (fV (.right .here) (fun w hw => ?_))))))))
  exact ⟨rfl, ((v2, E2), ln), by simpa using hO2, Ok.sub (hw.perm (pk (.right .here) (mH (.right .here) (pk (.right .here) (mH .here (pk .here (pk .here (.refl _)))))))) (.refl _)⟩
 ·intro D z hz
  obtain ⟨⟨v, E⟩, ln⟩ := z
  dsimp only at hz ⊢
  rw [hwd] at hz
  obtain ⟨sW, hv, hE, hcW⟩ := aI5 (n := ws.length + 1) hz (by simp) (by omega)
  subst hv hE
  have hwl : ws.length ≤ 200 := by
   have h8 : (cT line).length ≤ line.size + 1 := gJ 32 line.size line
   rw [hwd] at h8
   simp at h8
   omega
  show Tr w0 _ _ _ (jV D :: cel lb 9 [.string ln] :: cel sW.b 9 (.string wd :: (bT (ws.map dG) ++ sW.sp)) :: cel b5 58 [.slice (some ⟨sW.b, 0, none⟩) (ws.length + 1) sW.c] :: cel b4 41 [.int .i64 0] :: M1) _
  refine cX (aB (aE (cI cK rfl (dL 0 rfl (by kernel_rfl) (by kernel_rfl) (by kernel_rfl) (.then (.bodyM rfl rfl)) (.refl _) rfl (aC rfl) (dL 2 rfl (by kernel_rfl) (by kernel_rfl) (by kernel_rfl) (.then (.bodyM rfl rfl)) (.refl _) rfl (aG gU rfl (aK (.tail _ (.tail _ (.tail _ (.head _)))) rfl)) ?_)))))
  refine dL 3 rfl (by kernel_rfl) (by kernel_rfl) (by kernel_rfl) (.then (.bodyM rfl rfl)) (.refl _) rfl (dE (j := 0) Tryz.underlying58 oI rfl rfl rfl (by omega)) (dL 4 rfl (by kernel_rfl) (by kernel_rfl) (by kernel_rfl) (.then (.bodyM rfl rfl)) (.refl _) rfl (aG iP rfl (aK (.tail _ (.tail _ (.head _))) rfl)) (de 1 rfl (bP aS9 rfl rfl rfl rfl (aI0 eb) fun vb _ => (aU (.cons _ (.refl _)) (de 5 rfl (iK (fF (v' := .tuple #[.func (.func f) #[.pointer (some ⟨eb, 0, none⟩)] #[], .bool true]) (pJ (wd) Tryz.underlying232 dD aI4 rfl rfl (.head _)) (by rw [hget]; rfl)) rfl (aU (.cons _ (.refl _)) ?_)))))))
  refine dL 6 rfl (by kernel_rfl) (by kernel_rfl) (by kernel_rfl) (.then (.bodyM rfl rfl)) (.cons _ (.refl _)) rfl (aC rfl) (dL 7 rfl (by kernel_rfl) (by kernel_rfl) (by kernel_rfl) (.then (.bodyM rfl rfl)) (.cons _ (.refl _)) rfl (bA rfl rfl) (dL 8 rfl (by kernel_rfl) (by kernel_rfl) (by kernel_rfl) (.then (.bodyM rfl rfl)) (.cons _ (.refl _)) rfl (bA rfl rfl) (dL 9 rfl (by kernel_rfl) (by kernel_rfl) (by kernel_rfl) (.then (.bodyM rfl rfl)) (.cons _ (.refl _)) rfl (aD rfl) (dL 10 rfl (by kernel_rfl) (by kernel_rfl) (by kernel_rfl) (.then (.bodyM rfl rfl)) (.cons _ (.refl _)) rfl (aD rfl) (bQ (by kernel_rfl) ?_)))))
  refine Tr.keep (env' := [(4, _), (5, _), (7, _), (8, _)]) ⟨rfl, rfl, rfl, rfl, trivial⟩ (aB (aE (aE (aA (tv (aC rfl) ?_)))))
  refine tv (bF rfl) (aF (Tr.keep (env' := [(4, _), (5, _), (7, _), (30, _)]) ⟨rfl, rfl, rfl, rfl, trivial⟩ (aB (aR rfl (aO ?_)))))
  refine aB (aE ?_)
  have hW : cel sW.b 9 (bT ((wd :: ws).map dG) ++ sW.sp) ∈ M1 ++ [kE vb oC (dY eb), jV D, cel lb 9 [.string ln], cel sW.b 9 (.string wd :: (bT (ws.map dG) ++ sW.sp)), cel b5 58 [.slice (some ⟨sW.b, 0, none⟩) (ws.length + 1) sW.c], cel b4 41 [.int .i64 0]] := List.mem_append_right _ (by simp [bT, dG])
  obtain ⟨A, hA, hrd⟩ := (SlRd.of_cel (w0 := w0) (M := M1 ++ [kE vb oC (dY eb), jV D, cel lb 9 [.string ln], cel sW.b 9 (.string wd :: (bT (ws.map dG) ++ sW.sp)), cel b5 58 [.slice (some ⟨sW.b, 0, none⟩) (ws.length + 1) sW.c], cel b4 41 [.int .i64 0]]) (T := 9) (z := 1) (n := ws.length + 1) (b := sW.b) (xs := (wd :: ws).map dG) (sp := sW.sp) hW (by simp) (by simp [dG]) (by omega)).cut 1 (by omega) hcW
  simp only [List.map_cons, List.drop_succ_cons, List.drop_zero] at hrd
  refine dV (.cons_cons _ (.cons_cons _ (.cons_cons _ (.cons_cons _ (.cons_cons _ (.cons_cons _ (List.nil_sublist _))))))) cK rfl (dL 0 rfl (by kernel_rfl) (by kernel_rfl) (by kernel_rfl) (.then (.bodyM rfl rfl)) (.cons_cons _ (.cons_cons _ (.cons_cons _ (.cons_cons _ (.cons_cons _ (.cons_cons _ (List.nil_sublist _))))))) rfl (aC rfl) (dL 1 rfl (by kernel_rfl) (by kernel_rfl) (by kernel_rfl) (.then (.bodyM rfl rfl)) (.cons_cons _ (.cons_cons _ (.cons_cons _ (.cons_cons _ (.cons_cons _ (.cons_cons _ (List.nil_sublist _))))))) rfl (aG gU rfl (aK (.tail _ (.tail _ (.tail _ (.tail _ (.head _))))) rfl)) (dL 2 rfl (by kernel_rfl) (by kernel_rfl) (by kernel_rfl) (.then (.bodyM rfl rfl)) (.cons_cons _ (.cons_cons _ (.cons_cons _ (.cons_cons _ (.cons_cons _ (.cons_cons _ (List.nil_sublist _))))))) rfl (dE (j := 0) Tryz.underlying58 oI rfl rfl rfl (by omega)) (dL 3 rfl (by kernel_rfl) (by kernel_rfl) (by kernel_rfl) (.then (.bodyM rfl rfl)) (.cons_cons _ (.cons_cons _ (.cons_cons _ (.cons_cons _ (.cons_cons _ (.cons_cons _ (List.nil_sublist _))))))) rfl (aG iP rfl (aK (.tail _ (.tail _ (.tail _ (.head _)))) rfl)) (dL 4 rfl (by kernel_rfl) (by kernel_rfl) (by kernel_rfl) (.then (.bodyM rfl rfl)) (.cons_cons _ (.cons_cons _ (.cons_cons _ (.cons_cons _ (.cons_cons _ (.cons_cons _ (List.nil_sublist _))))))) rfl (aG gU rfl (aK (.tail _ (.tail _ (.tail _ (.tail _ (.head _))))) rfl)) ?_)))))
  refine dL 5 rfl (by kernel_rfl) (by kernel_rfl) (by kernel_rfl) (.then (.bodyM rfl rfl)) (.cons_cons _ (.cons_cons _ (.cons_cons _ (.cons_cons _ (.cons_cons _ (.cons_cons _ (List.nil_sublist _))))))) rfl (fF (v' := .slice A (ws.length + 1 - 1) (sW.c - 1)) (aS1 1 Tryz.underlying58 oI rfl rfl rfl (by omega)) hA) (dL 6 rfl (by kernel_rfl) (by kernel_rfl) (by kernel_rfl) (.then (.bodyM rfl rfl)) (.cons_cons _ (.cons_cons _ (.cons_cons _ (.cons_cons _ (.cons_cons _ (.cons_cons _ (List.nil_sublist _))))))) rfl (bU rfl (v := .agg #[.string wd, .slice A (ws.length + 1 - 1) (sW.c - 1)]) (fun w => by kernel_rfl)) (de 7 rfl (kU he rfl rfl rfl (fun w hw => hcall A (ws.length + 1 - 1) (sW.c - 1) [kE vb oC (dY eb), jV D, cel lb 9 [.string ln], cel sW.b 9 (.string wd :: (bT (ws.map dG) ++ sW.sp)), cel b5 58 [.slice (some ⟨sW.b, 0, none⟩) (ws.length + 1) sW.c], cel b4 41 [.int .i64 0]] (by omega) hrd w (hw.perm (List.perm_append_comm : ([kE vb oC (dY eb), jV D, cel lb 9 [.string ln], cel sW.b 9 (.string wd :: (bT (ws.map dG) ++ sW.sp)), cel b5 58 [.slice (some ⟨sW.b, 0, none⟩) (ws.length + 1) sW.c], cel b4 41 [.int .i64 0]] ++ M1).Perm (M1 ++ [kE vb oC (dY eb), jV D, cel lb 9 [.string ln], cel sW.b 9 (.string wd :: (bT (ws.map dG) ++ sW.sp)), cel b5 58 [.slice (some ⟨sW.b, 0, none⟩) (ws.length + 1) sW.c], cel b4 41 [.int .i64 0]])))) (gZ ?_))))
  refine bF0 (M' := M1 ++ [kE vb oC (dY eb), cel lb 9 [.string ln], cel sW.b 9 (.string wd :: (bT (ws.map dG) ++ sW.sp)), cel b5 58 [.slice (some ⟨sW.b, 0, none⟩) (ws.length + 1) sW.c], cel b4 41 [.int .i64 0]]) (M2 := M1 ++ [kE vb oC (dY eb), cel lb 9 [.string ln], cel sW.b 9 (.string wd :: (bT (ws.map dG) ++ sW.sp)), cel b5 58 [.slice (some ⟨sW.b, 0, none⟩) (ws.length + 1) sW.c], cel b4 41 [.int .i64 x]]) rfl aW9 rfl aS7 (pk (.right (.there .here)) (.refl _)) (aK (List.mem_append_right _ (.tail _ (.tail _ (.tail _ (.tail _ (.head _)))))) rfl) (fun w hw => bA8 (y := 0) (L := []) (.right (.there (.there (.there (.there .here))))) w hw) (fun w hw => ⟨rfl, hw.sub (List.sublist_append_left _ _)⟩)
theorem aT3 {eb : Nat} {line wd : ByteArray} {ws : List ByteArray} {M1 : List Ent}  (hlen : line.size ≤ 200) (hwd : cT line = wd :: ws) (hget : gH wd (dY eb) = none)  :
  ∀ w, Ok w0 M1 w → Calls Tryz.prog 63 #[.pointer (some ⟨eb, 0, none⟩), .string line] w (fun e w' => e = .returned (.int .i64 3) ∧ Ok w0 M1 w') := by
 refine rA (vs := [_, _]) Tryz.func63 rfl Tryz.ntmps63 rfl (aE (aA (te (bO aT1 (l := [.int .i64 0]) rfl rfl fun b4 => (aF (Tr.keep (env' := [(0, _), (1, _), (4, _)]) ⟨rfl, rfl, rfl, trivial⟩ ?_))))))
 refine aB (aE (aA (tv (bG rfl rfl) (te (aE7 rfl (aF ?_))))))
 refine Tr.keep (env' := [(0, _), (1, _), (4, _)]) ⟨rfl, rfl, rfl, trivial⟩ (aB (aE (aE (aA (tv (aC rfl) ?_)))))
 refine tv (eO Tryz.underlying9 rfl) (tv (fC rfl rfl) (aF (Tr.keep (env' := [(0, _), (1, _), (4, _), (12, _)]) ⟨rfl, rfl, rfl, rfl, trivial⟩ (aB (aR (mY (by simp; omega)) ?_)))))
 refine aO (aB (aE (aA (te (bO aT2 (l := [.slice none 0 0]) rfl rfl fun b5 => (aF ?_))))))
 refine Tr.keep (env' := [(0, _), (1, _), (4, _), (5, _)]) ⟨rfl, rfl, rfl, rfl, trivial⟩ (aB (aE (aE (aA (tv (aC rfl) ?_)))))
 refine te (bP aS8 rfl rfl rfl rfl (aH8 line) fun lb _ => (aF (Tr.keep (env' := [(0, _), (4, _), (5, _), (14, _)]) ⟨rfl, rfl, rfl, rfl, trivial⟩ (aB (aX (Tr.keep (env' := [(0, _), (4, _), (5, _), (14, _)]) ⟨rfl, rfl, rfl, rfl, trivial⟩ ?_))))))
 refine jJ rfl aT0 (dG) (fun _ => rfl) (by decide) (cT line) (fun pre (z : (Value × List Ent) × ByteArray) => Own 9 1 z.1.1 (pre.map dG) z.1.2) (fun z : (Value × List Ent) × ByteArray => cel lb 9 [.string z.2] :: (z.1.2 ++ (cel b5 58 [z.1.1] :: cel b4 41 [.int .i64 0] :: M1))) (((.slice none 0 0, []), line)) (Own.nil _ _) rfl ?_ ?_ ?_
 ·exact fun l r Fr hy => yF (σ := Value × List Ent) (inv := fun pre z => Own 9 1 z.1 (pre.map dG) z.2) (Me := fun z => z.2 ++ (cel b5 58 [z.1] :: cel b4 41 [.int .i64 0] :: M1)) line (by omega) hy (.slice none 0 0, []) (Own.nil _ _)
 ·intro l rr Fr pre y post hx z hz
  obtain ⟨⟨v, E⟩, ln⟩ := z
  dsimp only at hz ⊢
  have hbb : pre.length ≤ 200 := by
   have h8 : (cT line).length ≤ line.size + 1 := gJ 32 line.size line
   rw [hx] at h8
   simp at h8
   omega
  refine Tr.keep (env' := [(5, _), (15, _)]) ⟨rfl, rfl, trivial⟩ (eE (cJ (aD rfl) rfl (fZ (Tr.keep (env' := [(5, _), (6, _), (15, _)]) ⟨rfl, rfl, rfl, trivial⟩ (aB ?_)))))
  refine oB .here (nZ (eE (cJ (aG gU rfl (aK (.tail _ (List.mem_append_right _ (.tail _ (List.mem_append_right _ (.head _))))) rfl)) rfl (cJ (aC rfl) rfl (gR rfl (bN (E := 9) (l := dG y) rfl (fun w => by kernel_rfl) rfl fun b18 => ?_))))))
  refine gR rfl (fN Tryz.underlying58 bJ9 rfl (by decide) rfl rfl hz (pk .here (mH (.there (.right (.there .here))) (.refl _))) rfl (by simp [dG, Value.oneCell']) (by simp; omega) (by simp [maxLen]; omega) rfl fun v2 E2 hO2 => (gR rfl (bR bK1 rfl rfl (Own.one (by assumption)) .zero (.right (.there (.right (.there .here)))) (fZ (Tr.keep (env' := []) trivial (cX (fV (.right .here) (fun w hw => ?_))))))))
  exact ⟨rfl, ((v2, E2), ln), by simpa using hO2, Ok.sub (hw.perm (pk (.right .here) (mH (.right .here) (pk (.right .here) (mH .here (pk .here (pk .here (.refl _)))))))) (.refl _)⟩
 ·intro D z hz
  obtain ⟨⟨v, E⟩, ln⟩ := z
  dsimp only at hz ⊢
  rw [hwd] at hz
  obtain ⟨sW, hv, hE, hcW⟩ := aI5 (n := ws.length + 1) hz (by simp) (by omega)
  subst hv hE
  have hwl : ws.length ≤ 200 := by
   have h8 : (cT line).length ≤ line.size + 1 := gJ 32 line.size line
   rw [hwd] at h8
   simp at h8
   omega
  show Tr w0 _ _ _ (jV D :: cel lb 9 [.string ln] :: cel sW.b 9 (.string wd :: (bT (ws.map dG) ++ sW.sp)) :: cel b5 58 [.slice (some ⟨sW.b, 0, none⟩) (ws.length + 1) sW.c] :: cel b4 41 [.int .i64 0] :: M1) _
  refine cX (aB (aE (cI cK rfl (dL 0 rfl (by kernel_rfl) (by kernel_rfl) (by kernel_rfl) (.then (.bodyM rfl rfl)) (.refl _) rfl (aC rfl) (dL 2 rfl (by kernel_rfl) (by kernel_rfl) (by kernel_rfl) (.then (.bodyM rfl rfl)) (.refl _) rfl (aG gU rfl (aK (.tail _ (.tail _ (.tail _ (.head _)))) rfl)) ?_)))))
  refine dL 3 rfl (by kernel_rfl) (by kernel_rfl) (by kernel_rfl) (.then (.bodyM rfl rfl)) (.refl _) rfl (dE (j := 0) Tryz.underlying58 oI rfl rfl rfl (by omega)) (dL 4 rfl (by kernel_rfl) (by kernel_rfl) (by kernel_rfl) (.then (.bodyM rfl rfl)) (.refl _) rfl (aG iP rfl (aK (.tail _ (.tail _ (.head _))) rfl)) (de 1 rfl (bP aS9 rfl rfl rfl rfl (aI0 eb) fun vb _ => (aU (.cons _ (.refl _)) (de 5 rfl (iK (fF (v' := .tuple #[.nilFunc, .bool false]) (pJ (wd) Tryz.underlying232 dD aI4 rfl rfl (.head _)) (by rw [hget]; rfl)) rfl (aU (.cons _ (.refl _)) ?_)))))))
  refine dL 6 rfl (by kernel_rfl) (by kernel_rfl) (by kernel_rfl) (.then (.bodyM rfl rfl)) (.cons _ (.refl _)) rfl (aC rfl) (dL 7 rfl (by kernel_rfl) (by kernel_rfl) (by kernel_rfl) (.then (.bodyM rfl rfl)) (.cons _ (.refl _)) rfl (bA rfl rfl) (dL 8 rfl (by kernel_rfl) (by kernel_rfl) (by kernel_rfl) (.then (.bodyM rfl rfl)) (.cons _ (.refl _)) rfl (bA rfl rfl) (dL 9 rfl (by kernel_rfl) (by kernel_rfl) (by kernel_rfl) (.then (.bodyM rfl rfl)) (.cons _ (.refl _)) rfl (aD rfl) (dL 10 rfl (by kernel_rfl) (by kernel_rfl) (by kernel_rfl) (.then (.bodyM rfl rfl)) (.cons _ (.refl _)) rfl (aD rfl) (bQ (by kernel_rfl) ?_)))))
  refine Tr.keep (env' := [(4, _), (5, _), (7, _), (8, _)]) ⟨rfl, rfl, rfl, rfl, trivial⟩ (aB (aE (aE (aA (tv (aC rfl) ?_)))))
  refine tv (bF rfl) (aF (Tr.keep (env' := [(4, _), (5, _), (7, _), (30, _)]) ⟨rfl, rfl, rfl, rfl, trivial⟩ (aB (bI rfl (aE ?_)))))
  refine aA (te (bR bK0 rfl rfl rfl .zero (.there (.there (.there (.there (.there .here))))) (aF (Tr.keep (env' := [(4, _)]) ⟨rfl, trivial⟩ (aB (aQ ?_))))))
  refine aN ?_
  refine aV6 rfl aW9 rfl aS7 (pk (.there .here) (.refl _)) (aK (.tail _ (.tail _ (.tail _ (.tail _ (.head _))))) rfl) aX1 (fun w hw => ⟨rfl, hw.sub (.cons _ (.cons _ (.cons _ (.cons _ (.cons _ (.refl _))))))⟩)
end
end Go.Proofs.W
set_option linter.unusedVariables false
set_option linter.unusedSimpArgs false
set_option linter.unusedSectionVars false
set_option maxRecDepth 100000
namespace Go.Proofs.W
open Go Go.Sl Go.RowKit Go.Proofs
attribute [local irreducible] Go.Sl.Eff
theorem en_124 : aV Tryz.prog 124 := aL Tryz.func124 (by kernel_rfl) (by kernel_rfl)
theorem iz_109 : (Tryz.prog.info? 109).map (·.size) = some 1 := by kernel_rfl
theorem mP (l : CLine) : l.cells.length = 4 := rfl
section
variable {w0 : World} {M : List Ent}
theorem sQ {A B : Option Addr} {cA cB : Nat} {cls : Int} {xs : List Int} {ls : List CLine} (hA : SlRd w0 M 1 A xs.length (xs.map encI)) (hB : SlRd w0 M 4 B ls.length (ls.map CLine.cells)) (hnA : A ≠ none) (hnB : B ≠ none) (hx : 0 < xs.length ∧ xs.length ≤ 1000) (hl : 0 < ls.length ∧ ls.length ≤ 1000) :
  ∀ w, Ok w0 M w → Calls Tryz.prog 59 #[.agg #[.int .i64 cls, .slice A xs.length cA, .slice B ls.length cB]] w (fun e w' => ∃ y : Sl3 × Sl3, e = .returned (.agg #[.int .i64 cls, y.1.v xs.length, y.2.v ls.length]) ∧ True ∧
   Ok w0 (cel y.1.b 3 (bT (xs.map encI) ++ y.1.sp) :: cel y.2.b 114 (bT (ls.map CLine.cells) ++ y.2.sp) :: M) w') := by
 refine enter (vs := [_]) Tryz.func59 rfl Tryz.ntmps59 rfl (aE (aA (te (cH rfl rfl fun b1 => (te (bO eB (l := [.int .i64 0, .slice none 0 0, .slice none 0 0]) rfl rfl fun b2 => (aF ?_)))))))
 refine Tr.keep (env' := [(1, _), (2, _)]) ⟨rfl, rfl, trivial⟩ (aB (aE (pE 7 (.cons_cons _ (.cons _ (.refl _))) cK rfl (fX 0 rfl (.cons_cons _ (.cons _ (.refl _))) (.refl _) (aI kT rfl) (kv 1 rfl (.refl _) (aG dQ rfl (aK (.tail _ (.head _)) rfl)) ?_)))))
 refine fX 3 rfl (.cons_cons _ (.cons _ (.refl _))) (.refl _) (aI eH rfl) (kv 4 rfl (.refl _) (aG gF rfl (aK (.tail _ (.head _)) rfl)) (eM 2 rfl rfl (by kernel_rfl) (bP pR rfl rfl rfl rfl (fS (hA.sub (.cons _ (.cons _ (.refl _)))) (by simp [encI, Value.oneCell']) (fun h => absurd h hnA) (by omega)) fun x hx => ?_)))
 obtain ⟨vSI, ESI⟩ := x
 obtain ⟨hOSI, _⟩ := hx
 obtain ⟨sSI, hv, hE⟩ := gA (n := xs.length) hOSI (by simp) (by omega)
 dsimp only at hv hE ⊢
 subst hv hE
 show Tr _ _ _ _ (cel sSI.b 3 (bT (xs.map encI) ++ sSI.sp) :: _) _
 refine fQ (by kernel_rfl) (.cons _ (.refl _)) (fX 6 rfl (.cons_cons _ (.cons _ (.refl _))) (.cons _ (.refl _)) (aI kT rfl) (eM 5 rfl rfl (by kernel_rfl) (bP en_124 rfl rfl rfl rfl (aG6 (hB.sub (.cons _ (.cons _ (.cons _ (.refl _))))) (by simp [CLine.cells, Value.oneCell']) (fun h => absurd h hnB) (by omega)) fun x hx => ?_)))
 obtain ⟨vSL, ESL⟩ := x
 obtain ⟨hOSL, _⟩ := hx
 obtain ⟨sSL, hv, hE⟩ := gA (n := ls.length) hOSL (by simp) (by omega)
 dsimp only at hv hE ⊢
 subst hv hE
 show Tr _ _ _ _ (cel sSL.b 114 (bT (ls.map CLine.cells) ++ sSL.sp) :: _) _
 refine fQ (by kernel_rfl) (.cons _ (.cons _ (.refl _))) (eM 7 rfl rfl (by kernel_rfl) (bR lG rfl rfl rfl (.succ .zero) (.there (.there (.there .here))) (eS (by kernel_rfl) (.cons _ (.cons _ (.cons_cons _ (.cons _ (.refl _))))) (eM 8 rfl rfl (by kernel_rfl) (iK (aI eH rfl) rfl (eS (by kernel_rfl) (.cons _ (.cons _ (.cons_cons _ (.cons _ (.refl _))))) (eM 9 rfl rfl (by kernel_rfl) (bR iz_109 rfl rfl rfl (.succ (.succ .zero)) (.there (.there (.there .here))) ?_))))))))
 refine eS (by kernel_rfl) (.cons _ (.cons _ (.cons_cons _ (.cons _ (.refl _))))) (rS (by kernel_rfl) (Tr.keep (env' := [(1, _), (2, _)]) ⟨rfl, rfl, trivial⟩ (aB (aE (aA ?_)))))
 refine tv (aY jP rfl (bL (n := 3) (vs := [_, _, _]) (.tail _ (.tail _ (.tail _ (.head _)))) rfl) rfl) (te (bJ dA rfl rfl (vs := [_, _, _]) rfl rfl (by simp [Value.oneCell']) (.cons .zero (.cons (.succ .zero) (.cons (.succ (.succ .zero)) .nil))) (.there (.there .here)) (aF (Tr.keep (env' := [(2, _)]) ⟨rfl, trivial⟩ (aB (aQ ?_))))))
 refine sP rfl jP rfl (bL (n := 3) (vs := [_, _, _]) (.tail _ (.tail _ (.head _))) rfl) rfl (fun w hw => ?_)
 exact ⟨(sSI, sSL), rfl, trivial, Ok.sub (hw.perm (pk (.there .here) (pk .here (.refl _)))) (.cons_cons _ (.cons_cons _ (.cons _ (.cons _ (.refl _)))))⟩
end
end Go.Proofs.W
set_option linter.unusedVariables false
set_option linter.unusedSimpArgs false
set_option linter.unusedSectionVars false
set_option maxRecDepth 100000
namespace Go.Proofs.W
open Go Go.Sl Go.RowKit Go.Proofs
attribute [local irreducible] Go.Sl.Eff
theorem bK3 : aV Tryz.prog 267 := aL Tryz.func267 (by kernel_rfl) (by kernel_rfl)
theorem aX2 : aV Tryz.prog 59 := aL Tryz.func59 (by kernel_rfl) (by kernel_rfl)
abbrev cd (s0 : Int) (l0 l1 l2 : CLine) : CardM := ⟨0, [s0], [l0, l1, l2]⟩
abbrev jW (l0 l1 l2 : CLine) : Prop := ∀ k, k < 3 → bH0 vG [l0, l1, l2] k = true
section
variable {w0 : World} {M : List Ent}
theorem bK4 {a : SAt} {s0 : Int} {l0 l1 l2 : CLine} {y1 y2 : Sl3} (hin : a.In M) (hs : cel y1.b 3 (bT ([s0].map encI) ++ y1.sp) ∈ M) (hl : cel y2.b 114 (bT ([l0, l1, l2].map CLine.cells) ++ y2.sp) ∈ M) (h0 : 0 ≤ s0 ∧ s0 ≤ 100000) :
  ∀ w, Ok w0 M w → Calls Tryz.prog 267 #[.agg a.plan.toArray, .agg #[.int .i64 0, y1.v 1, y2.v 3]] w (fun e w' => e = .returned (.int .i64 (if jW l0 l1 l2 then 0 else 2)) ∧ Ok w0 M w') :=
 aM5 (items := vG) (starts := [s0]) (lines := [l0, l1, l2]) (last := ⟨1, 0, 60, false⟩) hin.rItems
  (SlRd.of_cel (T := 3) (sp := y1.sp) hs rfl (by simp [encI]) (by simp)) (SlRd.of_cel (T := 114) (sp := y2.sp) hl rfl (by simp [mP]) (by simp))
  (fun M' hs w hw => rP (hin.sub hs) w hw) (by simp [Value.oneCell']) (by simp) (by decide) (by decide) rfl rfl (by decide) rfl (by simp [eX, eK]; omega)
theorem yH {ea : EvAt} {lv : Value} {Fr : List Ent} {s0 t0 : Int} {l0 l1 l2 k0 k1 k2 : CLine} {f : Nat} {cap : Array Value} (args : Nat → Array Value) (hargs : ∀ b, (#[] ++ [Value.pointer (some ⟨b, 0, none⟩)].toArray ++ cap) = args b) (hev : ea.ev lv ∈ Fr) (hin : ea.sa.In Fr) (he : aV Tryz.prog f)
  (hchg : ∀ (b : Nat) (s l : Sl3) X, Fr.Sublist X → ∀ w, Ok w0 (cel b 111 [.int .i64 0, s.v 1, l.v 3] :: cel s.b 3 (bT ([s0].map encI) ++ s.sp) :: cel l.b 114 (bT ([l0, l1, l2].map CLine.cells) ++ l.sp) :: X) w →
   Calls Tryz.prog f (args b) w (fun e w' => e = .returned (.tuple #[]) ∧ Ok w0 (cel b 111 [.int .i64 0, s.v 1, l.v 3] :: cel s.b 3 (bT ([t0].map encI) ++ s.sp) :: cel l.b 114 (bT ([k0, k1, k2].map CLine.cells) ++ l.sp) :: X) w'))
  (ht : 0 ≤ t0 ∧ t0 ≤ 100000) (hok : jW k0 k1 k2) :
  ∀ w, Ok w0 (ea.ec (cd s0 l0 l1 l2) :: ea.es (cd s0 l0 l1 l2) :: ea.el (cd s0 l0 l1 l2) :: Fr) w → Calls Tryz.prog 236 #[.pointer (some ⟨ea.eb, 0, none⟩), .int .i64 0, .func (.func f) #[] cap] w (fun e w' => ∃ y : Sl3 × Sl3, e = .returned (.tuple #[]) ∧ True ∧ Ok w0 ({ ea with starts := y.1, lines := y.2 }.ec (cd t0 k0 k1 k2) :: { ea with starts := y.1, lines := y.2 }.es (cd t0 k0 k1 k2) :: { ea with starts := y.1, lines := y.2 }.el (cd t0 k0 k1 k2) :: Fr) w') := by
 refine enter (vs := [_, _, _]) Tryz.func236 rfl Tryz.ntmps236 rfl (aE (aA (tv (aC rfl) (tv (aM rfl) (tv (aI iT rfl) ?_)))))
 refine tv (aG pO rfl (aK (.tail _ (.tail _ (.tail _ hev))) rfl)) (tv (aC rfl) (tv (dE (j := 0) Tryz.underlying53 dA rfl rfl rfl (by decide)) (tv (aY jP rfl (bL (n := 3) (vs := [_, _, _]) (.head _) rfl) rfl) (te (bP aX2 rfl rfl rfl rfl (sQ (xs := [s0]) (ls := [l0, l1, l2]) (SlRd.of_cel (T := 3) (xs := [s0].map encI) (sp := ea.starts.sp) (.tail _ (.head _)) rfl (by simp [encI]) (by simp)) (SlRd.of_cel (T := 114) (xs := [l0, l1, l2].map CLine.cells) (sp := ea.lines.sp) (.tail _ (.tail _ (.head _))) rfl (by simp [mP]) (by simp)) (by simp) (by simp) (by simp) (by simp)) fun y _ => (te (bO eB (l := [.int .i64 0, .slice none 0 0, .slice none 0 0]) rfl rfl fun b6 => ?_)))))))
 refine te (bJ dA rfl rfl (vs := [_, _, _]) rfl rfl (by simp [Value.oneCell']) (.cons .zero (.cons (.succ .zero) (.cons (.succ (.succ .zero)) .nil))) .here (aF (Tr.keep (env' := [(0, _), (1, _), (2, _), (6, _)]) ⟨rfl, rfl, rfl, rfl, trivial⟩ (aB (aE (aA ?_))))))
 refine tv (aC rfl) (te (fD he rfl rfl (hargs b6) rfl (hchg b6 y.1 y.2 _ (.cons _ (.cons _ (.cons _ (.refl _))))) (aF (Tr.keep (env' := [(0, _), (1, _), (6, _)]) ⟨rfl, rfl, rfl, trivial⟩ (aB (aE ?_))))))
 refine cI cK rfl (dv 0 rfl (.refl _) (aC rfl) (dv 1 rfl (.refl _) (aM rfl) (dv 2 rfl (.refl _) (aI eD rfl) (dv 3 rfl (.refl _) (aI eA rfl) (dv 4 rfl (.refl _) (aY uL rfl (bL (n := 14) (vs := [_, _, _, _, _, _, _, _, _, _, _, _, _, _]) (.tail _ (.tail _ (.tail _ (.tail _ (.tail _ (.tail _ hev)))))) rfl) rfl) ?_)))))
 refine dv 5 rfl (.refl _) (aY jP rfl (bL (n := 3) (vs := [_, _, _]) (.head _) rfl) rfl) (de 6 rfl (aJ bK3 rfl rfl rfl rfl (fun w hw => (bK4 (a := ea.sa) (s0 := t0) (l0 := k0) (l1 := k1) (l2 := k2) (y1 := y.1) (y2 := y.2) (hin.sub (.cons _ (.cons _ (.cons _ (.cons _ (.cons _ (.cons _ (.refl _)))))))) (.tail _ (.head _)) (.tail _ (.tail _ (.head _))) ht w hw).mono fun e w' hh => ⟨by rw [hh.1, if_pos hok], hh.2⟩) (aU (.refl _) (de 7 rfl (aJ lA rfl rfl rfl rfl mL (aU (.refl _) (bQ (by kernel_rfl) ?_)))))))
 refine Tr.keep (env' := [(0, _), (1, _), (6, _)]) ⟨rfl, rfl, rfl, trivial⟩ (aB (dV (.cons_cons _ (.cons_cons _ (.cons_cons _ (.cons _ (.refl _))))) cK rfl (dv 0 rfl (.cons_cons _ (.cons_cons _ (.cons_cons _ (.cons _ (.refl _))))) (aC rfl) (dv 1 rfl (.cons_cons _ (.cons_cons _ (.cons_cons _ (.cons _ (.refl _))))) (aM rfl) (dv 2 rfl (.cons_cons _ (.cons_cons _ (.cons_cons _ (.cons _ (.refl _))))) (aI iT rfl) ?_)))))
 refine dv 3 rfl (.cons_cons _ (.cons_cons _ (.cons_cons _ (.cons _ (.refl _))))) (aG pO rfl (aK (.tail _ (.tail _ (.tail _ (.tail _ (.tail _ hev))))) rfl)) (dv 4 rfl (.cons_cons _ (.cons_cons _ (.cons_cons _ (.cons _ (.refl _))))) (aC rfl) (dv 5 rfl (.cons_cons _ (.cons_cons _ (.cons_cons _ (.cons _ (.refl _))))) (aY jP rfl (bL (n := 3) (vs := [_, _, _]) (.head _) rfl) rfl) (dv 6 rfl (.cons_cons _ (.cons_cons _ (.cons_cons _ (.cons _ (.refl _))))) (dE (j := 0) Tryz.underlying53 dA rfl rfl rfl (by decide)) (de 7 rfl (bJ dA rfl rfl (vs := [_, _, _]) rfl rfl (by simp [Value.oneCell']) (.cons .zero (.cons (.succ .zero) (.cons (.succ (.succ .zero)) .nil))) (.there (.there (.there .here))) (aU (.cons_cons _ (.cons_cons _ (.cons_cons _ (.cons _ (.refl _))))) ?_))))))
 refine bQ (by kernel_rfl) (Tr.keep (env' := []) trivial (eV rfl (fun w hw => ?_)))
 exact ⟨y, rfl, trivial, Ok.sub (hw.perm (pk (.there (.there (.there .here))) (pk (.there .here) (pk (.there .here) (.refl _))))) (.cons_cons _ (.cons_cons _ (.cons_cons _ (.cons _ (.cons _ (.cons _ (.refl _)))))))⟩
theorem bK5 {ea : EvAt} {lv : Value} {Fr : List Ent} {s0 t0 : Int} {l0 l1 l2 k0 k1 k2 : CLine} {f : Nat} {cap : Array Value} (args : Nat → Array Value) (hargs : ∀ b, (#[] ++ [Value.pointer (some ⟨b, 0, none⟩)].toArray ++ cap) = args b) (hev : ea.ev lv ∈ Fr) (hin : ea.sa.In Fr) (he : aV Tryz.prog f)
  (hchg : ∀ (b : Nat) (s l : Sl3) X, Fr.Sublist X → ∀ w, Ok w0 (cel b 111 [.int .i64 0, s.v 1, l.v 3] :: cel s.b 3 (bT ([s0].map encI) ++ s.sp) :: cel l.b 114 (bT ([l0, l1, l2].map CLine.cells) ++ l.sp) :: X) w →
   Calls Tryz.prog f (args b) w (fun e w' => e = .returned (.tuple #[]) ∧ Ok w0 (cel b 111 [.int .i64 0, s.v 1, l.v 3] :: cel s.b 3 (bT ([t0].map encI) ++ s.sp) :: cel l.b 114 (bT ([k0, k1, k2].map CLine.cells) ++ l.sp) :: X) w'))
  (ht : 0 ≤ t0 ∧ t0 ≤ 100000) (hok : ¬ jW k0 k1 k2) :
  ∀ w, Ok w0 (ea.ec (cd s0 l0 l1 l2) :: ea.es (cd s0 l0 l1 l2) :: ea.el (cd s0 l0 l1 l2) :: Fr) w → Calls Tryz.prog 236 #[.pointer (some ⟨ea.eb, 0, none⟩), .int .i64 0, .func (.func f) #[] cap] w (fun e w' => e = .panicked (jQ 2) ∧ Ok w0 (ea.ec (cd s0 l0 l1 l2) :: ea.es (cd s0 l0 l1 l2) :: ea.el (cd s0 l0 l1 l2) :: Fr) w') := by
 refine enter (vs := [_, _, _]) Tryz.func236 rfl Tryz.ntmps236 rfl (aE (aA (tv (aC rfl) (tv (aM rfl) (tv (aI iT rfl) ?_)))))
 refine tv (aG pO rfl (aK (.tail _ (.tail _ (.tail _ hev))) rfl)) (tv (aC rfl) (tv (dE (j := 0) Tryz.underlying53 dA rfl rfl rfl (by decide)) (tv (aY jP rfl (bL (n := 3) (vs := [_, _, _]) (.head _) rfl) rfl) (te (bP aX2 rfl rfl rfl rfl (sQ (xs := [s0]) (ls := [l0, l1, l2]) (SlRd.of_cel (T := 3) (xs := [s0].map encI) (sp := ea.starts.sp) (.tail _ (.head _)) rfl (by simp [encI]) (by simp)) (SlRd.of_cel (T := 114) (xs := [l0, l1, l2].map CLine.cells) (sp := ea.lines.sp) (.tail _ (.tail _ (.head _))) rfl (by simp [mP]) (by simp)) (by simp) (by simp) (by simp) (by simp)) fun y _ => (te (bO eB (l := [.int .i64 0, .slice none 0 0, .slice none 0 0]) rfl rfl fun b6 => ?_)))))))
 refine te (bJ dA rfl rfl (vs := [_, _, _]) rfl rfl (by simp [Value.oneCell']) (.cons .zero (.cons (.succ .zero) (.cons (.succ (.succ .zero)) .nil))) .here (aF (Tr.keep (env' := [(0, _), (1, _), (2, _), (6, _)]) ⟨rfl, rfl, rfl, rfl, trivial⟩ (aB (aE (aA ?_))))))
 refine tv (aC rfl) (te (fD he rfl rfl (hargs b6) rfl (hchg b6 y.1 y.2 _ (.cons _ (.cons _ (.cons _ (.refl _))))) (aF (Tr.keep (env' := [(0, _), (1, _), (6, _)]) ⟨rfl, rfl, rfl, trivial⟩ (aB (aE ?_))))))
 refine cI cK rfl (dv 0 rfl (.refl _) (aC rfl) (dv 1 rfl (.refl _) (aM rfl) (dv 2 rfl (.refl _) (aI eD rfl) (dv 3 rfl (.refl _) (aI eA rfl) (dv 4 rfl (.refl _) (aY uL rfl (bL (n := 14) (vs := [_, _, _, _, _, _, _, _, _, _, _, _, _, _]) (.tail _ (.tail _ (.tail _ (.tail _ (.tail _ (.tail _ hev)))))) rfl) rfl) ?_)))))
 refine dv 5 rfl (.refl _) (aY jP rfl (bL (n := 3) (vs := [_, _, _]) (.head _) rfl) rfl) (de 6 rfl (aJ bK3 rfl rfl rfl rfl (fun w hw => (bK4 (a := ea.sa) (s0 := t0) (l0 := k0) (l1 := k1) (l2 := k2) (y1 := y.1) (y2 := y.2) (hin.sub (.cons _ (.cons _ (.cons _ (.cons _ (.cons _ (.cons _ (.refl _)))))))) (.tail _ (.head _)) (.tail _ (.tail _ (.head _))) ht w hw).mono fun e w' hh => ⟨by rw [hh.1, if_neg hok], hh.2⟩) (aU (.refl _) (de 7 rfl (kU lA rfl rfl rfl (vH 2 (by decide)) (gZ ?_))))))
 exact gT (fun w hw => ⟨rfl, Ok.sub hw (.cons _ (.cons _ (.cons _ (.refl _))))⟩)
end
end Go.Proofs.W
