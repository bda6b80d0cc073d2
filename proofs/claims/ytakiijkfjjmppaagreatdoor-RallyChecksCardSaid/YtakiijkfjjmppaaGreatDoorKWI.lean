/-
 What functions of the program that RallyChecks reaches do, one contract each, part 9.
-/
import Derived.Test.YtakiijkfjjmppaaGreatDoorKWH
import Derived.Test.YtakiijkfjjmppaaGreatDoorKSlB
set_option linter.unusedVariables false
set_option linter.unusedSimpArgs false
set_option linter.unusedSectionVars false
set_option maxRecDepth 100000
set_option maxHeartbeats 1000000
namespace Go.Proofs.W
open Go Go.Sl Go.RowKit Go.Proofs
attribute [local irreducible] Go.Sl.Eff
theorem en_128 : aV Tryz.prog 128 := aL Tryz.func128 (by kernel_rfl) (by kernel_rfl)
theorem en_187 : aV Tryz.prog 187 := aL Tryz.func187 (by kernel_rfl) (by kernel_rfl)
theorem aT4 : aV Tryz.prog 242 := aL Tryz.func242 (by kernel_rfl) (by kernel_rfl)
theorem en_90 : aV Tryz.prog 90 := aL Tryz.func90 (by kernel_rfl) (by kernel_rfl)
theorem en_91 : aV Tryz.prog 91 := aL Tryz.func91 (by kernel_rfl) (by kernel_rfl)
theorem fo_91_1 : bC Tryz.prog 91 1 = some 1 := by kernel_rfl
theorem iz_91 : (Tryz.prog.info? 91).map (·.size) = some 2 := by kernel_rfl
def dig (c : Nat) : Nat := if c ≤ 57 then c - 48 else c - 87
def pL (s : ByteArray) : Nat → Nat
 | 0 => 0
 | p + 1 => pL s p * 16 + dig (s.get! p).toNat
def sR (c : Nat) : Prop := (48 ≤ c ∧ c ≤ 57) ∨ (97 ≤ c ∧ c ≤ 102)
structure HexOk (s : ByteArray) : Prop where
 pos : 0 < s.size
 le : s.size ≤ 16
 hex : ∀ p, p < s.size → sR (s.get! p).toNat
theorem bK6 {c : Nat} (h : sR c) : dig c < 16 := by unfold dig sR at *; split <;> omega
theorem aX3 {s : ByteArray} (h : HexOk s) : ∀ p, p ≤ s.size → pL s p < 16 ^ p
 | 0, _ => by simp [pL]
 | p + 1, hp => by
  have h1 := aX3 h p (by omega)
  have h2 := bK6 (h.hex p (by omega))
  simp only [pL, Nat.pow_succ]
  omega
theorem hexV_le {s : ByteArray} (h : HexOk s) (p : Nat) (hp : p < s.size) : pL s p < 1152921504606846976 := by
 have h1 := aX3 h p (by omega)
 have h2 : (16 : Nat) ^ p ≤ 16 ^ 15 := Nat.pow_le_pow_right (by decide) (by have := h.le; omega)
 have h3 : (16 : Nat) ^ 15 = 1152921504606846976 := by decide
 omega
theorem or32 : ∀ c : Nat, 97 ≤ c → c ≤ 102 → bits .or .u8 (c : Int) 32 = (c : Int) := by
 intro c h1 h2
 have : c = 97 ∨ c = 98 ∨ c = 99 ∨ c = 100 ∨ c = 101 ∨ c = 102 := by omega
 rcases this with rfl | rfl | rfl | rfl | rfl | rfl <;> rfl
def jH (b : Int) (s : ByteArray) : Nat := (tF b s).toNat
theorem aA6 (b : Int) (s : ByteArray) : 0 ≤ tF b s ∧ tF b s < 18446744073709551616 := by
 unfold tF; rw [IntKind.wrap_u64]; omega
theorem tU (b : Int) (s : ByteArray) : jH b s < 18446744073709551616 := by have := aA6 b s; unfold jH; omega
theorem bB0 (b : Int) (s : ByteArray) : ((jH b s : Nat) : Int) = tF b s := by have := aA6 b s; unfold jH; omega
theorem keepS {s : ByteArray} (h : HexOk s) : s ≠ ⟨#[]⟩ := by
 intro e; have := h.pos; subst e; simp [ByteArray.size] at this
abbrev tV (e : ByteArray × ByteArray) : List Value := [.string e.1, .string e.2]
def pU (es : List (ByteArray × ByteArray)) : Nat := match es[es.length - 1]? with | some x => pL x.2 x.2.size | none => 14695981039346656037
section
variable {w0 : World} {M : List Ent}
theorem bB1 : Tryz.prog.isIface 210 = true := by kernel_rfl
theorem aI6 (c : Nat) (h1 : 97 ≤ c) (h2 : c ≤ 102) : ∀ w, Ok w0 M w → Calls Tryz.prog 242 #[.int .u8 (c : Int)] w (fun e w' => e = .returned (.int .u8 (c : Int)) ∧ Ok w0 M w') := by
 refine enter (vs := [_]) Tryz.func242 rfl Tryz.ntmps242 rfl (aE (aA (tv (aD rfl) (aF (Tr.keep (env' := [(0, _)]) ⟨rfl, trivial⟩ ?_)))))
 refine aB (aE (aA (tv (aC rfl) (tv (cM (v2 := .int .u8 (c : Int)) (r_or rfl rfl) (congrArg (Value.int .u8) (or32 c h1 h2))) (tv (aD rfl) ?_)))))
 refine aF (Tr.keep (env' := [(2, _)]) ⟨rfl, trivial⟩ (aB (aQ (aW rfl rfl (fun w hw => ?_)))))
 exact ⟨rfl, hw⟩
theorem bK7 (s : ByteArray) (hs : HexOk s) : ∀ w, Ok w0 M w → Calls Tryz.prog 187 #[.string s, .int .i64 16, .int .i64 64] w (fun e w' => e = .returned (.tuple #[.int .u64 ((pL s s.size : Nat) : Int), .nilIface]) ∧ Ok w0 M w') := by
 refine enter (vs := [_, _, _]) Tryz.func187 rfl Tryz.ntmps187 rfl (aE (aA (tv (aD rfl) (tv (aD rfl) (aF ?_)))))
 refine Tr.keep (env' := [(0, _), (1, _), (2, _)]) ⟨rfl, rfl, rfl, trivial⟩ (aB (aE (aE (aA (tv (aC rfl) ?_)))))
 refine tv (iE rfl rfl) (aF (Tr.keep (env' := [(0, _), (1, _), (2, _), (19, _)]) ⟨rfl, rfl, rfl, rfl, trivial⟩ (aB (aR (mY (by simp [keepS hs])) (aO ?_)))))
 refine aB (aE (aA (tv (aC rfl) (tv (cW rfl rfl) (tv (aD rfl) ?_)))))
 refine aF (Tr.keep (env' := [(0, _), (1, _), (2, _), (8, _)]) ⟨rfl, rfl, rfl, rfl, trivial⟩ (aB (aE (aA (tv (aC rfl) ?_)))))
 refine tv (aD rfl) (aF (Tr.keep (env' := [(0, _), (1, _), (2, _), (8, _), (9, _)]) ⟨rfl, rfl, rfl, rfl, rfl, trivial⟩ (aB (aE (aX ?_)))))
 refine aE (aA (tv (aC rfl) (tv (iF rfl rfl) (tv (aC rfl) (cV rfl rfl (aC rfl) ?_)))))
 refine cV rfl rfl (iF rfl rfl) (tv (cG rfl rfl) (tv (aD rfl) (aF (Tr.keep (env' := [(0, _), (1, _), (2, _), (8, _), (9, _), (25, _)]) ⟨rfl, rfl, rfl, rfl, rfl, rfl, trivial⟩ (aB ?_)))))
 refine bI rfl (aO (cX (aB (aE (aE ?_)))))
 refine aA (tv (aC rfl) (tv (cW rfl rfl) (aF (Tr.keep (env' := [(0, _), (1, _), (2, _), (8, _), (9, _), (77, _)]) ⟨rfl, rfl, rfl, rfl, rfl, rfl, trivial⟩ (aB ?_)))))
 refine aR rfl (aE (aA (tv (aC rfl) (tv (dI rfl rfl) (tv (aC rfl) ?_)))))
 refine cV rfl rfl (aC rfl) (cV rfl rfl (fC rfl rfl) (tv (bS rfl rfl) (aF (Tr.keep (env' := [(0, _), (1, _), (2, _), (8, _), (9, _), (83, _)]) ⟨rfl, rfl, rfl, rfl, rfl, rfl, trivial⟩ (aB ?_)))))
 refine aR rfl (aO (aB (aE (aA (tv (aD rfl) ?_)))))
 refine aF (Tr.keep (env' := [(0, _), (1, _), (2, _), (8, _), (9, _)]) ⟨rfl, rfl, rfl, rfl, rfl, trivial⟩ (aB (aE (aE (aA ?_)))))
 refine tv (aC rfl) (aF (Tr.keep (env' := [(0, _), (1, _), (2, _), (8, _), (9, _), (85, _)]) ⟨rfl, rfl, rfl, rfl, rfl, rfl, trivial⟩ (aB (aX (aE ?_)))))
 refine aA (tv (cW rfl rfl) (tv (aD rfl) (aF (Tr.keep (env' := [(0, _), (1, _), (2, _), (8, _), (9, _), (85, _), (90, _)]) ⟨rfl, rfl, rfl, rfl, rfl, rfl, rfl, trivial⟩ (aB ?_)))))
 refine aR rfl (aE (aA (tv (cW rfl rfl) (tv (aD rfl) (aF ?_)))))
 refine Tr.keep (env' := [(0, _), (1, _), (2, _), (8, _), (9, _), (92, _)]) ⟨rfl, rfl, rfl, rfl, rfl, rfl, trivial⟩ (aB (bI rfl (aA (tv (aD rfl) (aF ?_)))))
 refine Tr.keep (env' := [(0, _), (1, _), (2, _), (8, _), (9, _), (10, _)]) ⟨rfl, rfl, rfl, rfl, rfl, rfl, trivial⟩ (cX (aB (aE (aA (tv (aC rfl) ?_)))))
 refine tv (qW Tryz.underlying3 Tryz.underlying274 rfl) (tv (cM (v2 := .int .u64 0) (r_shl rfl rfl (by decide)) (by rfl)) (tv (cM (v2 := .int .u64 18446744073709551615) (xN rfl rfl) (by rfl)) (tv (aD rfl) (aF (Tr.keep (env' := [(0, _), (1, _), (8, _), (9, _), (10, _), (11, _)]) ⟨rfl, rfl, rfl, rfl, rfl, rfl, trivial⟩ ?_)))))
 refine aB (aE (aA (tv (aD rfl) (aF (Tr.keep (env' := [(0, _), (1, _), (8, _), (9, _), (10, _), (11, _), (12, _)]) ⟨rfl, rfl, rfl, rfl, rfl, rfl, rfl, trivial⟩ ?_)))))
 refine aB (aE (aA (tv (aD rfl) (aF (Tr.keep (env' := [(0, _), (1, _), (8, _), (9, _), (10, _), (11, _), (12, _), (13, _)]) ⟨rfl, rfl, rfl, rfl, rfl, rfl, rfl, rfl, trivial⟩ ?_)))))
 refine aB (aE (aE (aA (tv (aC rfl) (te (aP9 Tryz.underlying9 Tryz.underlying92 Tryz.underlying5 rfl rfl fun b99 c99 cs fr hcs => ?_))))))
 refine tv (aP Tryz.underlying92 rfl) (tv (aC rfl) (aF (Tr.keep (env' := [(1, _), (8, _), (9, _), (10, _), (11, _), (12, _), (13, _), (99, _), (100, _), (101, _)]) ⟨rfl, rfl, rfl, rfl, rfl, rfl, rfl, rfl, rfl, rfl, trivial⟩ (aB (aX ?_)))))
 refine dW (fun k : Nat => [(1, .int .i64 16), (8, .bool false), (9, .string s), (10, .int .u64 1152921504606846976), (11, .int .u64 18446744073709551615), (12, .bool false), (13, .int .u64 ((pL s k : Nat) : Int)), (99, .slice (some ⟨b99, 0, none⟩) s.size c99), (100, .int .i64 (s.size : Int)), (101, .int .i64 (k : Int))]) (fun k : Nat => ⟨b99, .cells cs 5 fr⟩ :: M) (fun k : Nat => k ≤ s.size) (fun k : Nat => s.size - k) 0 (Nat.zero_le _) ⟨rfl, rfl, rfl, rfl, rfl, rfl, rfl, rfl, rfl, rfl, trivial⟩ (.refl _) ?_
 intro K k hk IH
 have hsl := hs.le
 refine aE (aA (tv (dI rfl rfl) (aF (Tr.keep (env' := [(1, _), (8, _), (9, _), (10, _), (11, _), (12, _), (13, _), (99, _), (100, _), (101, _), (102, _)]) ⟨rfl, rfl, rfl, rfl, rfl, rfl, rfl, rfl, rfl, rfl, rfl, trivial⟩ (aB ?_)))))
 refine aE ?_
 refine bD rfl (fun hc => ?_) (fun hc => ?_)
 ·have hlt : k < s.size := by have := of_decide_eq_true hc; omega
  have hh := hs.hex k hlt
  have hdl := bK6 hh
  have hvl := hexV_le hs k hlt
  have hck := hcs k hlt
  have hvs : pL s (k + 1) = pL s k * 16 + dig (s.get! k).toNat := rfl
  generalize (s.get! k).toNat = c at hh hdl hck hvs
  refine aO (aB (aE (aX (aE (aA ?_)))))
  refine tv (dE (j := k) Tryz.underlying92 aQ4 rfl rfl rfl (by omega)) (tv (aG ca_5 rfl (qQ (.head _) (by rw [Nat.zero_add, Nat.mul_one]; exact hck))) (tv (aD rfl) (aF (Tr.keep (env' := [(1, _), (8, _), (9, _), (10, _), (11, _), (12, _), (13, _), (15, _), (99, _), (100, _), (101, _)]) ⟨rfl, rfl, rfl, rfl, rfl, rfl, rfl, rfl, rfl, rfl, rfl, trivial⟩ (aB ?_)))))
  refine aE (aA (tv (aD rfl) (aF (Tr.keep (env' := [(1, _), (8, _), (9, _), (10, _), (11, _), (12, _), (13, _), (15, _), (99, _), (100, _), (101, _)]) ⟨rfl, rfl, rfl, rfl, rfl, rfl, rfl, rfl, rfl, rfl, rfl, trivial⟩ (aB ?_)))))
  refine aE (aX (aE (aA (tv (aC rfl) (tv (cM (v2 := .bool false) (cW rfl rfl) (congrArg Value.bool (by rw [beq_eq_false_iff_ne]; unfold sR at hh; omega))) ?_)))))
  refine tv (aC rfl) (lM rfl rfl rfl rfl (tv (bS rfl rfl) (tv (aD rfl) (aF (Tr.keep (env' := [(1, _), (8, _), (9, _), (10, _), (11, _), (12, _), (13, _), (15, _), (99, _), (100, _), (101, _), (106, _)]) ⟨rfl, rfl, rfl, rfl, rfl, rfl, rfl, rfl, rfl, rfl, rfl, rfl, trivial⟩ ?_)))))
  refine aB (aR rfl (aE (aA (tv (aC rfl) (tv (iF rfl rfl) ?_)))))
  refine tv (aC rfl) ?_
  apply bH 3 (s := 115) (d := 118) rfl
  ·intro hg2 K hK
   refine bE hg2 rfl rfl (aC rfl) (bE hg2 rfl rfl (iF rfl rfl) (tv (bV hg2 rfl rfl) ?_))
   iterate 2 refine Tr.weak2 rfl ?_
   exact hK _ (dT hg2)
  ·intro hg2 K hK
   refine aH hg2 rfl rfl rfl rfl (aH hg2 rfl rfl rfl rfl (tv (bW hg2 rfl rfl) ?_))
   iterate 2 refine Tr.weak2 rfl ?_
   exact hK _ (dU hg2)
  refine tv (aD rfl) (aF (Tr.keep (env' := [(1, _), (8, _), (9, _), (10, _), (11, _), (12, _), (13, _), (15, _), (99, _), (100, _), (101, _), (112, _)]) ⟨rfl, rfl, rfl, rfl, rfl, rfl, rfl, rfl, rfl, rfl, rfl, rfl, trivial⟩ (aB ?_)))
  refine bD rfl (fun hd => ?_) (fun hd => ?_)
  ·simp only [Bool.and_eq_true, decide_eq_true_eq] at hd
   refine aA (tv (aC rfl) (tv (cM (v2 := .int .u8 ((dig c : Nat) : Int)) (xN rfl rfl) (congrArg (Value.int .u8) (by rw [IntKind.wrap_u8]; unfold dig; rw [if_pos (by omega)]; omega))) (tv (aD rfl) (aF (Tr.keep (env' := [(1, _), (8, _), (9, _), (10, _), (11, _), (12, _), (13, _), (16, _), (99, _), (100, _), (101, _)]) ⟨rfl, rfl, rfl, rfl, rfl, rfl, rfl, rfl, rfl, rfl, rfl, trivial⟩ ?_)))))
   refine cX (aB (aE (aE (aA (tv (aC rfl) ?_)))))
   refine tv (aC rfl) (tv (hD Tryz.underlying3 Tryz.underlying5 rfl (i' := 16) (by rfl)) (tv (cM (v2 := .bool false) (fI rfl rfl) (congrArg Value.bool (by simp; omega))) (aF (Tr.keep (env' := [(1, _), (8, _), (9, _), (10, _), (11, _), (12, _), (13, _), (16, _), (99, _), (100, _), (101, _), (137, _)]) ⟨rfl, rfl, rfl, rfl, rfl, rfl, rfl, rfl, rfl, rfl, rfl, rfl, trivial⟩ (aB ?_)))))
   refine aR rfl (aO (aB (aE (aE (aA ?_)))))
   refine tv (aC rfl) (tv (aC rfl) (tv (cM (v2 := .bool false) (fI rfl rfl) (congrArg Value.bool (by simp; omega))) (aF (Tr.keep (env' := [(1, _), (8, _), (9, _), (10, _), (11, _), (12, _), (13, _), (16, _), (99, _), (100, _), (101, _), (141, _)]) ⟨rfl, rfl, rfl, rfl, rfl, rfl, rfl, rfl, rfl, rfl, rfl, rfl, trivial⟩ (aB ?_)))))
   refine aR rfl (aO (aB (aE (aA (tv (aC rfl) ?_)))))
   refine tv (aC rfl) (tv (hD Tryz.underlying3 Tryz.underlying177 rfl (i' := 16) (by rfl)) (tv (cM (v2 := .int .u64 ((pL s k * 16 : Nat) : Int)) (oW rfl rfl) (congrArg (Value.int .u64) (by rw [IntKind.wrap_u64]; omega))) (tv (aD rfl) (aF (Tr.keep (env' := [(1, _), (8, _), (9, _), (10, _), (11, _), (12, _), (13, _), (16, _), (99, _), (100, _), (101, _)]) ⟨rfl, rfl, rfl, rfl, rfl, rfl, rfl, rfl, rfl, rfl, rfl, trivial⟩ ?_)))))
   refine aB (aE (aA (tv (aC rfl) (tv (aC rfl) (tv (hD Tryz.underlying5 Tryz.underlying177 rfl (i' := ((dig c : Nat) : Int)) (by rw [IntKind.wrap_u64]; omega)) ?_)))))
   refine tv (cM (v2 := .int .u64 ((pL s (k + 1) : Nat) : Int)) (uN rfl rfl) (congrArg (Value.int .u64) (by rw [IntKind.wrap_u64, hvs]; omega))) (tv (aD rfl) (aF (Tr.keep (env' := [(1, _), (8, _), (9, _), (10, _), (11, _), (12, _), (13, _), (17, _), (99, _), (100, _), (101, _)]) ⟨rfl, rfl, rfl, rfl, rfl, rfl, rfl, rfl, rfl, rfl, rfl, trivial⟩ (aB (aE ?_)))))
   refine aE (aA (tv (aC rfl) (tv (aC rfl) (tv (cM (v2 := .bool false) (dI rfl rfl) (congrArg Value.bool (by rw [hvs]; simp; omega))) (tv (aC rfl) ?_)))))
   refine cV rfl rfl (aC rfl) (cV rfl rfl (aC rfl) (cV rfl rfl (cM (v2 := .bool false) (fC rfl rfl) (congrArg Value.bool (by rw [hvs]; simp; omega))) (tv (bS rfl rfl) (aF (Tr.keep (env' := [(1, _), (8, _), (9, _), (10, _), (11, _), (12, _), (17, _), (99, _), (100, _), (101, _), (159, _)]) ⟨rfl, rfl, rfl, rfl, rfl, rfl, rfl, rfl, rfl, rfl, rfl, trivial⟩ ?_)))))
   refine aB (aR rfl (aO (aB (aA (tv (aC rfl) ?_)))))
   refine tv (aD rfl) (aF (Tr.keep (env' := [(1, _), (8, _), (9, _), (10, _), (11, _), (12, _), (13, _), (99, _), (100, _), (101, _)]) ⟨rfl, rfl, rfl, rfl, rfl, rfl, rfl, rfl, rfl, rfl, trivial⟩ (cX (aB (aA ?_)))))
   refine tv (cC rfl rfl (by omega)) (tv (aC rfl) (aF (Tr.keep (env' := [(1, _), (8, _), (9, _), (10, _), (11, _), (12, _), (13, _), (99, _), (100, _), (101, _)]) ⟨rfl, rfl, rfl, rfl, rfl, rfl, rfl, rfl, rfl, rfl, trivial⟩ (aB ?_))))
   refine nD (IH (k + 1) (by omega) (by omega)) ⟨rfl, rfl, rfl, rfl, rfl, rfl, rfl, rfl, rfl, rfl, trivial⟩ (.refl _)
  ·have hd2 : ¬ (48 ≤ c ∧ c ≤ 57) := by
    intro h; apply Bool.false_ne_true; rw [← hd]; simp; omega
   have hh2 : 97 ≤ c ∧ c ≤ 102 := by unfold sR at hh; omega
   refine aE (aA (tv (aC rfl) (te (aJ aT4 rfl rfl rfl rfl (aI6 c (by omega) (by omega)) (tv (cM (v2 := .bool true) (iF rfl rfl) (congrArg Value.bool (by simp; omega))) (tv (aC rfl) ?_))))))
   refine cV rfl rfl (aC rfl) (gB rfl rfl (aJ aT4 rfl rfl rfl rfl (aI6 c (by omega) (by omega)) (cV rfl rfl (cM (v2 := .bool true) (iF rfl rfl) (congrArg Value.bool (by simp; omega))) (tv (cG rfl rfl) (tv (aD rfl) (aF ?_))))))
   refine Tr.keep (env' := [(1, _), (8, _), (9, _), (10, _), (11, _), (12, _), (13, _), (15, _), (99, _), (100, _), (101, _), (121, _)]) ⟨rfl, rfl, rfl, rfl, rfl, rfl, rfl, rfl, rfl, rfl, rfl, rfl, trivial⟩ (aB (bI rfl (aA (tv (aC rfl) (te (aJ aT4 rfl rfl rfl rfl (aI6 c (by omega) (by omega)) ?_))))))
   refine tv (cM (v2 := .int .u8 ((c - 97 : Nat) : Int)) (xN rfl rfl) (congrArg (Value.int .u8) (by rw [IntKind.wrap_u8]; omega))) (tv (cM (v2 := .int .u8 ((dig c : Nat) : Int)) (uN rfl rfl) (congrArg (Value.int .u8) (by rw [IntKind.wrap_u8]; unfold dig; rw [if_neg (by omega)]; omega))) (tv (aD rfl) (aF (Tr.keep (env' := [(1, _), (8, _), (9, _), (10, _), (11, _), (12, _), (13, _), (16, _), (99, _), (100, _), (101, _)]) ⟨rfl, rfl, rfl, rfl, rfl, rfl, rfl, rfl, rfl, rfl, rfl, trivial⟩ (cX ?_)))))
   refine aB (aE (aE (aA (tv (aC rfl) (tv (aC rfl) ?_)))))
   refine tv (hD Tryz.underlying3 Tryz.underlying5 rfl (i' := 16) (by rfl)) (tv (cM (v2 := .bool false) (fI rfl rfl) (congrArg Value.bool (by simp; omega))) (aF (Tr.keep (env' := [(1, _), (8, _), (9, _), (10, _), (11, _), (12, _), (13, _), (16, _), (99, _), (100, _), (101, _), (137, _)]) ⟨rfl, rfl, rfl, rfl, rfl, rfl, rfl, rfl, rfl, rfl, rfl, rfl, trivial⟩ (aB (aR rfl ?_)))))
   refine aO (aB (aE (aE (aA (tv (aC rfl) ?_)))))
   refine tv (aC rfl) (tv (cM (v2 := .bool false) (fI rfl rfl) (congrArg Value.bool (by simp; omega))) (aF (Tr.keep (env' := [(1, _), (8, _), (9, _), (10, _), (11, _), (12, _), (13, _), (16, _), (99, _), (100, _), (101, _), (141, _)]) ⟨rfl, rfl, rfl, rfl, rfl, rfl, rfl, rfl, rfl, rfl, rfl, rfl, trivial⟩ (aB (aR rfl ?_)))))
   refine aO (aB (aE (aA (tv (aC rfl) (tv (aC rfl) ?_)))))
   refine tv (hD Tryz.underlying3 Tryz.underlying177 rfl (i' := 16) (by rfl)) (tv (cM (v2 := .int .u64 ((pL s k * 16 : Nat) : Int)) (oW rfl rfl) (congrArg (Value.int .u64) (by rw [IntKind.wrap_u64]; omega))) (tv (aD rfl) (aF (Tr.keep (env' := [(1, _), (8, _), (9, _), (10, _), (11, _), (12, _), (13, _), (16, _), (99, _), (100, _), (101, _)]) ⟨rfl, rfl, rfl, rfl, rfl, rfl, rfl, rfl, rfl, rfl, rfl, trivial⟩ (aB ?_)))))
   refine aE (aA (tv (aC rfl) (tv (aC rfl) (tv (hD Tryz.underlying5 Tryz.underlying177 rfl (i' := ((dig c : Nat) : Int)) (by rw [IntKind.wrap_u64]; omega)) (tv (cM (v2 := .int .u64 ((pL s (k + 1) : Nat) : Int)) (uN rfl rfl) (congrArg (Value.int .u64) (by rw [IntKind.wrap_u64, hvs]; omega))) ?_)))))
   refine tv (aD rfl) (aF (Tr.keep (env' := [(1, _), (8, _), (9, _), (10, _), (11, _), (12, _), (13, _), (17, _), (99, _), (100, _), (101, _)]) ⟨rfl, rfl, rfl, rfl, rfl, rfl, rfl, rfl, rfl, rfl, rfl, trivial⟩ (aB (aE (aE ?_)))))
   refine aA (tv (aC rfl) (tv (aC rfl) (tv (cM (v2 := .bool false) (dI rfl rfl) (congrArg Value.bool (by rw [hvs]; simp; omega))) (tv (aC rfl) (cV rfl rfl (aC rfl) ?_)))))
   refine cV rfl rfl (aC rfl) (cV rfl rfl (cM (v2 := .bool false) (fC rfl rfl) (congrArg Value.bool (by rw [hvs]; simp; omega))) (tv (bS rfl rfl) (aF (Tr.keep (env' := [(1, _), (8, _), (9, _), (10, _), (11, _), (12, _), (17, _), (99, _), (100, _), (101, _), (159, _)]) ⟨rfl, rfl, rfl, rfl, rfl, rfl, rfl, rfl, rfl, rfl, rfl, trivial⟩ (aB ?_)))))
   refine aR rfl (aO (aB (aA (tv (aC rfl) (tv (aD rfl) ?_)))))
   refine aF (Tr.keep (env' := [(1, _), (8, _), (9, _), (10, _), (11, _), (12, _), (13, _), (99, _), (100, _), (101, _)]) ⟨rfl, rfl, rfl, rfl, rfl, rfl, rfl, rfl, rfl, rfl, trivial⟩ (cX (aB (aA (tv (cC rfl rfl (by omega)) ?_)))))
   refine tv (aC rfl) (aF (Tr.keep (env' := [(1, _), (8, _), (9, _), (10, _), (11, _), (12, _), (13, _), (99, _), (100, _), (101, _)]) ⟨rfl, rfl, rfl, rfl, rfl, rfl, rfl, rfl, rfl, rfl, trivial⟩ (aB ?_)))
   refine nD (IH (k + 1) (by omega) (by omega)) ⟨rfl, rfl, rfl, rfl, rfl, rfl, rfl, rfl, rfl, rfl, trivial⟩ (.refl _)
 ·have hge : ¬ k < s.size := by have := of_decide_eq_false hc; omega
  obtain rfl : k = s.size := by omega
  refine cY (aS (aS (bX (aB (aE ?_)))))
  refine aE (aA (tv (aC rfl) (tv (aC rfl) (lM rfl rfl rfl rfl (lM rfl rfl rfl rfl ?_)))))
  refine lM rfl rfl rfl rfl (tv (bS rfl rfl) (aF (Tr.keep (env' := [(13, _), (169, _)]) ⟨rfl, rfl, trivial⟩ (aB (aR rfl ?_)))))
  refine aO (aB (aE (aA (tv (aC rfl) (tv (aD rfl) ?_)))))
  refine tv (aD rfl) (aF (Tr.keep (env' := [(6, _), (7, _)]) ⟨rfl, rfl, trivial⟩ (aB (aQ (gG rfl rfl rfl (fun w hw => ?_))))))
  exact ⟨rfl, hw.sub (.cons _ (.refl _))⟩
theorem parse_c (s : ByteArray) (hs : HexOk s) : ∀ w, Ok w0 M w → Calls Tryz.prog 128 #[.string s, .int .i64 16, .int .i64 64] w (fun e w' => e = .returned (.tuple #[.int .u64 ((pL s s.size : Nat) : Int), .nilIface]) ∧ Ok w0 M w') := by
 refine enter (vs := [_, _, _]) Tryz.func128 rfl Tryz.ntmps128 rfl (aE (aA (tv (aD rfl) (tv (aD rfl) (aF ?_)))))
 refine Tr.keep (env' := [(0, _), (1, _), (2, _)]) ⟨rfl, rfl, rfl, trivial⟩ (aB (aE (aA (tv (aC rfl) (tv (aC rfl) ?_)))))
 refine tv (aC rfl) (te (aJ en_187 rfl rfl rfl rfl (bK7 s hs) (tv (aC rfl) (tv (bA rfl rfl) (tv (bA rfl rfl) (tv (aD rfl) ?_))))))
 refine tv (aD rfl) (aF (Tr.keep (env' := [(0, _), (1, _), (2, _), (8, _), (9, _)]) ⟨rfl, rfl, rfl, rfl, rfl, trivial⟩ (aB (aE (aE ?_)))))
 refine aA (tv (aC rfl) (tv (rU bB1 rfl rfl) (aF (Tr.keep (env' := [(0, _), (1, _), (2, _), (8, _), (9, _), (18, _)]) ⟨rfl, rfl, rfl, rfl, rfl, rfl, trivial⟩ (aB ?_)))))
 refine aR rfl (aO (aB (aE (aA (tv (aC rfl) ?_)))))
 refine tv (aD rfl) (tv (aD rfl) (aF (Tr.keep (env' := [(6, _), (7, _)]) ⟨rfl, rfl, trivial⟩ (aB (aQ ?_)))))
 refine gG rfl rfl rfl (fun w hw => ?_)
 exact ⟨rfl, hw⟩
theorem yI (b : Int) (s : ByteArray) (hs : s.size ≤ 4611686018427387904) : ∀ w, Ok w0 M w → Calls Tryz.prog 90 #[.int .u64 b, .string s] w (fun e w' => e = .returned (.int .u64 ((jH b s : Nat) : Int)) ∧ Ok w0 M w') := fun w hw =>
 (aY8 b s hs w hw).mono fun e w' h => ⟨by rw [h.1, bB0], h.2⟩
theorem bB2 (hT : Tab w0) {A : Option Addr} {c : Nat} {es : List (ByteArray × ByteArray)} (hs : SlRd w0 M 2 A es.length (es.map tV)) (hes : es = []) (line : ByteArray) (hl : line.size ≤ 4611686018427387904) : ∀ w, Ok w0 M w → Calls Tryz.prog 64 #[.slice A es.length c, .string line] w (fun e w' => e = .returned (.string (gL (jH (pU es) line))) ∧ Ok w0 M w') := by
 subst hes
 refine enter (vs := [_, _]) Tryz.func64 rfl Tryz.ntmps64 rfl (aE (aA (tv (aD rfl) (aF (Tr.keep (env' := [(0, _), (1, _)]) ⟨rfl, rfl, trivial⟩ ?_)))))
 refine aB (aE (aA (tv (aD rfl) (aF (Tr.keep (env' := [(0, _), (1, _), (5, _)]) ⟨rfl, rfl, rfl, trivial⟩ ?_)))))
 refine aB (aE (aE (aA (tv (aC rfl) (tv (aP Tryz.underlying50 rfl) ?_)))))
 refine tv (aD rfl) (aF (Tr.keep (env' := [(0, _), (1, _), (5, _), (6, _)]) ⟨rfl, rfl, rfl, rfl, trivial⟩ (aB (aE (aA ?_)))))
 refine tv (aC rfl) (tv (fC rfl rfl) (aF (Tr.keep (env' := [(0, _), (1, _), (5, _), (6, _), (10, _)]) ⟨rfl, rfl, rfl, rfl, rfl, trivial⟩ (aB (aR (mY (by simp)) ?_)))))
 refine aO (aB (aE (aA (tv (aC rfl) (tv (aC rfl) ?_)))))
 refine te (aJ en_90 rfl rfl rfl rfl (yI _ line hl) (te (aJ en_91 rfl rfl rfl rfl (aL9 hT _ (tU _ _)) (tv (aD rfl) (aF (Tr.keep (env' := [(4, _)]) ⟨rfl, trivial⟩ (aB ?_)))))))
 refine aQ (aW rfl rfl (fun w hw => ?_))
 exact ⟨rfl, hw⟩
theorem bB3 (hT : Tab w0) {A : Option Addr} {c : Nat} {es : List (ByteArray × ByteArray)} (hs : SlRd w0 M 2 A es.length (es.map tV)) (hes : 0 < es.length) (x : ByteArray × ByteArray) (hx : es[es.length - 1]? = some x) (hxo : HexOk x.2) (line : ByteArray) (hl : line.size ≤ 4611686018427387904) : ∀ w, Ok w0 M w → Calls Tryz.prog 64 #[.slice A es.length c, .string line] w (fun e w' => e = .returned (.string (gL (jH (pU es) line))) ∧ Ok w0 M w') := by
 have hpv : pU es = pL x.2 x.2.size := by simp [pU, hx]
 have hbig := hs.big
 obtain ⟨b, o, hA, hrd⟩ := hs.at' hes
 refine enter (vs := [_, _]) Tryz.func64 rfl Tryz.ntmps64 rfl (aE (aA (tv (aD rfl) (aF (Tr.keep (env' := [(0, _), (1, _)]) ⟨rfl, rfl, trivial⟩ ?_)))))
 refine aB (aE (aA (tv (aD rfl) (aF (Tr.keep (env' := [(0, _), (1, _), (5, _)]) ⟨rfl, rfl, rfl, trivial⟩ ?_)))))
 refine aB (aE (aE (aA (tv (aC rfl) (tv (aP Tryz.underlying50 rfl) ?_)))))
 refine tv (aD rfl) (aF (Tr.keep (env' := [(0, _), (1, _), (5, _), (6, _)]) ⟨rfl, rfl, rfl, rfl, trivial⟩ (aB (aE (aA ?_)))))
 refine tv (aC rfl) (tv (fC rfl rfl) (aF (Tr.keep (env' := [(0, _), (1, _), (5, _), (6, _), (10, _)]) ⟨rfl, rfl, rfl, rfl, rfl, trivial⟩ (aB (bI (mY (by simp; omega)) ?_)))))
 refine aA (tv (aC rfl) (tv (aC rfl) (tv (cP rfl rfl (by omega)) (tv (cL (es.length - 1) Tryz.underlying50 iz_91 hA rfl rfl (by omega) (by omega)) (tv (aI fo_91_1 rfl) ?_)))))
 refine tv (aG iP rfl (hrd (es.length - 1) (tV x) (by rw [List.getElem?_map, hx]; rfl) 1 (.string x.2) rfl)) ?_
 refine te (aJ en_128 rfl rfl rfl rfl (parse_c x.2 hxo) (tv (aC rfl) (tv (bA rfl rfl) (tv (bA rfl rfl) (tv (aD rfl) (aF ?_))))))
 refine Tr.keep (env' := [(1, _), (5, _)]) ⟨rfl, rfl, trivial⟩ (aB (aE (aA (tv (aC rfl) (tv (aC rfl) ?_)))))
 refine te (aJ en_90 rfl rfl rfl rfl (yI _ line hl) (te (aJ en_91 rfl rfl rfl rfl (aL9 hT _ (tU _ _)) (tv (aD rfl) (aF (Tr.keep (env' := [(4, _)]) ⟨rfl, trivial⟩ (aB ?_)))))))
 refine aQ (aW rfl rfl (fun w hw => ?_))
 exact ⟨by rw [hpv], hw⟩
end
end Go.Proofs.W
set_option linter.unusedVariables false
set_option linter.unusedSimpArgs false
set_option linter.unusedSectionVars false
set_option maxRecDepth 100000
namespace Go.Proofs.W
open Go Go.Sl Go.RowKit Go.Proofs
attribute [local irreducible] Go.Sl.Eff
theorem aN9 : bY Tryz.prog 50 = some (none) := by kernel_rfl
theorem aO0 : aV Tryz.prog 56 := aL Tryz.func56 (by kernel_rfl) (by kernel_rfl)
theorem en_63 : aV Tryz.prog 63 := aL Tryz.func63 (by kernel_rfl) (by kernel_rfl)
theorem en_64 : aV Tryz.prog 64 := aL Tryz.func64 (by kernel_rfl) (by kernel_rfl)
theorem nG : bC Tryz.prog 129 5 = some 34 := by kernel_rfl
theorem bK8 : (Tryz.prog.info? 91).map (fun i => (i.zero, i.size, i.bytes)) = some (some (.agg #[.string ⟨#[]⟩, .string ⟨#[]⟩]), 2, 32) := by kernel_rfl
theorem iz_50 : (Tryz.prog.info? 50).map (·.size) = some 1 := by kernel_rfl
theorem aO1 : ∀ d, d < 16 → sR (lK d).toNat := by
 intro d h
 have : ∀ d : Fin 16, (48 ≤ (lK d.val).toNat ∧ (lK d.val).toNat ≤ 57) ∨ (97 ≤ (lK d.val).toNat ∧ (lK d.val).toNat ≤ 102) := by decide
 exact this ⟨d, h⟩
theorem aO2 : ∀ f n acc, (∀ b ∈ acc, sR b.toNat) → ∀ b ∈ oT f n acc, sR b.toNat
 | 0, _, acc, h, b, hb => h b hb
 | f + 1, n, acc, h, b, hb => by
  by_cases hn : n < 16
  ·rw [aF3 hn] at hb
   rcases List.mem_cons.1 hb with rfl | hb
   ·exact aO1 n hn
   ·exact h b hb
  ·rw [aF2 hn] at hb
   refine aO2 f _ _ (fun b hb => ?_) b hb
   rcases List.mem_cons.1 hb with rfl | hb
   ·exact aO1 _ (by omega)
   ·exact h b hb
theorem aI7 (n : Nat) : (gL n).data.toList = List.replicate (16 - (wW n).length) 48 ++ wW n := by
 unfold gL
 rw [ByteArray.data_append]
 simp
theorem aO3 {n : Nat} (h : n < 18446744073709551616) : HexOk (gL n) := by
 have hl := aL8 h
 have hL := aI7 n
 have hs : (gL n).size = 16 := by
  have := congrArg List.length hL
  simp at this
  omega
 refine ⟨by omega, by omega, fun p hp => ?_⟩
 have hm : (gL n).get! p ∈ (gL n).data.toList := by
  rw [wM _ p hp]
  exact Array.mem_toList_iff.2 (Array.getElem_mem _)
 rw [hL] at hm
 rcases List.mem_append.1 hm with h1 | h1
 ·rw [(List.mem_replicate.1 h1).2]; unfold sR; decide
 ·exact aO2 17 n [] (by simp) _ h1
structure St where
 g : GuardSt
 lg : WLog
 s0 : Int
 l0 : CLine
 l1 : CLine
 l2 : CLine
 log : List (ByteArray × ByteArray)
abbrev St.c (s : St) : CardM := cd s.s0 s.l0 s.l1 s.l2
structure Mv where
 wl : WAt
 starts : Sl3
 lines : Sl3
abbrev EvAt.mv (e : EvAt) (x : Mv) : EvAt := { e with wl := x.wl, starts := x.starts, lines := x.lines }
abbrev ents (e : EvAt) (lv : Value) (lE : List Ent) (s : St) (M : List Ent) : List Ent :=
 e.ev lv :: e.ec s.c :: e.es s.c :: e.el s.c :: s.g.eg e.gl :: s.g.er e.gl :: s.g.ep e.gl :: s.g.ec e.gl :: s.lg.eb e.wl :: s.lg.em e.wl :: (lE ++ (e.wl.lE ++ (e.wl.sE ++ (e.sa.ents ++ M))))
structure LogOk (lv : Value) (lE : List Ent) (log : List (ByteArray × ByteArray)) : Prop where
 own : Own 91 2 lv (log.map tV) lE
 hex : ∀ x ∈ log, HexOk x.2
 few : log.length ≤ 100
abbrev St.put (s : St) (line : ByteArray) : St := { s with log := s.log ++ [(line, gL (jH (pU s.log) line))] }
theorem LogOk.next {lv lv' : Value} {lE lE' : List Ent} {log : List (ByteArray × ByteArray)} {line : ByteArray} (h : LogOk lv lE log) (hn : log.length < 100) (ho : Own 91 2 lv' (log.map tV ++ [tV (line, gL (jH (pU log) line))]) lE') :
  LogOk lv' lE' (log ++ [(line, gL (jH (pU log) line))]) :=
 ⟨by simpa using ho, fun x hx => by
  rcases List.mem_append.1 hx with hx | hx
  ·exact h.hex x hx
  ·rw [List.mem_singleton.1 hx]; exact aO3 (tU _ _), by simp; omega⟩
section
variable {w0 : World} {M : List Ent}
theorem tW {ea : EvAt} {lv : Value} (hev : ea.ev lv ∈ M) : ∀ w, Ok w0 M w → Calls Tryz.prog 56 #[.pointer (some ⟨ea.eb, 0, none⟩)] w (fun e w' => e = .returned (.bool true) ∧ Ok w0 M w') := by
 refine enter (vs := [_]) Tryz.func56 rfl Tryz.ntmps56 rfl (aE (aA (tv (aD rfl) (aF (Tr.keep (env' := [(0, _)]) ⟨rfl, trivial⟩ ?_)))))
 refine aB (aE (aA (tv (aC rfl) (tv (cM (v2 := .bool true) (nQ Tryz.underlying46 rfl rfl) rfl) (tv (aC rfl) ?_)))))
 refine cV rfl rfl (aC rfl) (cV rfl rfl (aM rfl) (cV rfl rfl (aI iI rfl) (cV rfl rfl (aG fE rfl (aK hev rfl)) (cV rfl rfl (cM (v2 := .bool true) (nQ Tryz.underlying68 rfl rfl) rfl) (tv (cG rfl rfl) ?_)))))
 refine tv (aD rfl) (aF (Tr.keep (env' := [(2, _)]) ⟨rfl, trivial⟩ (aB (aQ (aW rfl rfl (fun w hw => ?_))))))
 exact ⟨rfl, hw⟩
theorem aO4 (hT : Tab w0) {A : Option Addr} {c : Nat} {log : List (ByteArray × ByteArray)} {lE : List Ent} (h : LogOk (.slice A log.length c) lE log) (hs : SlRd w0 M 2 A log.length (log.map tV)) (line : ByteArray) (hl : line.size ≤ 4611686018427387904) :
  ∀ w, Ok w0 M w → Calls Tryz.prog 64 #[.slice A log.length c, .string line] w (fun e w' => e = .returned (.string (gL (jH (pU log) line))) ∧ Ok w0 M w') := by
 rcases Nat.eq_zero_or_pos log.length with h0 | h0
 ·exact bB2 hT hs (List.eq_nil_of_length_eq_zero h0) line hl
 ·obtain ⟨x, hx⟩ : ∃ x, log[log.length - 1]? = some x := ⟨_, List.getElem?_eq_getElem (by omega)⟩
  exact bB3 hT hs h0 x hx (h.hex x (List.mem_of_getElem? hx)) line hl
theorem do_ok (hT : Tab w0) {e : EvAt} {lv : Value} {lE : List Ent} {s s' : St} {line : ByteArray} (hlog : LogOk lv lE s.log) (hlt : s.log.length < 100) (hline : line.size ≤ 1000) (hsl : s'.log = s.log) (hap : ∀ w, Ok w0 (ents e lv lE s M) w → Calls Tryz.prog 63 #[.pointer (some ⟨e.eb, 0, none⟩), .string line] w (fun r w' => ∃ M2, r = .returned (.int .i64 0) ∧ (∃ x : Mv, s'.lg.Lies x.wl ∧ M2 = ents (e.mv x) lv lE s' M) ∧ Ok w0 M2 w')) :
  ∀ w, Ok w0 (ents e lv lE s M) w → Calls Tryz.prog 21 #[.pointer (some ⟨e.eb, 0, none⟩), .string line] w (fun r w' => ∃ x : Mv × Value × List Ent, r = .returned (.int .i64 0) ∧ (s'.lg.Lies x.1.wl ∧ LogOk x.2.1 x.2.2 (s'.put line).log) ∧ Ok w0 (ents (e.mv x.1) x.2.1 x.2.2 (s'.put line) M) w') := by
 have hlog' := hlog
 have hbl := hlog.few
 obtain ⟨A, c, rfl, _, _, hrd⟩ := hlog.own.rd (by simp; omega)
 simp only [List.length_map] at hlog hrd hap ⊢
 obtain ⟨g', lg', a0, b0, b1, b2, lo⟩ := s'
 dsimp only at hsl
 subst hsl
 refine enter (vs := [_, _]) Tryz.func21 rfl Tryz.ntmps21 rfl (aE (aA (tv (aD rfl) (aF (Tr.keep (env' := [(0, _), (1, _)]) ⟨rfl, rfl, trivial⟩ ?_)))))
 refine aB (aE (aE (aA (tv (aC rfl) (te (aJ aO0 rfl rfl rfl rfl (tW (ea := e) (.head _)) ?_))))))
 refine tv (bF rfl) (aF (Tr.keep (env' := [(0, _), (1, _), (12, _)]) ⟨rfl, rfl, rfl, trivial⟩ (aB (aR rfl (aO ?_)))))
 refine aB (aE (aE (aA (tv (aC rfl) (tv (aM rfl) ?_)))))
 refine tv (aI nG rfl) (tv (aG aN9 rfl (aK (.head _) rfl)) (tv (aP Tryz.underlying50 rfl) (tv (fI rfl rfl) (aF (Tr.keep (env' := [(0, _), (1, _), (18, _)]) ⟨rfl, rfl, rfl, trivial⟩ ?_)))))
 refine aB (aR (mY (by simp; omega)) (aO (aB (aE (aE ?_)))))
 refine aA (tv (aC rfl) (tv (aC rfl) (te (bP en_63 rfl rfl rfl rfl hap fun M2 hM2 => ?_))))
 obtain ⟨x, hx, rfl⟩ := hM2
 refine tv (aD rfl) (aF (Tr.keep (env' := [(0, _), (1, _), (9, _)]) ⟨rfl, rfl, rfl, trivial⟩ (aB (aE (aA ?_)))))
 refine tv (aC rfl) (tv (eF rfl rfl) (aF (Tr.keep (env' := [(0, _), (1, _), (9, _), (43, _)]) ⟨rfl, rfl, rfl, rfl, trivial⟩ (aB (aR rfl ?_)))))
 refine aO (aB (aE (wU (S1 := [(e.mv x).ev (.slice A s.log.length c)]) (S2 := []) 17 cK rfl (fX 0 rfl (List.nil_sublist _) (.cons_cons _ (List.nil_sublist _)) (aC rfl) (fX 1 rfl (List.nil_sublist _) (.cons_cons _ (List.nil_sublist _)) (aC rfl) ?_)))))
 refine fX 2 rfl (List.nil_sublist _) (.cons_cons _ (List.nil_sublist _)) (aM rfl) (fX 3 rfl (List.nil_sublist _) (.cons_cons _ (List.nil_sublist _)) (aI nG rfl) (kv 4 rfl (.cons_cons _ (List.nil_sublist _)) (aG aN9 rfl (aK (.head _) rfl)) (fX 5 rfl (List.nil_sublist _) (.cons_cons _ (List.nil_sublist _)) (aC rfl) (fX 6 rfl (List.nil_sublist _) (.cons_cons _ (List.nil_sublist _)) (aC rfl) (fX 7 rfl (List.nil_sublist _) (.cons_cons _ (List.nil_sublist _)) (aM rfl) ?_)))))
 refine fX 8 rfl (List.nil_sublist _) (.cons_cons _ (List.nil_sublist _)) (aI nG rfl) (kv 9 rfl (.cons_cons _ (List.nil_sublist _)) (aG aN9 rfl (aK (.head _) rfl)) (fX 10 rfl (List.nil_sublist _) (.cons_cons _ (List.nil_sublist _)) (aC rfl) (eM 11 rfl rfl (by kernel_rfl) (aJ en_64 rfl rfl rfl rfl (aO4 hT hlog (hrd _ _ (fun z hz => (.tail _ (.tail _ (.tail _ (.tail _ (.tail _ (.tail _ (.tail _ (.tail _ (.tail _ (.tail _ (List.mem_append_left _ hz))))))))))))) line (by omega)) (fQ (by kernel_rfl) (.cons_cons _ (List.nil_sublist _)) (fX 12 rfl (List.nil_sublist _) (.cons_cons _ (List.nil_sublist _)) (bU rfl (v := .agg #[.string line, .string (gL (jH (pU s.log) line))]) (fun w => by kernel_rfl)) ?_))))))
 refine eM 13 rfl rfl (by kernel_rfl) (bN (E := 91) (l := tV (line, gL (jH (pU s.log) line))) rfl (fun w => by kernel_rfl) rfl fun b58 => (fQ (by kernel_rfl) (.cons _ (.cons_cons _ (List.nil_sublist _))) (eM 14 rfl rfl (by kernel_rfl) (fN Tryz.underlying50 bK8 rfl (by decide) rfl rfl hlog.own (pk .here (mH (.there (.there (.there (.there (.there (.there (.there (.there (.there (.there .here)))))))))) (.refl _))) rfl (by simp [tV, Value.oneCell']) (by have := hlog.few; simp; omega) (by have := hlog.few; simp [maxLen]; omega) rfl fun v1 E1 hO1 => (fQ (by kernel_rfl) (List.Sublist.trans (.cons_cons _ (List.nil_sublist _)) (List.sublist_append_right _ _)) (fX 15 rfl (List.nil_sublist _) (List.Sublist.trans (.cons_cons _ (List.nil_sublist _)) (List.sublist_append_right _ _)) (aM rfl) (fX 16 rfl (List.nil_sublist _) (List.Sublist.trans (.cons_cons _ (List.nil_sublist _)) (List.sublist_append_right _ _)) (aI nG rfl) ?_)))))))
 refine eM 17 rfl rfl (by kernel_rfl) (bR iz_50 rfl rfl (Own.one hO1) (.succ (.succ (.succ (.succ (.succ (.succ (.succ (.succ (.succ (.succ (.succ (.succ (.succ (.succ (.succ (.succ (.succ (.succ (.succ (.succ (.succ (.succ (.succ (.succ (.succ (.succ (.succ (.succ (.succ (.succ (.succ (.succ (.succ (.succ .zero)))))))))))))))))))))))))))))))))) (.right .here) (eS (by kernel_rfl) (List.nil_sublist _) (rS (by kernel_rfl) (Tr.keep (env' := []) trivial (aB (aE ?_))))))
 refine aA (tv (aD rfl) (aF (Tr.keep (env' := [(4, _)]) ⟨rfl, trivial⟩ (aB (aQ ?_)))))
 refine aW rfl rfl (fun w hw => ?_)
 exact ⟨(x, v1, E1), rfl, ⟨hx, hlog'.next (by omega) hO1⟩, hw.perm (pk (.right .here) (pk (.right .here) (pk (.right .here) (pk (.right .here) (pk (.right .here) (pk (.right .here) (pk (.right .here) (pk (.right .here) (pk (.right .here) (pk (.right .here) (mH .here (.refl _))))))))))))⟩
theorem bK9 {e : EvAt} {lv : Value} {lE : List Ent} {s : St} {line : ByteArray} {z : Int} (hz : z ≠ 0) (hlog : LogOk lv lE s.log) (hap : ∀ w, Ok w0 (ents e lv lE s M) w → Calls Tryz.prog 63 #[.pointer (some ⟨e.eb, 0, none⟩), .string line] w (fun r w' => r = .returned (.int .i64 z) ∧ Ok w0 (ents e lv lE s M) w')) :
  ∀ w, Ok w0 (ents e lv lE s M) w → Calls Tryz.prog 21 #[.pointer (some ⟨e.eb, 0, none⟩), .string line] w (fun r w' => r = .returned (.int .i64 z) ∧ Ok w0 (ents e lv lE s M) w') := by
 have hlog' := hlog
 have hbl := hlog.few
 obtain ⟨A, c, rfl, _, _, hrd⟩ := hlog.own.rd (by simp; omega)
 simp only [List.length_map] at hlog hrd hap ⊢
 refine enter (vs := [_, _]) Tryz.func21 rfl Tryz.ntmps21 rfl (aE (aA (tv (aD rfl) (aF (Tr.keep (env' := [(0, _), (1, _)]) ⟨rfl, rfl, trivial⟩ ?_)))))
 refine aB (aE (aE (aA (tv (aC rfl) (te (aJ aO0 rfl rfl rfl rfl (tW (ea := e) (.head _)) ?_))))))
 refine tv (bF rfl) (aF (Tr.keep (env' := [(0, _), (1, _), (12, _)]) ⟨rfl, rfl, rfl, trivial⟩ (aB (aR rfl (aO ?_)))))
 refine aB (aE (aE (aA (tv (aC rfl) (tv (aM rfl) ?_)))))
 refine tv (aI nG rfl) (tv (aG aN9 rfl (aK (.head _) rfl)) (tv (aP Tryz.underlying50 rfl) (tv (fI rfl rfl) (aF (Tr.keep (env' := [(0, _), (1, _), (18, _)]) ⟨rfl, rfl, rfl, trivial⟩ ?_)))))
 refine aB (aR (mY (by simp; omega)) (aO (aB (aE (aE ?_)))))
 refine aA (tv (aC rfl) (tv (aC rfl) (te (aJ en_63 rfl rfl rfl rfl hap (tv (aD rfl) (aF ?_))))))
 refine Tr.keep (env' := [(0, _), (1, _), (9, _)]) ⟨rfl, rfl, rfl, trivial⟩ (aB (aE (aA (tv (aC rfl) (tv (eF rfl rfl) ?_)))))
 refine aF (Tr.keep (env' := [(0, _), (1, _), (9, _), (43, _)]) ⟨rfl, rfl, rfl, rfl, trivial⟩ (aB (bI (mY (by simp [hz])) (aE (aA ?_)))))
 refine tv (aC rfl) (tv (aD rfl) (aF (Tr.keep (env' := [(4, _)]) ⟨rfl, trivial⟩ (aB (aQ ?_)))))
 refine aN (aW rfl rfl (fun w hw => ?_))
 exact ⟨rfl, hw⟩
end
end Go.Proofs.W
set_option linter.unusedVariables false
set_option linter.unusedSimpArgs false
set_option linter.unusedSectionVars false
set_option maxRecDepth 100000
namespace Go.Proofs.W
open Go Go.Sl Go.RowKit Go.Proofs
attribute [local irreducible] Go.Sl.Eff
theorem aT5 : bY Tryz.prog 204 = some (none) := by kernel_rfl
theorem bL0 : bY Tryz.prog 92 = some (none) := by kernel_rfl
theorem en_165 : aV Tryz.prog 165 := aL Tryz.func165 (by kernel_rfl) (by kernel_rfl)
theorem en_166 : aV Tryz.prog 166 := aL Tryz.func166 (by kernel_rfl) (by kernel_rfl)
theorem en_229 : aV Tryz.prog 229 := aL Tryz.func229 (by kernel_rfl) (by kernel_rfl)
theorem sS : bC Tryz.prog 206 0 = some 0 := by kernel_rfl
theorem sU : bC Tryz.prog 206 1 = some 1 := by kernel_rfl
theorem inf_5 : (Tryz.prog.info? 5).map (fun i => (i.zero, i.size, i.bytes)) = some (some ((.int .u8 0)), 1, 1) := by kernel_rfl
theorem iz_204 : (Tryz.prog.info? 204).map (·.size) = some 1 := by kernel_rfl
theorem iz_206 : (Tryz.prog.info? 206).map (·.size) = some 2 := by kernel_rfl
theorem iz_92 : (Tryz.prog.info? 92).map (·.size) = some 1 := by kernel_rfl
theorem uY : wP Tryz.prog 230 Extern.AbiNoEscape.same := ⟨_, Tryz.func230, by kernel_rfl, by kernel_rfl, by kernel_rfl, by kernel_rfl⟩
section
variable {w0 : World} {M : List Ent}
theorem aT6 (s : ByteArray) (c : UInt8) : ∀ w, Ok w0 M w → Calls Tryz.prog 229 #[.string s, .string ⟨#[c]⟩] w (fun e w' => e = .returned (.int .i64 (rT s c)) ∧ Ok w0 M w') := by
 refine enter (vs := [_, _]) Tryz.func229 rfl Tryz.ntmps229 rfl (aE (aA (tv (aD rfl) (aF (Tr.keep (env' := [(0, _), (1, _)]) ⟨rfl, rfl, trivial⟩ ?_)))))
 refine aB (aE (aA (tv (aC rfl) (tv (aC rfl) (te (aJ bJ4 rfl rfl rfl rfl (aA2 s c) ?_))))))
 refine tv (aD rfl) (aF (Tr.keep (env' := [(4, _)]) ⟨rfl, trivial⟩ (aB (aQ (aW rfl rfl (fun w hw => ?_))))))
 exact ⟨rfl, hw⟩
theorem aT7 (s : ByteArray) (c : UInt8) : ∀ w, Ok w0 M w → Calls Tryz.prog 165 #[.string s, .string ⟨#[c]⟩, .int .i64 0] w (fun e w' => ∃ b : Nat × Nat × Nat, e = .returned (.func (.func 227) #[] #[.pointer (some ⟨b.2.1, 0, none⟩), .pointer (some ⟨b.2.2, 0, none⟩), .pointer (some ⟨b.1, 0, none⟩)]) ∧ True ∧ Ok w0 (cel b.1 3 [.int .i64 0] :: cel b.2.1 9 [.string ⟨#[c]⟩] :: cel b.2.2 9 [.string s] :: M) w') := by
 refine enter (vs := [_, _, _]) Tryz.func165 rfl Tryz.ntmps165 rfl (aE (aA (te (eL rfl rfl rfl fun b3 => (te (eL rfl rfl rfl fun b4 => (te (eL rfl rfl rfl fun b5 => ?_))))))))
 refine tv (aD rfl) (aF (Tr.keep (env' := [(3, _), (4, _), (5, _)]) ⟨rfl, rfl, rfl, trivial⟩ (aB (aE (aA ?_)))))
 refine tv (bG rfl rfl) (tv (aD rfl) (aF (Tr.keep (env' := [(6, _)]) ⟨rfl, trivial⟩ (aB (aQ ?_)))))
 refine aW rfl rfl (fun w hw => ?_)
 exact ⟨(b5, b4, b3), rfl, trivial, hw⟩
theorem aO5 (s : ByteArray) (c : UInt8) : ∀ w, Ok w0 M w → Calls Tryz.prog 107 #[.string s, .string ⟨#[c]⟩] w (fun e w' => ∃ b : Nat × Nat × Nat, e = .returned (.func (.func 227) #[] #[.pointer (some ⟨b.2.1, 0, none⟩), .pointer (some ⟨b.2.2, 0, none⟩), .pointer (some ⟨b.1, 0, none⟩)]) ∧ True ∧ Ok w0 (cel b.1 3 [.int .i64 0] :: cel b.2.1 9 [.string ⟨#[c]⟩] :: cel b.2.2 9 [.string s] :: M) w') := by
 refine enter (vs := [_, _]) Tryz.func107 rfl Tryz.ntmps107 rfl (aE (aA (tv (aD rfl) (aF (Tr.keep (env' := [(0, _), (1, _)]) ⟨rfl, rfl, trivial⟩ ?_)))))
 refine aB (aE (aA (tv (aC rfl) (tv (aC rfl) (te (bP en_165 rfl rfl rfl rfl (aT7 s c) fun b _ => ?_))))))
 refine tv (aD rfl) (aF (Tr.keep (env' := [(4, _)]) ⟨rfl, trivial⟩ (aB (aQ (aW rfl rfl (fun w hw => ?_))))))
 exact ⟨b, rfl, trivial, hw⟩
theorem bL1 {σ : Type} {inv : List ByteArray → σ → Prop} {Me : σ → List Ent} {l : Nat} {b : Nat × Nat × Nat} {c : UInt8} {rr : Loop} {Fr : List Ent} (str : ByteArray) (hsz : str.size ≤ 4611686018427387904)
  (hy : Sl.Yields Tryz.prog w0 dG inv Me (dX c str.size str) l rr) (s0 : σ) (h0 : inv [] s0) :
  ∀ w, Ok w0 (jX l rr :: (cel b.1 3 [.int .i64 0] :: cel b.2.1 9 [.string ⟨#[c]⟩] :: cel b.2.2 9 [.string str] :: (Fr ++ Me s0))) w → Calls Tryz.prog 227 #[.func (.yield l) #[] #[], .pointer (some ⟨b.2.1, 0, none⟩), .pointer (some ⟨b.2.2, 0, none⟩), .pointer (some ⟨b.1, 0, none⟩)] w (fun e w' => (∃ v, e = .returned v) ∧ ∃ s : σ, inv (dX c str.size str) s ∧ Ok w0 (jX l rr :: (Fr ++ Me s)) w') := by
 refine enter (vs := [_, _, _, _]) Tryz.func227 rfl Tryz.ntmps227 rfl (aE (aE (aA (tv (aG iP rfl (aK (.tail _ (.tail _ (.head _))) rfl)) (tv (cM (v2 := .int .i64 1) (eO Tryz.underlying9 rfl) rfl) ?_)))))
 refine tv (cW rfl rfl) (aF (Tr.keep (env' := [(0, _), (1, _), (2, _), (3, _), (11, _)]) ⟨rfl, rfl, rfl, rfl, rfl, trivial⟩ (aB (aR rfl (aO ?_)))))
 refine aB (aE (aX (dW (fun z : List ByteArray × Nat × ByteArray × σ => [(0, .func (.yield l) #[] #[]), (1, .pointer (some ⟨b.2.1, 0, none⟩)), (2, .pointer (some ⟨b.2.2, 0, none⟩)), (3, .pointer (some ⟨b.1, 0, none⟩))]) (fun z : List ByteArray × Nat × ByteArray × σ => jX l rr :: (cel b.1 3 [.int .i64 0] :: cel b.2.1 9 [.string ⟨#[c]⟩] :: cel b.2.2 9 [.string z.2.2.1] :: (Fr ++ Me z.2.2.2))) (fun z : List ByteArray × Nat × ByteArray × σ => z.2.2.1.size ≤ z.2.1 ∧ z.2.1 ≤ str.size ∧ dX c str.size str = z.1 ++ dX c z.2.1 z.2.2.1 ∧ inv z.1 z.2.2.2) (fun z : List ByteArray × Nat × ByteArray × σ => z.2.1) ([], str.size, str, s0) ⟨Nat.le_refl _, Nat.le_refl _, rfl, h0⟩ ⟨rfl, rfl, rfl, rfl, trivial⟩ (.refl _) ?_)))
 intro K ⟨pre, n, cur, s⟩ ⟨hn, hnl, hxs, hI⟩ IH
 dsimp only at hn hnl hxs hI IH ⊢
 obtain ⟨post, hp, hp1, hp2⟩ := uR c n cur hn
 refine aX (aE (aA (tv (aG iP rfl (aK (.tail _ (.tail _ (.tail _ (.head _)))) rfl)) (tv (aG iP rfl (aK (.tail _ (.tail _ (.head _))) rfl)) (te (aJ en_229 rfl rfl rfl rfl (aT6 cur c) ?_))))))
 refine tv (aD rfl) (aF (Tr.keep (env' := [(0, _), (1, _), (2, _), (3, _), (7, _)]) ⟨rfl, rfl, rfl, rfl, rfl, trivial⟩ (aB (aE (aE ?_)))))
 refine aA (tv (aC rfl) (tv (dI rfl rfl) (aF (Tr.keep (env' := [(0, _), (1, _), (2, _), (3, _), (7, _), (33, _)]) ⟨rfl, rfl, rfl, rfl, rfl, rfl, trivial⟩ (aB ?_)))))
 refine bD rfl (fun hm => ?_) (fun hm => ?_)
 ·have h9 : ¬ 0 ≤ rT cur c := by have := of_decide_eq_true hm; omega
  have hcur : (gS cur c).1 = cur := by simp [gS, h9]
  obtain rfl := hp2 (by simp [gS, h9])
  refine cY (aS (aZ8 rfl (aS (bX (aB ?_)))))
  refine kF (cJ (aC rfl) rfl (cJ (aG iP rfl (aK (.tail _ (.tail _ (.tail _ (.head _)))) rfl)) rfl (yC rfl (oA rfl rfl rfl (fun w hw => hy (_ :: _ :: _ :: Fr) pre cur [] (by rw [hxs, hp, hcur]) s hI w hw) (fun s1 h1 => (fZ (Tr.keep (env' := []) trivial ?_)))))))
  refine eV rfl (fun w hw => ?_)
  exact ⟨⟨_, rfl⟩, s1, by rw [hxs, hp, hcur]; exact h1, hw.sub (.cons_cons _ (.cons _ (.cons _ (.cons _ (.refl _)))))⟩
 ·have h9 : 0 ≤ rT cur c := by have := of_decide_eq_false hm; omega
  have hlt := aS6 h9
  have hc1 : cur.extract 0 (rT cur c).toNat = (gS cur c).1 := by simp [gS, h9]
  have hc2 : cur.extract ((rT cur c).toNat + 1) cur.size = (gS cur c).2.1 := by simp [gS, h9]
  obtain ⟨k, rfl, rfl, hk⟩ := hp1 (by simp [gS, h9])
  refine aO (aB (aE (aA (tv (aG iP rfl (aK (.tail _ (.tail _ (.tail _ (.head _)))) rfl)) (tv (aC rfl) ?_)))))
  refine tv (aG bB rfl (aK (.tail _ (.head _)) rfl)) (tv (cM (v2 := .int .i64 (rT cur c)) (cC rfl rfl (by omega)) (congrArg (Value.int .i64) (Int.add_zero _))) (tv (cM (v2 := .string (gS cur c).1) (aH0 (rT cur c).toNat Tryz.underlying9 rfl rfl (by omega) (by omega)) (congrArg Value.string hc1)) (tv (aD rfl) (aF (Tr.keep (env' := [(0, _), (1, _), (2, _), (3, _), (7, _), (8, _)]) ⟨rfl, rfl, rfl, rfl, rfl, rfl, trivial⟩ ?_)))))
  refine aB (aE (aE (kF (cJ (aC rfl) rfl (cJ (aC rfl) rfl ?_)))))
  refine yC rfl (oA rfl rfl rfl (fun w hw => hy (_ :: _ :: _ :: Fr) pre _ _ (by rw [hxs, hp]) s hI w hw) (fun s1 h1 => (cJ (bF rfl) rfl (fZ (Tr.keep (env' := [(0, _), (1, _), (2, _), (3, _), (7, _), (42, _)]) ⟨rfl, rfl, rfl, rfl, rfl, rfl, trivial⟩ (aB (aR rfl ?_)))))))
  refine aO (aB (aA (tv (aG iP rfl (aK (.tail _ (.tail _ (.tail _ (.head _)))) rfl)) (tv (aC rfl) (tv (aG iP rfl (aK (.tail _ (.tail _ (.head _))) rfl)) ?_)))))
  refine tv (cM (v2 := .int .i64 1) (eO Tryz.underlying9 rfl) rfl) (tv (cM (v2 := .int .i64 (((rT cur c).toNat + 1 : Nat) : Int)) (cC rfl rfl (by omega)) (congrArg (Value.int .i64) (by omega))) (tv (cM (v2 := .string (gS cur c).2.1) (bI9 ((rT cur c).toNat + 1) Tryz.underlying9 rfl rfl rfl (by omega)) (congrArg Value.string hc2)) (te (bR oI rfl rfl rfl .zero (.there (.there (.there .here))) (aF (Tr.keep (env' := [(0, _), (1, _), (2, _), (3, _)]) ⟨rfl, rfl, rfl, rfl, trivial⟩ ?_))))))
  refine cX (aB ?_)
  refine nD (IH (pre ++ [(gS cur c).1], k, (gS cur c).2.1, s1) ⟨hk, by show k ≤ str.size; omega, by rw [hxs, hp]; simp, h1⟩ (by simp)) ⟨rfl, rfl, rfl, rfl, trivial⟩ (.refl _)
theorem liesB : liesAt Tryz.prog Tryz.prog.depth 206 (2 / Tryz.prog.cellsOf 206) 0 206 1 = true := by kernel_rfl
theorem cellsU8 : Tryz.prog.cellsOf 5 = 1 := by kernel_rfl
theorem zJ {b : Nat} {v : Value} : ∀ w, Ok w0 (cel b 206 [.pointer none, v] :: M) w → Calls Tryz.prog 166 #[.pointer (some ⟨b, 0, none⟩)] w (fun e w' => e = .returned (.tuple #[]) ∧ Ok w0 (cel b 206 [.pointer (some ⟨b, 0, none⟩), v] :: M) w') := by
 refine enter (vs := [_]) Tryz.func166 rfl Tryz.ntmps166 rfl (aE (aA (tv (aC rfl) (tv (aM rfl) (tv (aI sS rfl) ?_)))))
 refine tv (aG aT5 rfl (aK (.head _) rfl)) (tv (cM (v2 := .bool true) (vU Tryz.underlying204 rfl rfl) rfl) (aF (Tr.keep (env' := [(0, _), (6, _)]) ⟨rfl, rfl, trivial⟩ (aB (bI rfl ?_)))))
 refine aA (tv (aC rfl) (tv (aC rfl) (tv (aQ0 Tryz.underlying204 Tryz.underlying329 iz_206 (by decide) rfl (.head _) (by simp)) (te ?_))))
 refine aQ1 (v := .pointer (some ⟨b, 0, none⟩)) ?_ ?_ ?_ ?_
 ·exact uY
 ·rfl
 ·rfl
 refine tv (aE9 Tryz.underlying329 Tryz.underlying204 (by kernel_rfl) rfl (.head _) rfl liesB) (tv (aM rfl) (tv (aI sS rfl) (te (bR iz_204 rfl rfl rfl .zero .here (aF (Tr.keep (env' := []) trivial ?_))))))
 refine eV rfl (fun w hw => ?_)
 exact ⟨rfl, hw⟩
theorem zK {b : Nat} {v : Value} : ∀ w, Ok w0 (cel b 206 [.pointer (some ⟨b, 0, none⟩), v] :: M) w → Calls Tryz.prog 166 #[.pointer (some ⟨b, 0, none⟩)] w (fun e w' => e = .returned (.tuple #[]) ∧ Ok w0 (cel b 206 [.pointer (some ⟨b, 0, none⟩), v] :: M) w') := by
 refine enter (vs := [_]) Tryz.func166 rfl Tryz.ntmps166 rfl (aE (aA (tv (aC rfl) (tv (aM rfl) (tv (aI sS rfl) ?_)))))
 refine tv (aG aT5 rfl (aK (.head _) rfl)) (tv (cM (v2 := .bool false) (vU Tryz.underlying204 rfl rfl) rfl) (aF (Tr.keep (env' := [(0, _), (6, _)]) ⟨rfl, rfl, trivial⟩ (aB (aR rfl ?_)))))
 refine aE (aA (tv (aC rfl) (tv (aM rfl) (tv (aI sS rfl) (tv (aG aT5 rfl (aK (.head _) rfl)) ?_)))))
 refine tv (aC rfl) (tv (aL5 Tryz.underlying204 (by kernel_rfl) rfl rfl) (aF (Tr.keep (env' := [(19, _)]) ⟨rfl, trivial⟩ (aB (aR rfl ?_)))))
 refine aO (eV rfl (fun w hw => ?_))
 exact ⟨rfl, hw⟩
theorem aO6 {b : Nat} {v : Value} {p : Option Addr} (hp : p = none ∨ p = some ⟨b, 0, none⟩) : ∀ w, Ok w0 (cel b 206 [.pointer p, v] :: M) w → Calls Tryz.prog 166 #[.pointer (some ⟨b, 0, none⟩)] w (fun e w' => e = .returned (.tuple #[]) ∧ Ok w0 (cel b 206 [.pointer (some ⟨b, 0, none⟩), v] :: M) w') := by
 rcases hp with rfl | rfl
 ·exact zJ
 ·exact zK
theorem pV {b : Nat} {v : Value} {p : Option Addr} {bs : List UInt8} {E : List Ent} (str : ByteArray) (hp : p = none ∨ p = some ⟨b, 0, none⟩) (hO : Own 5 1 v (fM bs) E) (hb : bs.length + str.size ≤ 140737488355328) (h0 : 0 < str.size) :
  ∀ w, Ok w0 (cel b 206 [.pointer p, v] :: (E ++ M)) w → Calls Tryz.prog 108 #[.pointer (some ⟨b, 0, none⟩), .string str] w (fun e w' => ∃ x : Value × List Ent, e = .returned (.tuple #[.int .i64 (str.size : Int), .nilIface]) ∧ Own 5 1 x.1 (fM (bs ++ str.data.toList)) x.2 ∧ Ok w0 (cel b 206 [.pointer (some ⟨b, 0, none⟩), x.1] :: (x.2 ++ M)) w') := by
 refine enter (vs := [_, _]) Tryz.func108 rfl Tryz.ntmps108 rfl (aE (aA (tv (aD rfl) (tv (aD rfl) (aF ?_)))))
 refine Tr.keep (env' := [(0, _), (1, _)]) ⟨rfl, rfl, trivial⟩ (aB (aE (aA (tv (aC rfl) (te (fD en_166 rfl rfl rfl rfl (aO6 hp) ?_))))))
 refine aF (Tr.keep (env' := [(0, _), (1, _)]) ⟨rfl, rfl, trivial⟩ (aB (aE (aA (tv (aC rfl) ?_)))))
 refine tv (aC rfl) (tv (aM rfl) (tv (aI sU rfl) (tv (aG bL0 rfl (aK (.head _) rfl)) (tv (aC rfl) (te (aL4 Tryz.underlying92 Tryz.underlying9 inf_5 rfl rfl hO (mH (.there .here) (.refl _)) hb rfl h0 fun v1 E1 hO1 ho1 => ?_))))))
 refine tv (aM rfl) (tv (aI sU rfl) (te (bR iz_92 rfl rfl ho1 (.succ .zero) (.right .here) (aF (Tr.keep (env' := [(1, _)]) ⟨rfl, trivial⟩ (aB ?_))))))
 refine aE (aA (tv (aC rfl) (tv (eO Tryz.underlying9 rfl) (tv (aD rfl) (tv (aD rfl) ?_)))))
 refine aF (Tr.keep (env' := [(4, _), (5, _)]) ⟨rfl, rfl, trivial⟩ (aB (aQ (gG rfl rfl rfl (fun w hw => ?_)))))
 exact ⟨(v1, E1), rfl, hO1, hw.perm (pk (.right .here) (mH .here (.refl _)))⟩
theorem uZ {b g c : Nat} {l : List Value} {bs : List UInt8} (h0 : 0 < bs.length) (hc : 0 < c) (hb : bs.length ≤ 140737488355328) (hl : l.take bs.length = kC bs) :
  ∀ w, Ok w0 (cel b 206 [.pointer (some ⟨b, 0, none⟩), .slice (some ⟨g, 0, none⟩) bs.length c] :: cel g 5 l :: M) w → Calls Tryz.prog 110 #[.pointer (some ⟨b, 0, none⟩)] w (fun e w' => e = .returned (.string ⟨bs.toArray⟩) ∧ Ok w0 M w') := by
 refine enter (vs := [_]) Tryz.func110 rfl Tryz.ntmps110 rfl (aE (aA (tv (aD rfl) (aF (Tr.keep (env' := [(0, _)]) ⟨rfl, trivial⟩ ?_)))))
 refine aB (aE (dV (.cons_cons _ (.cons _ (.refl _))) cK rfl (dv 0 rfl (.cons_cons _ (.cons _ (.refl _))) (aC rfl) (dv 1 rfl (.cons_cons _ (.cons _ (.refl _))) (aM rfl) (dv 2 rfl (.cons_cons _ (.cons _ (.refl _))) (aI sU rfl) ?_)))))
 refine dv 3 rfl (.cons_cons _ (.cons _ (.refl _))) (aG bL0 rfl (aK (.head _) rfl)) (dv 4 rfl (.cons_cons _ (.cons _ (.refl _))) (rV rfl hc) (dv 5 rfl (.cons_cons _ (.cons _ (.refl _))) (aC rfl) (dv 6 rfl (.cons_cons _ (.cons _ (.refl _))) (aM rfl) (dv 7 rfl (.cons_cons _ (.cons _ (.refl _))) (aI sU rfl) (dv 8 rfl (.cons_cons _ (.cons _ (.refl _))) (aG bL0 rfl (aK (.head _) rfl)) ?_)))))
 refine dv 9 rfl (.cons_cons _ (.cons _ (.refl _))) (aP Tryz.underlying92 rfl) (de 10 rfl (wT (bs := bs) Tryz.underlying285 cellsU8 rfl rfl (pk (.there .here) (.refl _)) hl h0 hb rfl (aU (.refl _) (dv 11 rfl (.refl _) (aD rfl) (bQ (by kernel_rfl) (Tr.keep (env' := [(2, _)]) ⟨rfl, trivial⟩ ?_))))))
 refine aB (aQ (aW rfl rfl (fun w hw => ?_)))
 exact ⟨rfl, hw.sub (.cons _ (.refl _))⟩
end
end Go.Proofs.W
set_option linter.unusedVariables false
set_option linter.unusedSimpArgs false
set_option linter.unusedSectionVars false
set_option maxRecDepth 100000
namespace Go.Proofs.W
open Go Go.Sl Go.RowKit Go.Proofs
attribute [local irreducible] Go.Sl.Eff
theorem ca_203 : bY Tryz.prog 203 = some (none) := by kernel_rfl
theorem en_107 : aV Tryz.prog 107 := aL Tryz.func107 (by kernel_rfl) (by kernel_rfl)
theorem bL2 : aV Tryz.prog 108 := aL Tryz.func108 (by kernel_rfl) (by kernel_rfl)
theorem en_109 : aV Tryz.prog 109 := aL Tryz.func109 (by kernel_rfl) (by kernel_rfl)
theorem en_110 : aV Tryz.prog 110 := aL Tryz.func110 (by kernel_rfl) (by kernel_rfl)
theorem en_167 : aV Tryz.prog 167 := aL Tryz.func167 (by kernel_rfl) (by kernel_rfl)
theorem en_21 : aV Tryz.prog 21 := aL Tryz.func21 (by kernel_rfl) (by kernel_rfl)
theorem en_227 : aV Tryz.prog 227 := aL Tryz.func227 (by kernel_rfl) (by kernel_rfl)
theorem en_231 : aV Tryz.prog 231 := aL Tryz.func231 (by kernel_rfl) (by kernel_rfl)
theorem en_251 : aV Tryz.prog 251 := aL Tryz.func251 (by kernel_rfl) (by kernel_rfl)
theorem inf_206 : (Tryz.prog.info? 206).map (fun i => (i.zero, i.size, i.bytes)) = some (some (.agg #[.pointer none, .slice none 0 0]), 2, 32) := by kernel_rfl
abbrev okB : ByteArray := ⟨#[111, 107, 10]⟩
abbrev errB (n : Nat) : ByteArray := (⟨#[101, 114, 114, 111, 114, 32]⟩ : ByteArray) ++ (⟨#[UInt8.ofNat (48 + n)]⟩ : ByteArray) ++ (⟨#[10]⟩ : ByteArray)
theorem tX (n : Nat) : (errB n).size = 8 := rfl
def oF (n : Nat) : ByteArray := if n = 0 then okB else errB n
theorem bB4 : ∀ n, n < 10 → (⟨#[48, 49, 50, 51, 52, 53, 54, 55, 56, 57, 97, 98, 99, 100, 101, 102, 103, 104, 105, 106, 107, 108, 109, 110, 111, 112, 113, 114, 115, 116, 117, 118, 119, 120, 121, 122]⟩ : ByteArray).extract n (n + 1) = ⟨#[UInt8.ofNat (48 + n)]⟩ := by decide
def gK (w0 : World) (e : EvAt) (s s' : St) (line : ByteArray) (code : Nat) : Prop :=
 ∀ (x : Mv) (lv : Value) (lE M : List Ent), s.lg.Lies x.wl → LogOk lv lE s.log → ∀ w, Ok w0 (ents (e.mv x) lv lE s M) w → Calls Tryz.prog 21 #[.pointer (some ⟨e.eb, 0, none⟩), .string line] w
  (fun r w' => ∃ y : Mv × Value × List Ent, r = .returned (.int .i64 (code : Int)) ∧ (s'.lg.Lies y.1.wl ∧ LogOk y.2.1 y.2.2 s'.log) ∧ Ok w0 (ents (e.mv y.1) y.2.1 y.2.2 s' M) w')
theorem bB5 {T : TypeId} {v : Value} {bs : List UInt8} {E : List Ent} (h : Own T 1 v (fM bs) E) (h0 : 0 < bs.length) : ∃ g c l, v = .slice (some ⟨g, 0, none⟩) bs.length c ∧ E = [cel g T l] ∧ l.take bs.length = kC bs ∧ 0 < c := by
 rcases h.sh with ⟨_, h1, _⟩ | ⟨b, c, l, h1, h2, h3, h4, h5, h6⟩
 ·simp at h1; subst h1; simp at h0
 ·simp only [List.length_map, Nat.mul_one] at h1 h4 h6
  exact ⟨b, c, l, h1, h2, by rw [h6, mB], by omega⟩
structure SaidSt where
 x : Mv
 lv : Value
 lE : List Ent
 s : St
 p : Option Addr
 v : Value
 E : List Ent
section
variable {w0 : World} {M : List Ent}
theorem small_c (n : Nat) (hn : n < 10) : ∀ w, Ok w0 M w → Calls Tryz.prog 251 #[.int .i64 (n : Int)] w (fun e w' => e = .returned (.string ⟨#[UInt8.ofNat (48 + n)]⟩) ∧ Ok w0 M w') := by
 refine enter (vs := [_]) Tryz.func251 rfl Tryz.ntmps251 rfl (aE (aA (tv (aD rfl) (aF (Tr.keep (env' := [(0, _)]) ⟨rfl, trivial⟩ ?_)))))
 refine aB (aE (aE (aA (tv (aC rfl) (tv (dI rfl rfl) ?_)))))
 refine aF (Tr.keep (env' := [(0, _), (4, _)]) ⟨rfl, rfl, trivial⟩ (aB (bI (mY (by simp; omega)) (aE (aA ?_)))))
 refine tv (aC rfl) (tv (aC rfl) (tv (cM (v2 := .int .i64 ((n + 1 : Nat) : Int)) (cC rfl rfl (by omega)) (congrArg (Value.int .i64) (by omega))) (tv (cM (v2 := .string ⟨#[UInt8.ofNat (48 + n)]⟩) (r_ss_lh n (n + 1) Tryz.underlying9 rfl rfl rfl rfl rfl (by omega) (by show n + 1 ≤ 36; omega)) (congrArg Value.string (bB4 n hn))) (tv (aD rfl) (aF ?_)))))
 refine Tr.keep (env' := [(2, _)]) ⟨rfl, trivial⟩ (aB (aQ (aN (aW rfl rfl (fun w hw => ?_)))))
 exact ⟨rfl, hw⟩
theorem bL3 (n : Nat) (hn : n < 10) : ∀ w, Ok w0 M w → Calls Tryz.prog 231 #[.int .i64 (n : Int), .int .i64 10] w (fun e w' => e = .returned (.string ⟨#[UInt8.ofNat (48 + n)]⟩) ∧ Ok w0 M w') := by
 refine enter (vs := [_, _]) Tryz.func231 rfl Tryz.ntmps231 rfl (aE (aA (tv (aD rfl) (aF (Tr.keep (env' := [(0, _), (1, _)]) ⟨rfl, rfl, trivial⟩ ?_)))))
 refine aB (aE (aE (aA (tv (aC rfl) (tv (cW rfl rfl) ?_)))))
 refine aF (Tr.keep (env' := [(0, _), (1, _), (11, _)]) ⟨rfl, rfl, rfl, trivial⟩ (aB (bI rfl (aE (aE ?_)))))
 refine aA (tv (aC rfl) (tv (cM (v2 := .bool true) (iF rfl rfl) (congrArg Value.bool (by simp))) (tv (aC rfl) (cV rfl rfl (aC rfl) (cV rfl rfl (cM (v2 := .bool true) (dI rfl rfl) (congrArg Value.bool (by simp; omega))) ?_)))))
 refine tv (cG rfl rfl) (aF (Tr.keep (env' := [(0, _), (17, _)]) ⟨rfl, rfl, trivial⟩ (aB (bI rfl (aE ?_)))))
 refine aA (tv (aC rfl) (te (aJ en_251 rfl rfl rfl rfl (small_c n hn) (tv (aD rfl) (aF (Tr.keep (env' := [(4, _)]) ⟨rfl, trivial⟩ ?_))))))
 refine aB (aQ (aN (aN (aW rfl rfl (fun w hw => ?_)))))
 exact ⟨rfl, hw⟩
theorem itoaI_c (n : Nat) (hn : n < 10) : ∀ w, Ok w0 M w → Calls Tryz.prog 167 #[.int .i64 (n : Int)] w (fun e w' => e = .returned (.string ⟨#[UInt8.ofNat (48 + n)]⟩) ∧ Ok w0 M w') := by
 refine enter (vs := [_]) Tryz.func167 rfl Tryz.ntmps167 rfl (aE (aA (tv (aD rfl) (aF (Tr.keep (env' := [(0, _)]) ⟨rfl, trivial⟩ ?_)))))
 refine aB (aE (aA (tv (aC rfl) (te (aJ en_231 rfl rfl rfl rfl (bL3 n hn) (tv (aD rfl) ?_))))))
 refine aF (Tr.keep (env' := [(2, _)]) ⟨rfl, trivial⟩ (aB (aQ (aW rfl rfl (fun w hw => ?_)))))
 exact ⟨rfl, hw⟩
theorem itoa_c (n : Nat) (hn : n < 10) : ∀ w, Ok w0 M w → Calls Tryz.prog 109 #[.int .i64 (n : Int)] w (fun e w' => e = .returned (.string ⟨#[UInt8.ofNat (48 + n)]⟩) ∧ Ok w0 M w') := by
 refine enter (vs := [_]) Tryz.func109 rfl Tryz.ntmps109 rfl (aE (aA (tv (aD rfl) (aF (Tr.keep (env' := [(0, _)]) ⟨rfl, trivial⟩ ?_)))))
 refine aB (aE (aA (tv (aC rfl) (te (aJ en_167 rfl rfl rfl rfl (itoaI_c n hn) (tv (aD rfl) ?_))))))
 refine aF (Tr.keep (env' := [(2, _)]) ⟨rfl, trivial⟩ (aB (aQ (aW rfl rfl (fun w hw => ?_)))))
 exact ⟨rfl, hw⟩
theorem bL4 {e : EvAt} {lv : Value} {lE : List Ent} {s : St} {M H : List Ent} : ents e lv lE s M ++ H = ents e lv lE s (M ++ H) := by
 simp [ents, List.append_assoc]
theorem tY {e : EvAt} {lv : Value} {lE : List Ent} {s : St} {M : List Ent} : M.Sublist (ents e lv lE s M) := by
 unfold ents
 iterate 10 refine .cons _ ?_
 exact ((List.sublist_append_right e.sa.ents M).trans ((List.sublist_append_right e.wl.sE _).trans ((List.sublist_append_right e.wl.lE _).trans (List.sublist_append_right lE _))))
theorem aA7 {e : EvAt} {lv : Value} {lE : List Ent} {s : St} {M : List Ent} (F G : List Ent) : (F ++ (G ++ ents e lv lE s M)).Perm (ents e lv lE s (M ++ (F ++ G))) := by
 rw [← bL4, ← List.append_assoc]
 exact List.perm_append_comm
theorem do_in {e : EvAt} {s s' : St} {line : ByteArray} {code : Nat} {x : Mv} {lv : Value} {lE F G M : List Ent} (hd : ∀ M, s.lg.Lies x.wl → LogOk lv lE s.log → ∀ w, Ok w0 (ents (e.mv x) lv lE s M) w → Calls Tryz.prog 21 #[.pointer (some ⟨e.eb, 0, none⟩), .string line] w
  (fun r w' => ∃ y : Mv × Value × List Ent, r = .returned (.int .i64 (code : Int)) ∧ (s'.lg.Lies y.1.wl ∧ LogOk y.2.1 y.2.2 s'.log) ∧ Ok w0 (ents (e.mv y.1) y.2.1 y.2.2 s' M) w')) (hL : s.lg.Lies x.wl) (hLog : LogOk lv lE s.log) :
  ∀ w, Ok w0 (F ++ (G ++ ents (e.mv x) lv lE s M)) w → Calls Tryz.prog 21 #[.pointer (some ⟨e.eb, 0, none⟩), .string line] w
  (fun r w' => ∃ y : Mv × Value × List Ent, r = .returned (.int .i64 (code : Int)) ∧ (s'.lg.Lies y.1.wl ∧ LogOk y.2.1 y.2.2 s'.log) ∧ Ok w0 (F ++ (G ++ ents (e.mv y.1) y.2.1 y.2.2 s' M)) w') := fun w hw => by
 have hw2 := hw.perm (aA7 (e := e.mv x) F G)
 refine (hd (M ++ (F ++ G)) hL hLog w hw2).mono ?_
 rintro r w' ⟨y, h1, h2, h3⟩
 exact ⟨y, h1, h2, h3.perm (aA7 F G).symm⟩
theorem said_c {e : EvAt} {lv0 : Value} {lE0 : List Ent} (script : ByteArray) (st : Nat → St) (code : Nat → Nat) (out : Nat → List UInt8) (hsz : script.size ≤ 60000) (hL0 : (st 0).lg.Lies e.wl) (hLog0 : LogOk lv0 lE0 (st 0).log) (hout0 : out 0 = [])
  (hlens : ∀ k, (out k).length ≤ 1000000) (hcodes : ∀ k, code k < 10) (hfin : 0 < (out (dX 10 script.size script).length).length)
  (hemp : ∀ k, (dX 10 script.size script)[k]? = some ⟨#[]⟩ → st (k + 1) = st k ∧ out (k + 1) = out k)
  (hout : ∀ k x, (dX 10 script.size script)[k]? = some x → x ≠ ⟨#[]⟩ → out (k + 1) = out k ++ (oF (code k)).data.toList)
  (hdo : ∀ k x, (dX 10 script.size script)[k]? = some x → x ≠ ⟨#[]⟩ → gK w0 e (st k) (st (k + 1)) x (code k)) :
  ∀ w, Ok w0 (ents e lv0 lE0 (st 0) M) w → Calls Tryz.prog 44 #[.iface 46 (.pointer (some ⟨e.eb, 0, none⟩)), .string script] w (fun r w' => r = .returned (.string ⟨(out (dX 10 script.size script).length).toArray⟩) ∧ Ok w0 M w') := by
 refine rA (vs := [_, _]) Tryz.func44 rfl Tryz.ntmps44 rfl (aE (aA (te (eL rfl rfl rfl fun b2 => (tv (aD rfl) (aF ?_))))))
 refine Tr.keep (env' := [(1, _), (2, _), (4, _)]) ⟨rfl, rfl, rfl, trivial⟩ (aB (aE (aA (te (bO inf_206 (l := [.pointer none, .slice none 0 0]) rfl rfl fun b5 => (aF ?_))))))
 refine Tr.keep (env' := [(1, _), (2, _), (4, _), (5, _)]) ⟨rfl, rfl, rfl, rfl, trivial⟩ (aB (aE (aE (aA (tv (aC rfl) ?_)))))
 refine te (bP en_107 rfl rfl rfl rfl (aO5 script 10) fun b _ => (aF (Tr.keep (env' := [(2, _), (4, _), (5, _), (9, _)]) ⟨rfl, rfl, rfl, rfl, trivial⟩ (aB (aX (Tr.keep (env' := [(2, _), (5, _), (9, _)]) ⟨rfl, rfl, rfl, trivial⟩ ?_))))))
 refine aF0 rfl en_227 (dG) (fun _ => rfl) (by decide) (dX 10 script.size script) (fun (pre : List ByteArray) (z : SaidSt) => z.s = st pre.length ∧ z.s.lg.Lies z.x.wl ∧ LogOk z.lv z.lE z.s.log ∧ Own 5 1 z.v (fM (out pre.length)) z.E ∧ ((z.p = none ∧ out pre.length = []) ∨ z.p = some ⟨b5, 0, none⟩)) (fun z : SaidSt => cel b5 206 [.pointer z.p, z.v] :: cel b2 203 [.iface 46 (.pointer (some ⟨e.eb, 0, none⟩))] :: (z.E ++ ents (e.mv z.x) z.lv z.lE z.s M)) (⟨⟨e.wl, e.starts, e.lines⟩, lv0, lE0, st 0, none, .slice none 0 0, []⟩) (⟨rfl, hL0, hLog0, by rw [show out ([] : List ByteArray).length = [] from hout0]; exact Own.nil _ _, .inl ⟨rfl, hout0⟩⟩) ([cel b.1 3 [.int .i64 0], cel b.2.1 9 [.string ⟨#[10]⟩], cel b.2.2 9 [.string script]]) rfl ?_ ?_ ?_
 ·exact fun l r Fr hy => bL1 (b := b) (c := 10) script (by omega) hy _ ⟨rfl, hL0, hLog0, by rw [show out ([] : List ByteArray).length = [] from hout0]; exact Own.nil _ _, .inl ⟨rfl, hout0⟩⟩
 ·intro l rr Fr pre y post hxs z hz
  obtain ⟨x, lv, lE, s, p, v, E⟩ := z
  obtain ⟨hs, hL, hLog, hO, hp⟩ := hz
  dsimp only at hs hL hLog hO hp ⊢
  subst hs
  have hpp : p = none ∨ p = some ⟨b5, 0, none⟩ := by rcases hp with ⟨h, _⟩ | h; exact .inl h; exact .inr h
  have hxk : (dX 10 script.size script)[pre.length]? = some y := by rw [hxs]; simp
  have hlen := hlens pre.length
  refine Tr.keep (env' := [(2, _), (5, _), (10, _)]) ⟨rfl, rfl, rfl, trivial⟩ (eE (cJ (aD rfl) rfl (fZ (Tr.keep (env' := [(2, _), (5, _), (6, _), (10, _)]) ⟨rfl, rfl, rfl, rfl, trivial⟩ (aB ?_)))))
  refine oB .here (nZ (pT (pT (eE (cJ (aC rfl) rfl ?_)))))
  refine cJ (iE rfl rfl) rfl (fZ (Tr.keep (env' := [(2, _), (5, _), (6, _), (12, _)]) ⟨rfl, rfl, rfl, rfl, trivial⟩ (aB ?_)))
  refine aH6 rfl (fun hcE => ?_) (fun hcE => ?_)
  ·obtain rfl : y = ⟨#[]⟩ := of_decide_eq_true hcE
   have hemp := hemp pre.length hxk
   refine i_exit (aS (bX (fV .here (fun w hw => ?_))))
   exact ⟨rfl, ⟨x, lv, lE, st pre.length, p, v, E⟩, ⟨by simp [hemp.1], hL, hLog, by simpa [hemp.2] using hO, by simpa [hemp.2] using hp⟩, hw.perm (pk .here (mH .here (pk .here (pk .here (mH .here (.refl _))))))⟩
  ·have hne : y ≠ ⟨#[]⟩ := of_decide_eq_false hcE
   refine vV (aB (pT (eE (cJ (aG ca_203 rfl (aK (.tail _ (List.mem_append_right _ (.tail _ (.head _)))) rfl)) rfl (cJ (aC rfl) rfl ?_)))))
   refine gR rfl (bF1 (fun w => by kernel_rfl) en_21 rfl rfl rfl rfl (do_in (F := bJ1 l rr :: Fr) (G := cel b5 206 [.pointer p, v] :: cel b2 203 [.iface 46 (.pointer (some ⟨e.eb, 0, none⟩))] :: E) (hdo pre.length y hxk hne x lv lE) hL hLog) fun z2 hz2 => (cJ (aD rfl) rfl (fZ (Tr.keep (env' := [(5, _), (7, _)]) ⟨rfl, rfl, trivial⟩ (aB (pT ?_))))))
   refine eE (cJ (aC rfl) rfl (cJ (cW rfl rfl) rfl (fZ (Tr.keep (env' := [(5, _), (7, _), (17, _)]) ⟨rfl, rfl, rfl, trivial⟩ (aB ?_)))))
   refine aH6 rfl (fun hcZ => ?_) (fun hcZ => ?_)
   ·have hc0 : code pre.length = 0 := by simpa using hcZ
    have hcode : oF (code pre.length) = okB := by rw [hc0]; rfl
    refine eE (gR rfl (bP bL2 rfl rfl rfl rfl (fun w hw => pV okB (hpp) hO (by have h8 : okB.size = 3 := rfl; omega) (by have h8 : okB.size = 3 := rfl; omega) w (hw.perm (pk (.there (.right .here)) (mH (.there (.right (.there .here))) (.refl _))))) fun xr hO2 => ?_))
    obtain ⟨v2, E2⟩ := xr
    dsimp only at hO2 ⊢
    refine fZ (Tr.keep (env' := []) trivial (cX (fV (.there (.right .here)) (fun w hw => ?_))))
    exact ⟨rfl, ⟨z2.1, z2.2.1, z2.2.2, st (pre.length + 1), some ⟨b5, 0, none⟩, v2, E2⟩, ⟨by simp, hz2.1, hz2.2, by rw [List.length_append, List.length_singleton, hout pre.length y hxk hne, hcode]; exact hO2, .inr rfl⟩, hw.perm (pk (.there (.right .here)) (mH (.there (.right .here)) (pk .here (pk (.right .here) (mH .here (.refl _))))))⟩
   ·have hc0 : code pre.length ≠ 0 := by simpa using hcZ
    have hcode : oF (code pre.length) = errB (code pre.length) := by unfold oF; rw [if_neg hc0]
    have hcl := hcodes pre.length
    refine eE (cJ (aC rfl) rfl (gR rfl (aJ en_109 rfl rfl rfl rfl (itoa_c (code pre.length) (by omega)) (cJ (aS2 rfl rfl (by simp [ByteArray.size, maxLen])) rfl (cJ (aS2 rfl rfl (by simp [ByteArray.size, maxLen])) rfl (gR rfl (bP bL2 rfl rfl rfl rfl (fun w hw => pV (errB (code pre.length)) (hpp) hO (by have h8 := tX (code pre.length); omega) (by have h8 := tX (code pre.length); omega) w (hw.perm (pk (.there (.right .here)) (mH (.there (.right (.there .here))) (.refl _))))) fun xr hO2 => ?_)))))))
    obtain ⟨v2, E2⟩ := xr
    dsimp only at hO2 ⊢
    refine fZ (Tr.keep (env' := []) trivial (cX (fV (.there (.right .here)) (fun w hw => ?_))))
    exact ⟨rfl, ⟨z2.1, z2.2.1, z2.2.2, st (pre.length + 1), some ⟨b5, 0, none⟩, v2, E2⟩, ⟨by simp, hz2.1, hz2.2, by rw [List.length_append, List.length_singleton, hout pre.length y hxk hne, hcode]; exact hO2, .inr rfl⟩, hw.perm (pk (.there (.right .here)) (mH (.there (.right .here)) (pk .here (pk (.right .here) (mH .here (.refl _))))))⟩
 ·intro D z hz
  obtain ⟨x, lv, lE, s, p, v, E⟩ := z
  obtain ⟨hs, hL, hLog, hO, hp⟩ := hz
  dsimp only at hs hL hLog hO hp ⊢
  obtain rfl : p = some ⟨b5, 0, none⟩ := by
   rcases hp with ⟨_, h⟩ | h
   ·rw [h] at hfin; simp at hfin
   ·exact h
  obtain ⟨g, c, lb, rfl, rfl, hlb, hc0⟩ := bB5 hO hfin
  show Tr w0 _ _ _ (jV D :: cel b5 206 [.pointer (some ⟨b5, 0, none⟩), .slice (some ⟨g, 0, none⟩) (out (dX 10 script.size script).length).length c] :: cel b2 203 [.iface 46 (.pointer (some ⟨e.eb, 0, none⟩))] :: cel g 5 lb :: ents (e.mv x) lv lE s M) _
  refine cX (aB (aE (aA (te (fD en_110 rfl rfl rfl rfl (fun w hw => uZ hfin hc0 (by have := hlens (dX 10 script.size script).length; omega) hlb w (hw.perm (pk (.there .here) (pk (.there (.there .here)) (.refl _))))) (tv (aD rfl) ?_))))))
  refine aF (Tr.keep (env' := [(4, _)]) ⟨rfl, trivial⟩ (aB (aQ (vW rfl rfl (pk .here (.refl _)) (fun w hw => ?_)))))
  exact ⟨rfl, hw.sub (.cons _ tY)⟩
end
end Go.Proofs.W
set_option linter.unusedVariables false
set_option linter.unusedSimpArgs false
set_option linter.unusedSectionVars false
set_option maxRecDepth 100000
namespace Go.Proofs.W
open Go Go.Sl Go.RowKit Go.Proofs
attribute [local irreducible] Go.Sl.Eff
theorem yJ : aV Tryz.prog 172 := aL Tryz.func172 (by kernel_rfl) (by kernel_rfl)
theorem bL5 : aV Tryz.prog 174 := aL Tryz.func174 (by kernel_rfl) (by kernel_rfl)
theorem en_175 : aV Tryz.prog 175 := aL Tryz.func175 (by kernel_rfl) (by kernel_rfl)
theorem en_179 : aV Tryz.prog 179 := aL Tryz.func179 (by kernel_rfl) (by kernel_rfl)
theorem bL6 : aV Tryz.prog 180 := aL Tryz.func180 (by kernel_rfl) (by kernel_rfl)
theorem en_181 : aV Tryz.prog 181 := aL Tryz.func181 (by kernel_rfl) (by kernel_rfl)
section
variable {w0 : World} {M : List Ent}
theorem sV {e : EvAt} {lE M Fr : List Ent} : e.sa.In ((lE ++ (e.wl.lE ++ (e.wl.sE ++ (e.sa.ents ++ M)))) ++ Fr) :=
 (SAt.in_ents (a := e.sa) (X := M)).sub ((((List.sublist_append_right e.wl.sE (e.sa.ents ++ M)).trans (List.sublist_append_right e.wl.lE _)).trans (List.sublist_append_right lE _)).trans (List.sublist_append_left _ Fr))
theorem mQ (hT : Tab w0) {e : EvAt} {s s' : St} {line wd : ByteArray} {ws : List ByteArray} {f : Nat} (hlen : line.size ≤ 200) (hlog : s.log.length < 100) (hsl : s'.log = s.log) (hwd : cT line = wd :: ws) (hget : gH wd (dY e.eb) = some (.func (.func f) #[.pointer (some ⟨e.eb, 0, none⟩)] #[])) (he : aV Tryz.prog f)
  (hcall : ∀ (x : Mv) (lv : Value) (lE M : List Ent), s.lg.Lies x.wl → ∀ A c Fr, SlRd w0 (ents (e.mv x) lv lE s M ++ Fr) 1 A ws.length (ws.map dG) → ∀ w, Ok w0 (ents (e.mv x) lv lE s M ++ Fr) w →
   Calls Tryz.prog f #[.pointer (some ⟨e.eb, 0, none⟩), .agg #[.string wd, .slice A ws.length c]] w (fun r w' => ∃ y : Mv, r = .returned (.tuple #[]) ∧ s'.lg.Lies y.wl ∧ Ok w0 (ents (e.mv y) lv lE s' M ++ Fr) w')) :
  gK w0 e s (s'.put line) line 0 := fun x lv lE M hL hLog w hw =>
 do_ok hT (e := e.mv x) (s' := s') hLog hlog (by omega) hsl (fun w hw => bK2 (f := f) (φ := fun M2 => ∃ y : Mv, s'.lg.Lies y.wl ∧ M2 = ents ((e.mv x).mv y) lv lE s' M) hlen hwd hget he (fun A n c Fr hn hs w hw => by
  subst hn
  refine (hcall x lv lE M hL A c Fr hs w hw).mono ?_
  rintro r w' ⟨y, h1, h2, h3⟩
  exact ⟨_, h1, ⟨y, h2, rfl⟩, h3⟩) w hw) w hw
theorem sX {e : EvAt} {s : St} {line wd : ByteArray} {ws : List ByteArray} {f z : Nat} (hz : z ≠ 0) (hlen : line.size ≤ 200) (hwd : cT line = wd :: ws) (hget : gH wd (dY e.eb) = some (.func (.func f) #[.pointer (some ⟨e.eb, 0, none⟩)] #[])) (he : aV Tryz.prog f)
  (hcall : ∀ (x : Mv) (lv : Value) (lE M : List Ent), s.lg.Lies x.wl → ∀ A c Fr, SlRd w0 (ents (e.mv x) lv lE s M ++ Fr) 1 A ws.length (ws.map dG) → ∀ w, Ok w0 (ents (e.mv x) lv lE s M ++ Fr) w →
   Calls Tryz.prog f #[.pointer (some ⟨e.eb, 0, none⟩), .agg #[.string wd, .slice A ws.length c]] w (fun r w' => r = .panicked (jQ (z : Int)) ∧ Ok w0 (ents (e.mv x) lv lE s M ++ Fr) w')) :
  gK w0 e s s line z := fun x lv lE M hL hLog w hw => by
 refine (bK9 (e := e.mv x) (z := (z : Int)) (by omega) hLog (fun w hw => bA9 (f := f) (x := (z : Int)) hlen hwd hget he (fun A n c Fr hn hs w hw => by
  subst hn
  exact hcall x lv lE M hL A c Fr hs w hw) w hw) w hw).mono ?_
 rintro r w' ⟨h1, h2⟩
 exact ⟨(x, lv, lE), h1, ⟨hL, hLog⟩, h2⟩
theorem bB6 {e : EvAt} {s : St} {line wd : ByteArray} {ws : List ByteArray} (hlen : line.size ≤ 200) (hwd : cT line = wd :: ws) (hget : gH wd (dY e.eb) = none) :
  gK w0 e s s line 3 := fun x lv lE M hL hLog w hw => by
 refine (bK9 (e := e.mv x) (z := 3) (by decide) hLog (fun w hw => aT3 hlen hwd hget w hw) w hw).mono ?_
 rintro r w' ⟨h1, h2⟩
 exact ⟨(x, lv, lE), h1, ⟨hL, hLog⟩, h2⟩
theorem bB7 (hT : Tab w0) {e : EvAt} {s : St} {line a : ByteArray} {n : Int} (hx : iA a n) (hf : s.g.Fine) (hval : gN s.g.plan 1 n 0 0 = true) (hlen : line.size ≤ 200) (hlog : s.log.length < 100) (hwd : cT line = [⟨#[111, 112, 101, 110]⟩, a]) :
  gK w0 e s (St.put { s with g := s.g.hear 1 n 0 0 } line) line 0 :=
 mQ hT (s' := { s with g := s.g.hear 1 n 0 0 }) hlen hlog rfl hwd (aA3 _) yJ (fun x lv lE M hL A c Fr hs w hw => by
  have hp : (ents (e.mv x) lv lE s M ++ Fr).Perm _ := (pk (.there (.there (.there (.there .here)))) (pk (.there (.there (.there (.there .here)))) (pk (.there (.there (.there (.there .here)))) (pk (.there (.there (.there (.there .here)))) (.refl _)))))
  refine (bA5 (ea := e.mv x) (lv := lv) (g := s.g) n (.head _) (hs.perm hp) hx hf hval w (hw.perm hp)).mono ?_
  rintro r w' ⟨h1, h2⟩
  exact ⟨x, h1, hL, h2.perm (pk (.there (.there (.there (.there .here)))) (pk (.there (.there (.there (.there .here)))) (pk (.there (.there (.there (.there .here)))) (pk (.there (.there (.there (.there .here)))) (.refl _)))))⟩)
theorem aI8 (hT : Tab w0) {e : EvAt} {s : St} {line a : ByteArray} {n : Int} (hx : iA a n) (hf : s.g.Fine) (hval : gN s.g.plan 6 n 0 0 = true) (hlen : line.size ≤ 200) (hlog : s.log.length < 100) (hwd : cT line = [⟨#[99, 111, 118, 101, 114, 101, 100]⟩, a]) :
  gK w0 e s (St.put { s with g := s.g.hear 6 n 0 0 } line) line 0 :=
 mQ hT (s' := { s with g := s.g.hear 6 n 0 0 }) hlen hlog rfl hwd (aH9 _) yJ (fun x lv lE M hL A c Fr hs w hw => by
  have hp : (ents (e.mv x) lv lE s M ++ Fr).Perm _ := (pk (.there (.there (.there (.there .here)))) (pk (.there (.there (.there (.there .here)))) (pk (.there (.there (.there (.there .here)))) (pk (.there (.there (.there (.there .here)))) (.refl _)))))
  refine (aI2 (ea := e.mv x) (lv := lv) (g := s.g) n (.head _) (hs.perm hp) hx hf hval w (hw.perm hp)).mono ?_
  rintro r w' ⟨h1, h2⟩
  exact ⟨x, h1, hL, h2.perm (pk (.there (.there (.there (.there .here)))) (pk (.there (.there (.there (.there .here)))) (pk (.there (.there (.there (.there .here)))) (pk (.there (.there (.there (.there .here)))) (.refl _)))))⟩)
theorem aA8 (hT : Tab w0) {e : EvAt} {s : St} {line a b : ByteArray} {n : Int} {p : Nat} (hx : iA a (p : Int)) (hy : iA b n) (hf : s.g.Fine) (hval : gN s.g.plan 3 n p 0 = true) (hlen : line.size ≤ 200) (hlog : s.log.length < 100) (hwd : cT line = [⟨#[112, 111, 115, 116]⟩, a, b]) :
  gK w0 e s (St.put { s with g := s.g.hear 3 n p 0 } line) line 0 :=
 mQ hT (s' := { s with g := s.g.hear 3 n p 0 }) hlen hlog rfl hwd (aA4 _) yJ (fun x lv lE M hL A c Fr hs w hw => by
  have hp : (ents (e.mv x) lv lE s M ++ Fr).Perm _ := (pk (.there (.there (.there (.there .here)))) (pk (.there (.there (.there (.there .here)))) (pk (.there (.there (.there (.there .here)))) (pk (.there (.there (.there (.there .here)))) (.refl _)))))
  refine (bA6 (ea := e.mv x) (lv := lv) (g := s.g) n p (.head _) (hs.perm hp) hx hy hf hval w (hw.perm hp)).mono ?_
  rintro r w' ⟨h1, h2⟩
  exact ⟨x, h1, hL, h2.perm (pk (.there (.there (.there (.there .here)))) (pk (.there (.there (.there (.there .here)))) (pk (.there (.there (.there (.there .here)))) (pk (.there (.there (.there (.there .here)))) (.refl _)))))⟩)
theorem aT8 (hT : Tab w0) {e : EvAt} {s : St} {line a b : ByteArray} {n : Int} (hx : iA a 1) (hy : iA b n) (hf : s.g.Fine) (hsn : s.g.Sane) (hss : 0 ≤ n ∧ n ≤ 100000) (hm : s.g.may 0 n = []) (hlen : line.size ≤ 200) (hlog : s.log.length < 100) (hwd : cT line = [⟨#[115, 116, 97, 114, 116]⟩, a, b]) :
  gK w0 e s (St.put { s with g := s.g.start 0 n } line) line 0 :=
 mQ hT (s' := { s with g := s.g.start 0 n }) hlen hlog rfl hwd (yG _) bL5 (fun x lv lE M hL A c Fr hs w hw => by
  have hp : (ents (e.mv x) lv lE s M ++ Fr).Perm _ := (pk (.there (.there (.there (.there .here)))) (pk (.there (.there (.there (.there .here)))) (pk (.there (.there (.there (.there .here)))) (pk (.there (.there (.there (.there .here)))) (.refl _)))))
  refine (bA7 (ea := e.mv x) (lv := lv) (g := s.g) n (.head _) (hs.perm hp) hx hy hf hsn hss hm w (hw.perm hp)).mono ?_
  rintro r w' ⟨h1, h2⟩
  exact ⟨x, h1, hL, h2.perm (pk (.there (.there (.there (.there .here)))) (pk (.there (.there (.there (.there .here)))) (pk (.there (.there (.there (.there .here)))) (pk (.there (.there (.there (.there .here)))) (.refl _)))))⟩)
theorem bL7 (hT : Tab w0) {e : EvAt} {s : St} {line a b d : ByteArray} {n : Int} (hx : iA a 1) (hy : iA b 0) (hz : iA d n) (ht : 0 ≤ n ∧ n ≤ 100000) (hok : jW s.l0 s.l1 s.l2) (hlen : line.size ≤ 200) (hlog : s.log.length < 100) (hwd : cT line = [⟨#[108, 101, 103]⟩, a, b, d]) :
  gK w0 e s (St.put { s with s0 := n } line) line 0 :=
 mQ hT (s' := { s with s0 := n }) hlen hlog rfl hwd (bJ6 _) en_179 (fun x lv lE M hL A c Fr hs w hw => by
  have hp : (ents (e.mv x) lv lE s M ++ Fr).Perm _ := (pk (.there .here) (pk (.there .here) (pk (.there .here) (.refl _))))
  refine (leg_ok (ea := e.mv x) (lv := lv) (.head _) ((sV (e := e.mv x)).sub (.cons _ (.cons _ (.cons _ (.cons _ (.cons _ (.cons _ (.cons _ (.refl _))))))))) (hs.perm hp) hx hy hz ht hok w (hw.perm hp)).mono ?_
  rintro r w' ⟨y, h1, _, h2⟩
  exact ⟨⟨x.wl, y.1, y.2⟩, h1, hL, h2.perm (pk (.there (.there (.there .here))) (.refl _))⟩)
theorem aT9 (hT : Tab w0) {e : EvAt} {s : St} {line a b d u : ByteArray} {n2 n3 : Int} (hx : iA a 1) (hy : iA b 0) (hz : iA d n2) (hu : iA u n3) (ht : 0 ≤ s.s0 ∧ s.s0 ≤ 100000) (hok : jW ⟨n2, n3, false, 0⟩ s.l1 s.l2) (hlen : line.size ≤ 200) (hlog : s.log.length < 100) (hwd : cT line = [⟨#[108, 105, 110, 101]⟩, a, b, d, u]) :
  gK w0 e s (St.put { s with l0 := ⟨n2, n3, false, 0⟩ } line) line 0 :=
 mQ hT (s' := { s with l0 := ⟨n2, n3, false, 0⟩ }) hlen hlog rfl hwd (aA5 _) bL6 (fun x lv lE M hL A c Fr hs w hw => by
  have hp : (ents (e.mv x) lv lE s M ++ Fr).Perm _ := (pk (.there .here) (pk (.there .here) (pk (.there .here) (.refl _))))
  refine (aY5 (ea := e.mv x) (lv := lv) (.head _) ((sV (e := e.mv x)).sub (.cons _ (.cons _ (.cons _ (.cons _ (.cons _ (.cons _ (.cons _ (.refl _))))))))) (hs.perm hp) hx hy hz hu ht hok w (hw.perm hp)).mono ?_
  rintro r w' ⟨y, h1, _, h2⟩
  exact ⟨⟨x.wl, y.1, y.2⟩, h1, hL, h2.perm (pk (.there (.there (.there .here))) (.refl _))⟩)
theorem bB8 (hT : Tab w0) {e : EvAt} {s : St} {line a b d u : ByteArray} {n2 : Int} (hx : iA a 1) (hy : iA b 1) (hz : iA d n2) (hu : iA u 400000) (ht : 0 ≤ s.s0 ∧ s.s0 ≤ 100000) (hlf : s.lg.Fine) (hkv : s.lg.kv = [(R1, 2000), (R2, 302000)]) (hok : jW s.l0 ⟨n2, 300000, false, 0⟩ s.l2) (hlen : line.size ≤ 200) (hlog : s.log.length < 100) (hwd : cT line = [⟨#[116, 97, 107, 101]⟩, a, b, d, u]) :
  gK w0 e s (St.put { s with l1 := ⟨n2, 300000, false, 0⟩ } line) line 0 :=
 mQ hT (s' := { s with l1 := ⟨n2, 300000, false, 0⟩ }) hlen hlog rfl hwd (bA3 _) en_181 (fun x lv lE M hL A c Fr hs w hw => by
  have hp : (ents (e.mv x) lv lE s M ++ Fr).Perm _ := (pk (.there .here) (pk (.there .here) (pk (.there .here) (.refl _))))
  refine (take_ok (ea := e.mv x) (lv := lv) (lg := s.lg) (.head _) ((sV (e := e.mv x)).sub (.cons _ (.cons _ (.cons _ (.cons _ (.cons _ (.cons _ (.cons _ (.refl _))))))))) (.tail _ (.tail _ (.tail _ (.tail _ (.tail _ (.head _)))))) (.tail _ (.tail _ (.tail _ (.tail _ (.tail _ (.tail _ (.head _))))))) hlf hkv (hs.perm hp) hx hy hz hu ht hok w (hw.perm hp)).mono ?_
  rintro r w' ⟨y, h1, _, h2⟩
  exact ⟨⟨x.wl, y.1, y.2⟩, h1, hL, h2.perm (pk (.there (.there (.there .here))) (.refl _))⟩)
theorem aA9 (hT : Tab w0) {e : EvAt} {s : St} {line a0 a1 a2 a3 a4 a5 : ByteArray} {n1 n4 n5 s2 : Int} {p : Nat} (hx0 : iA a0 0) (hx1 : iA a1 n1) (hx2 : iA a2 1) (hx3 : iA a3 (p : Int)) (hx4 : iA a4 n4) (hx5 : iA a5 n5) (hlf : s.lg.Fine) (hok : s.lg.rightB ⟨0, n1, 1, 1, p, n4⟩ n5 = true) (hnew : aE2 ⟨0, n1, 1, 1, p, n4⟩ s.lg.kv = none) (hl5 : s.lg.kv.length < 5000) (hf : s.g.Fine) (hq : IntKind.i64.wrap (n5.tdiv 1000) = s2) (hval : gN s.g.plan 8 s2 p 0 = true) (hlen : line.size ≤ 200) (hlog : s.log.length < 100) (hwd : cT line = [⟨#[112, 97, 115, 115]⟩, a0, a1, a2, a3, a4, a5]) :
  gK w0 e s (St.put { s with lg := s.lg.add ⟨0, n1, 1, 1, p, n4⟩ n5, g := s.g.hear 8 s2 p 0 } line) line 0 :=
 mQ hT (s' := { s with lg := s.lg.add ⟨0, n1, 1, 1, p, n4⟩ n5, g := s.g.hear 8 s2 p 0 }) hlen hlog rfl hwd (bA2 _) en_175 (fun x lv lE M hL A c Fr hs w hw => by
  have hp : (ents (e.mv x) lv lE s M ++ Fr).Perm _ := (pk (.there (.there (.there (.there (.there (.there (.there (.there .here)))))))) (pk (.there (.there (.there (.there (.there (.there (.there (.there .here)))))))) (pk (.there (.there (.there (.there .here)))) (pk (.there (.there (.there (.there .here)))) (pk (.there (.there (.there (.there .here)))) (pk (.there (.there (.there (.there .here)))) (.refl _)))))))
  refine (pass_ok (ea := e.mv x) (lv := lv) (lg := s.lg) (g := s.g) (.head _) ((sV (e := e.mv x)).sub (.cons _ (.cons _ (.cons _ (.cons _ (.refl _)))))) (hs.perm hp) hx0 hx1 hx2 hx3 hx4 hx5 hL.srcs hlf hok hnew hl5 hf hq hval w (hw.perm hp)).mono ?_
  rintro r w' ⟨y, h1, _, h2⟩
  exact ⟨⟨{ x.wl with mb := y }, x.starts, x.lines⟩, h1, ⟨hL.least, hL.srcs⟩, h2.perm (pk (.there (.there (.there (.there (.there (.there .here)))))) (pk (.there (.there (.there (.there (.there (.there .here)))))) (pk (.there (.there (.there (.there (.there (.there .here)))))) (pk (.there (.there (.there (.there (.there (.there .here)))))) (pk (.there (.there .here)) (pk (.there (.there .here)) (pk (.there (.there .here)) (pk (.there (.there .here)) (.refl _)))))))))⟩)
theorem zM {e : EvAt} {s : St} {line a b : ByteArray} {n : Int} (hx : iA a 1) (hy : iA b n) (hf : s.g.Fine) (hsn : s.g.Sane) (hss : 0 ≤ n ∧ n ≤ 100000) (hm : s.g.may 0 n ≠ []) (hlen : line.size ≤ 200) (hwd : cT line = [⟨#[115, 116, 97, 114, 116]⟩, a, b]) :
  gK w0 e s s line 7 :=
 sX (by decide) hlen hwd (yG _) bL5 (fun x lv lE M hL A c Fr hs w hw => by
  have hp : (ents (e.mv x) lv lE s M ++ Fr).Perm _ := (pk (.there (.there (.there (.there .here)))) (pk (.there (.there (.there (.there .here)))) (pk (.there (.there (.there (.there .here)))) (pk (.there (.there (.there (.there .here)))) (.refl _)))))
  refine (bJ7 (ea := e.mv x) (lv := lv) (g := s.g) n (.head _) (hs.perm hp) hx hy hf hsn hss hm w (hw.perm hp)).mono ?_
  rintro r w' ⟨h1, h2⟩
  exact ⟨h1, h2.perm (pk (.there (.there (.there (.there .here)))) (pk (.there (.there (.there (.there .here)))) (pk (.there (.there (.there (.there .here)))) (pk (.there (.there (.there (.there .here)))) (.refl _)))))⟩)
theorem zN {e : EvAt} {s : St} {line a b d u : ByteArray} {n2 n3 : Int} (hx : iA a 1) (hy : iA b 1) (hz : iA d n2) (hu : iA u n3) (ht : 0 ≤ s.s0 ∧ s.s0 ≤ 100000) (hok : ¬ jW s.l0 ⟨n2, n3, false, 0⟩ s.l2) (hlen : line.size ≤ 200) (hwd : cT line = [⟨#[108, 105, 110, 101]⟩, a, b, d, u]) :
  gK w0 e s s line 2 :=
 sX (by decide) hlen hwd (aA5 _) bL6 (fun x lv lE M hL A c Fr hs w hw => by
  have hp : (ents (e.mv x) lv lE s M ++ Fr).Perm _ := (pk (.there .here) (pk (.there .here) (pk (.there .here) (.refl _))))
  refine (aY6 (ea := e.mv x) (lv := lv) (.head _) ((sV (e := e.mv x)).sub (.cons _ (.cons _ (.cons _ (.cons _ (.cons _ (.cons _ (.cons _ (.refl _))))))))) (hs.perm hp) hx hy hz hu ht hok w (hw.perm hp)).mono ?_
  rintro r w' ⟨h1, h2⟩
  exact ⟨h1, h2.perm (pk (.there (.there (.there .here))) (.refl _))⟩)
theorem zO {e : EvAt} {s : St} {line a : ByteArray} (hx1 : fT a) (hx2 : a.size ≤ 15) (hx : wL a = false) (hlen : line.size ≤ 200) (hwd : cT line = [⟨#[111, 112, 101, 110]⟩, a]) :
  gK w0 e s s line 3 :=
 sX (by decide) hlen hwd (aA3 _) yJ (fun x lv lE M hL A c Fr hs w hw => by
  skip
  exact zI (ea := e.mv x) (lv := lv) (.head _) hs hx1 hx2 hx w hw)
theorem aI9 {e : EvAt} {s : St} {line a b : ByteArray} {n p : Int} (hx : iA a p) (hy : iA b n) (hf : s.g.Fine) (hval : gN s.g.plan 3 n p 0 = false) (hlen : line.size ≤ 200) (hwd : cT line = [⟨#[112, 111, 115, 116]⟩, a, b]) :
  gK w0 e s s line 2 :=
 sX (by decide) hlen hwd (aA4 _) yJ (fun x lv lE M hL A c Fr hs w hw => by
  skip
  exact aI3 (ea := e.mv x) (lv := lv) (g := s.g) n p (.head _) (.tail _ (.tail _ (.tail _ (.tail _ (.head _))))) hs hx hy hf hval w hw)
end
end Go.Proofs.W
set_option linter.unusedVariables false
set_option linter.unusedSimpArgs false
set_option linter.unusedSectionVars false
set_option maxRecDepth 100000
namespace Go.Proofs.W
open Go Go.Sl Go.RowKit Go.Proofs
attribute [local irreducible] Go.Sl.Eff
theorem aX4 : aV Tryz.prog 14 := aL Tryz.func14 (by kernel_rfl) (by kernel_rfl)
theorem en_44 : aV Tryz.prog 44 := aL Tryz.func44 (by kernel_rfl) (by kernel_rfl)
abbrev sI : St := ⟨GuardSt.new nM, aV4, 0, eZ, eZ, eZ, []⟩
theorem bL8 {e : EvAt} {lv : Value} {lE : List Ent} {s : St} {M M' : List Ent} (h : M.Sublist M') : (ents e lv lE s M).Sublist (ents e lv lE s M') := by
 unfold ents
 iterate 10 refine .cons_cons _ ?_
 exact (List.Sublist.refl lE).append ((List.Sublist.refl _).append ((List.Sublist.refl _).append ((List.Sublist.refl _).append h)))
theorem bL9 : LogOk (.slice none 0 0) [] sI.log := ⟨Own.nil _ _, by simp, by simp⟩
section
variable {w0 : World} {M : List Ent}
theorem aB0 {a : SAt} (h : a.In M) (script : ByteArray) (st : Nat → St) (code : Nat → Nat) (out : Nat → List UInt8) (hsz : script.size ≤ 50000) (hst0 : st 0 = sI) (hout0 : out 0 = [])
  (hlens : ∀ k, (out k).length ≤ 1000000) (hcodes : ∀ k, code k < 10) (hfin : 0 < (out (dX 10 script.size script).length).length)
  (hemp : ∀ k, (dX 10 script.size script)[k]? = some ⟨#[]⟩ → st (k + 1) = st k ∧ out (k + 1) = out k)
  (hout : ∀ k x, (dX 10 script.size script)[k]? = some x → x ≠ ⟨#[]⟩ → out (k + 1) = out k ++ (oF (code k)).data.toList)
  (hdo : ∀ e k x, (dX 10 script.size script)[k]? = some x → x ≠ ⟨#[]⟩ → gK w0 e (st k) (st (k + 1)) x (code k)) :
  ∀ w, Ok w0 M w → Calls Tryz.prog 11 #[.agg a.setup.toArray, .string script] w (fun r w' => r = .returned (.tuple #[.string ⟨(out (dX 10 script.size script).length).toArray⟩, .int .i64 0]) ∧ Ok w0 M w') := by
 refine enter (vs := [_, _]) Tryz.func11 rfl Tryz.ntmps11 rfl (aE (aA (te (cH rfl rfl fun b2 => (tv (aD rfl) (tv (aD rfl) ?_))))))
 refine aF (Tr.keep (env' := [(1, _), (2, _)]) ⟨rfl, rfl, trivial⟩ (aB (aE (aA (tv (aY iH rfl (bL (n := 30) (vs := [_, _, _, _, _, _, _, _, _, _, _, _, _, _, _, _, _, _, _, _, _, _, _, _, _, _, _, _, _, _]) (.head _) rfl) rfl) ?_)))))
 refine te (bP aX4 rfl rfl rfl rfl (bE6 (h.sub (.cons _ (.refl _)))) fun e' hL0 => ?_)
 show Tr _ _ _ _ (ents e' (.slice none 0 0) [] sI (cel b2 38 a.setup :: M)) _
 refine tv (aC rfl) (tv (bA rfl rfl) (tv (bA rfl rfl) (tv (aD rfl) (tv (aD rfl) (aF ?_)))))
 refine Tr.keep (env' := [(1, _), (6, _), (7, _)]) ⟨rfl, rfl, rfl, trivial⟩ (aB (aE (aX (aE (aA ?_)))))
 refine tv (aC rfl) (tv (eF rfl rfl) (tv (aD rfl) (aF (Tr.keep (env' := [(1, _), (6, _), (7, _), (13, _)]) ⟨rfl, rfl, rfl, rfl, trivial⟩ (aB ?_)))))
 refine aR rfl (aE (aA (tv (aC rfl) (tv (eO Tryz.underlying9 rfl) (tv (fC rfl rfl) ?_)))))
 refine tv (aD rfl) (aF (Tr.keep (env' := [(1, _), (6, _), (17, _)]) ⟨rfl, rfl, rfl, trivial⟩ (aB (aR (mY (by simp; omega)) (aO ?_)))))
 refine cX (aB (aE (aA (tv (aC rfl) (tv (kX Tryz.underlying46 (by simp) rfl) ?_)))))
 refine tv (aC rfl) (te (fD en_44 rfl rfl rfl rfl (fun w hw => said_c (e := e') (lE0 := []) script st code out (by omega) (by rw [hst0]; exact hL0) (by rw [hst0]; exact bL9) hout0 hlens hcodes hfin hemp hout (hdo e') w (by rw [hst0]; exact hw)) (tv (aD rfl) (tv (aD rfl) (aF (Tr.keep (env' := [(4, _), (5, _)]) ⟨rfl, rfl, trivial⟩ ?_))))))
 refine aB (aQ (gG rfl rfl rfl (fun w hw => ?_)))
 exact ⟨rfl, hw.sub (.cons _ (.refl _))⟩
theorem bM0 {a : SAt} (h : a.In M) {A : Option Addr} {c : Nat} {lines : List ByteArray} (hs : SlRd w0 M 1 A lines.length (lines.map dG)) (st : Nat → St) (hst0 : st 0 = sI) (hdo : ∀ e k x, lines[k]? = some x → gK w0 e (st k) (st (k + 1)) x 0) :
  ∀ w, Ok w0 M w → Calls Tryz.prog 43 #[.agg a.setup.toArray, .slice A lines.length c] w (fun r w' => ∃ y : EvAt × Value × List Ent, r = .returned (.tuple #[.pointer (some ⟨y.1.eb, 0, none⟩), .int .i64 (-1), .int .i64 0]) ∧ True ∧ Ok w0 (ents y.1 y.2.1 y.2.2 (st lines.length) M) w') := by
 have hbig := hs.big
 refine enter (vs := [_, _]) Tryz.func43 rfl Tryz.ntmps43 rfl (aE (aA (te (cH rfl rfl fun b2 => (tv (aD rfl) (tv (aD rfl) ?_))))))
 refine tv (aD rfl) (aF (Tr.keep (env' := [(1, _), (2, _)]) ⟨rfl, rfl, trivial⟩ (aB (aE (aA ?_)))))
 refine tv (aY iH rfl (bL (n := 30) (vs := [_, _, _, _, _, _, _, _, _, _, _, _, _, _, _, _, _, _, _, _, _, _, _, _, _, _, _, _, _, _]) (.head _) rfl) rfl) (te (bP aX4 rfl rfl rfl rfl (bE6 (h.sub (.cons _ (.refl _)))) fun e' hL0 => ?_))
 show Tr _ _ _ _ (ents e' (.slice none 0 0) [] sI (cel b2 38 a.setup :: M)) _
 refine tv (aC rfl) (tv (bA rfl rfl) (tv (bA rfl rfl) (tv (aD rfl) (tv (aD rfl) (aF ?_)))))
 refine Tr.keep (env' := [(1, _), (7, _), (8, _)]) ⟨rfl, rfl, rfl, trivial⟩ (aB (aE (aE (aA (tv (aC rfl) ?_)))))
 refine tv (eF rfl rfl) (aF (Tr.keep (env' := [(1, _), (7, _), (8, _), (18, _)]) ⟨rfl, rfl, rfl, rfl, trivial⟩ (aB (aR rfl (aO ?_)))))
 refine aB (aE (aE (aA (tv (aC rfl) (tv (aP Tryz.underlying58 rfl) ?_)))))
 refine tv (aC rfl) (aF (Tr.keep (env' := [(7, _), (20, _), (21, _), (22, _)]) ⟨rfl, rfl, rfl, rfl, trivial⟩ (aB (aX (dW (fun z : Nat × Mv × Value × List Ent => [(7, .pointer (some ⟨e'.eb, 0, none⟩)), (20, .slice A lines.length c), (21, .int .i64 (lines.length : Int)), (22, .int .i64 (z.1 : Int))]) (fun z : Nat × Mv × Value × List Ent => ents (e'.mv z.2.1) z.2.2.1 z.2.2.2 (st z.1) (cel b2 38 a.setup :: M)) (fun z : Nat × Mv × Value × List Ent => z.1 ≤ lines.length ∧ (st z.1).lg.Lies z.2.1.wl ∧ LogOk z.2.2.1 z.2.2.2 (st z.1).log) (fun z : Nat × Mv × Value × List Ent => lines.length - z.1) (0, ⟨e'.wl, e'.starts, e'.lines⟩, .slice none 0 0, []) ⟨Nat.zero_le _, by rw [hst0]; exact hL0, by rw [hst0]; exact bL9⟩ ⟨rfl, rfl, rfl, rfl, trivial⟩ (by show (ents e' _ _ (st 0) _).Sublist _; rw [hst0]; exact .refl _) ?_)))))
 intro K ⟨k, x, lv, lE⟩ ⟨hk, hL, hLog⟩ IH
 dsimp only at hk hL hLog IH ⊢
 refine aE (aA (tv (dI rfl rfl) (aF (Tr.keep (env' := [(7, _), (20, _), (21, _), (22, _), (23, _)]) ⟨rfl, rfl, rfl, rfl, rfl, trivial⟩ (aB ?_)))))
 refine aE ?_
 refine bD rfl (fun hc => ?_) (fun hc => ?_)
 ·have hlt : k < lines.length := by have := of_decide_eq_true hc; omega
  obtain ⟨ln, hln⟩ : ∃ ln, lines[k]? = some ln := ⟨_, List.getElem?_eq_getElem hlt⟩
  obtain ⟨b, o, hA, hrd⟩ := hs.at' (by omega)
  refine aO (aB (aE (aX (aE (aA ?_)))))
  refine tv (aC rfl) (tv (cL k Tryz.underlying58 oI hA rfl rfl rfl hlt) ?_)
  refine tv (aG iP rfl ((hrd k (dG ln) (by rw [List.getElem?_map, hln]; rfl) 0 (.string ln) rfl).sub ((List.sublist_cons_self _ _).trans tY))) ?_
  refine tv (aD rfl) (tv (aD rfl) (aF (Tr.keep (env' := [(7, _), (9, _), (10, _), (20, _), (21, _), (22, _)]) ⟨rfl, rfl, rfl, rfl, rfl, rfl, trivial⟩ (aB (aE ?_)))))
  refine aA (tv (aC rfl) (tv (aC rfl) (te (bP en_21 rfl rfl rfl rfl (hdo e' k ln hln x lv lE _ hL hLog) fun y hy => (tv (aD rfl) (aF ?_))))))
  refine Tr.keep (env' := [(7, _), (9, _), (11, _), (20, _), (21, _), (22, _)]) ⟨rfl, rfl, rfl, rfl, rfl, rfl, trivial⟩ (aB (aE (aA (tv (aC rfl) (tv (eF rfl rfl) ?_)))))
  refine aF (Tr.keep (env' := [(7, _), (9, _), (11, _), (20, _), (21, _), (22, _), (31, _)]) ⟨rfl, rfl, rfl, rfl, rfl, rfl, rfl, trivial⟩ (aB (aR rfl (aO (cX ?_)))))
  refine aB (aA (tv (cC rfl rfl (by omega)) (tv (aC rfl) (aF (Tr.keep (env' := [(7, _), (20, _), (21, _), (22, _)]) ⟨rfl, rfl, rfl, rfl, trivial⟩ ?_)))))
  refine aB ?_
  refine nD (IH (k + 1, y.1, y.2.1, y.2.2) ⟨by show k + 1 ≤ lines.length; omega, hy.1, hy.2⟩ (by simp; omega)) ⟨rfl, rfl, rfl, rfl, trivial⟩ (.refl _)
 ·have hge : ¬ k < lines.length := by have := of_decide_eq_false hc; omega
  obtain rfl : k = lines.length := by omega
  refine cY (aS (aS (bX (aB (aE ?_)))))
  refine aA (tv (aC rfl) (tv (aD rfl) (tv (aD rfl) (tv (aD rfl) (aF ?_)))))
  refine Tr.keep (env' := [(4, _), (5, _), (6, _)]) ⟨rfl, rfl, rfl, trivial⟩ (aB (aQ (aG8 rfl rfl rfl rfl (fun w hw => ?_))))
  exact ⟨(e'.mv x, lv, lE), rfl, trivial, hw.sub (bL8 (.cons _ (.refl _)))⟩
theorem cards_c {e : EvAt} {lv : Value} {s : St} (hev : e.ev lv ∈ M) (hcd : e.ec s.c ∈ M) (hS : e.es s.c ∈ M) (hL : e.el s.c ∈ M) : ∀ w, Ok w0 M w → Calls Tryz.prog 18 #[.pointer (some ⟨e.eb, 0, none⟩)] w
  (fun r w' => ∃ y : Sl3 × Sl3 × Sl3, r = .returned (y.1.v 1) ∧ True ∧ Ok w0 (cel y.1.b 111 ([.int .i64 0, y.2.1.v 1, y.2.2.v 3] ++ y.1.sp) :: cel y.2.1.b 3 (bT ([s.s0].map encI) ++ y.2.1.sp) :: cel y.2.2.b 114 (bT ([s.l0, s.l1, s.l2].map CLine.cells) ++ y.2.2.sp) :: M) w') := by
 refine enter (vs := [_]) Tryz.func18 rfl Tryz.ntmps18 rfl (aE (aA (tv (aD rfl) (aF (Tr.keep (env' := [(0, _)]) ⟨rfl, trivial⟩ ?_)))))
 refine aB (aE (aE (aA (tv (aC rfl) (te (aJ aO0 rfl rfl rfl rfl (tW (ea := e) (hev)) ?_))))))
 refine tv (bF rfl) (aF (Tr.keep (env' := [(0, _), (8, _)]) ⟨rfl, rfl, trivial⟩ (aB (aR rfl (aO ?_)))))
 refine aB (aE (aA (tv (aD rfl) (aF (Tr.keep (env' := [(0, _), (3, _)]) ⟨rfl, rfl, trivial⟩ ?_)))))
 refine aB (aE (aE (aA (tv (aC rfl) (tv (aM rfl) ?_)))))
 refine tv (aI iT rfl) (tv (aG pO rfl (aK hev rfl)) (tv (aP Tryz.underlying53 rfl) (tv (aC rfl) (aF (Tr.keep (env' := [(3, _), (12, _), (13, _), (14, _)]) ⟨rfl, rfl, rfl, rfl, trivial⟩ ?_)))))
 refine aB (aX (eN (cR (aE (aA ?_)))))
 refine tv (dI rfl rfl) (aF (Tr.keep (env' := [(3, _), (12, _), (13, _), (14, _), (15, _)]) ⟨rfl, rfl, rfl, rfl, rfl, trivial⟩ (aB (aE (bI rfl ?_)))))
 refine aO (aB (aE (aX (aE (aA ?_)))))
 refine tv (dE (j := 0) Tryz.underlying53 dA rfl rfl rfl (by decide)) (tv (aY jP rfl (bL (n := 3) (vs := [_, _, _]) hcd rfl) rfl) (te (bO eB (l := [.int .i64 0, .slice none 0 0, .slice none 0 0]) rfl rfl fun b5 => (te (bJ dA rfl rfl (vs := [_, _, _]) rfl rfl (by simp [Value.oneCell']) (.cons .zero (.cons (.succ .zero) (.cons (.succ (.succ .zero)) .nil))) .here (aF (Tr.keep (env' := [(3, _), (5, _), (12, _), (13, _), (14, _)]) ⟨rfl, rfl, rfl, rfl, rfl, trivial⟩ ?_)))))))
 refine aB (aA (tv (aC rfl) (tv (aY jP rfl (bL (n := 3) (vs := [_, _, _]) (.head _) rfl) rfl) (te (bP aX2 rfl rfl rfl rfl (sQ (xs := [s.s0]) (ls := [s.l0, s.l1, s.l2]) (SlRd.of_cel (T := 3) (xs := [s.s0].map encI) (sp := e.starts.sp) ((.tail _ hS)) rfl (by simp [encI]) (by simp)) (SlRd.of_cel (T := 114) (xs := [s.l0, s.l1, s.l2].map CLine.cells) (sp := e.lines.sp) ((.tail _ hL)) rfl (by simp [mP]) (by simp)) (by simp) (by simp) (by simp) (by simp)) fun y _ => (te (bN (E := 111) (l := [.int .i64 0, y.1.v 1, y.2.v 3]) rfl (fun w => by kernel_rfl) rfl fun b21 => ?_)))))))
 refine te (fN Tryz.underlying53 eB rfl (by decide) rfl rfl (Own.nil 111 3) (.refl _) rfl (by simp [Value.oneCell']) (by decide) (by decide) rfl fun v1 E1 hO1 => (tv (aD rfl) (aF (Tr.keep (env' := [(3, _), (12, _), (13, _), (14, _)]) ⟨rfl, rfl, rfl, rfl, trivial⟩ (cX (aB ?_))))))
 refine aA (tv (cC rfl rfl (by omega)) (tv (aC rfl) (aF (Tr.keep (env' := [(3, _), (12, _), (13, _), (14, _)]) ⟨rfl, rfl, rfl, rfl, trivial⟩ (aB ?_)))))
 refine cR (aE (aA (tv (dI rfl rfl) (aF (Tr.keep (env' := [(3, _), (12, _), (13, _), (14, _), (15, _)]) ⟨rfl, rfl, rfl, rfl, rfl, trivial⟩ ?_)))))
 refine aB (aE (aR rfl (cY (aS (aS ?_)))))
 refine bX (aB (aE (aA (tv (aC rfl) (tv (aD rfl) ?_)))))
 refine aF (Tr.keep (env' := [(2, _)]) ⟨rfl, trivial⟩ (aB (aQ (aW rfl rfl (fun w hw => ?_)))))
 obtain ⟨sC, hv, hE⟩ := gA hO1 rfl (Nat.succ_pos _)
 subst hv hE
 exact ⟨(sC, y.1, y.2), rfl, trivial, Ok.sub (hw.perm (mH .here (pk .here (pk .here (.refl _))))) (.cons_cons _ (.cons_cons _ (.cons_cons _ (.cons _ (.refl _)))))⟩
end
end Go.Proofs.W
set_option linter.unusedVariables false
set_option linter.unusedSimpArgs false
set_option linter.unusedSectionVars false
set_option maxRecDepth 100000
namespace Go.Proofs.W
open Go Go.Sl Go.RowKit Go.Proofs
attribute [local irreducible] Go.Sl.Eff
theorem pW : iA ⟨#[48]⟩ 0 := ⟨⟨by unfold fT; decide, by decide, by decide⟩, by decide⟩
theorem mR : iA ⟨#[49]⟩ 1 := ⟨⟨by unfold fT; decide, by decide, by decide⟩, by decide⟩
theorem num_5 : iA ⟨#[53]⟩ 5 := ⟨⟨by unfold fT; decide, by decide, by decide⟩, by decide⟩
theorem num_9 : iA ⟨#[57]⟩ 9 := ⟨⟨by unfold fT; decide, by decide, by decide⟩, by decide⟩
theorem bM1 : iA ⟨#[49, 48]⟩ 10 := ⟨⟨by unfold fT; decide, by decide, by decide⟩, by decide⟩
theorem num_600 : iA ⟨#[54, 48, 48]⟩ 600 := ⟨⟨by unfold fT; decide, by decide, by decide⟩, by decide⟩
theorem num_630 : iA ⟨#[54, 51, 48]⟩ 630 := ⟨⟨by unfold fT; decide, by decide, by decide⟩, by decide⟩
theorem aX5 : iA ⟨#[54, 51, 51]⟩ 633 := ⟨⟨by unfold fT; decide, by decide, by decide⟩, by decide⟩
theorem bM2 : iA ⟨#[49, 48, 48, 48]⟩ 1000 := ⟨⟨by unfold fT; decide, by decide, by decide⟩, by decide⟩
theorem bM3 : iA ⟨#[50, 48, 48, 48]⟩ 2000 := ⟨⟨by unfold fT; decide, by decide, by decide⟩, by decide⟩
theorem aU0 : iA ⟨#[51, 48, 48, 48, 48, 48]⟩ 300000 := ⟨⟨by unfold fT; decide, by decide, by decide⟩, by decide⟩
theorem aU1 : iA ⟨#[51, 48, 49, 48, 48, 48]⟩ 301000 := ⟨⟨by unfold fT; decide, by decide, by decide⟩, by decide⟩
theorem aU2 : iA ⟨#[51, 48, 50, 48, 48, 48]⟩ 302000 := ⟨⟨by unfold fT; decide, by decide, by decide⟩, by decide⟩
theorem aU3 : iA ⟨#[52, 48, 48, 48, 48, 48]⟩ 400000 := ⟨⟨by unfold fT; decide, by decide, by decide⟩, by decide⟩
abbrev scA : ByteArray := ⟨#[111, 112, 101, 110, 32, 48, 10, 99, 111, 118, 101, 114, 101, 100, 32, 48, 10, 112, 111, 115, 116, 32, 48, 32, 53, 10, 112, 111, 115, 116, 32, 49, 32, 53, 10, 115, 116, 97, 114, 116, 32, 49, 32, 49, 48, 10, 115, 116, 97, 114, 116, 32, 49, 32, 49, 48, 10]⟩
abbrev scB : ByteArray := ⟨#[108, 105, 110, 101, 32, 49, 32, 49, 32, 54, 51, 51, 32, 51, 48, 48, 48, 48, 48, 10, 111, 112, 101, 110, 32, 48, 48, 10, 106, 117, 109, 112, 32, 49, 10, 112, 111, 115, 116, 32, 57, 32, 49]⟩
theorem aU4 : dX 10 scA.size scA = [⟨#[111, 112, 101, 110, 32, 48]⟩, ⟨#[99, 111, 118, 101, 114, 101, 100, 32, 48]⟩, ⟨#[112, 111, 115, 116, 32, 48, 32, 53]⟩, ⟨#[112, 111, 115, 116, 32, 49, 32, 53]⟩, ⟨#[115, 116, 97, 114, 116, 32, 49, 32, 49, 48]⟩, ⟨#[115, 116, 97, 114, 116, 32, 49, 32, 49, 48]⟩, ⟨#[]⟩] := by decide
theorem aJ0 : dX 10 scB.size scB = [⟨#[108, 105, 110, 101, 32, 49, 32, 49, 32, 54, 51, 51, 32, 51, 48, 48, 48, 48, 48]⟩, ⟨#[111, 112, 101, 110, 32, 48, 48]⟩, ⟨#[106, 117, 109, 112, 32, 49]⟩, ⟨#[112, 111, 115, 116, 32, 57, 32, 49]⟩] := by decide
theorem bM4 : cT ⟨#[111, 112, 101, 110, 32, 48]⟩ = [⟨#[111, 112, 101, 110]⟩, ⟨#[48]⟩] := by decide
theorem bM5 : cT ⟨#[99, 111, 118, 101, 114, 101, 100, 32, 48]⟩ = [⟨#[99, 111, 118, 101, 114, 101, 100]⟩, ⟨#[48]⟩] := by decide
theorem bM6 : cT ⟨#[112, 111, 115, 116, 32, 48, 32, 53]⟩ = [⟨#[112, 111, 115, 116]⟩, ⟨#[48]⟩, ⟨#[53]⟩] := by decide
theorem bM7 : cT ⟨#[112, 111, 115, 116, 32, 49, 32, 53]⟩ = [⟨#[112, 111, 115, 116]⟩, ⟨#[49]⟩, ⟨#[53]⟩] := by decide
theorem bM8 : cT ⟨#[115, 116, 97, 114, 116, 32, 49, 32, 49, 48]⟩ = [⟨#[115, 116, 97, 114, 116]⟩, ⟨#[49]⟩, ⟨#[49, 48]⟩] := by decide
theorem bM9 : cT ⟨#[115, 116, 97, 114, 116, 32, 49, 32, 49, 48]⟩ = [⟨#[115, 116, 97, 114, 116]⟩, ⟨#[49]⟩, ⟨#[49, 48]⟩] := by decide
theorem bN0 : cT ⟨#[108, 105, 110, 101, 32, 49, 32, 49, 32, 54, 51, 51, 32, 51, 48, 48, 48, 48, 48]⟩ = [⟨#[108, 105, 110, 101]⟩, ⟨#[49]⟩, ⟨#[49]⟩, ⟨#[54, 51, 51]⟩, ⟨#[51, 48, 48, 48, 48, 48]⟩] := by decide
theorem bN1 : cT ⟨#[111, 112, 101, 110, 32, 48, 48]⟩ = [⟨#[111, 112, 101, 110]⟩, ⟨#[48, 48]⟩] := by decide
theorem bN2 : cT ⟨#[106, 117, 109, 112, 32, 49]⟩ = [⟨#[106, 117, 109, 112]⟩, ⟨#[49]⟩] := by decide
theorem bN3 : cT ⟨#[112, 111, 115, 116, 32, 57, 32, 49]⟩ = [⟨#[112, 111, 115, 116]⟩, ⟨#[57]⟩, ⟨#[49]⟩] := by decide
theorem bN4 : cT ⟨#[112, 97, 115, 115, 32, 48, 32, 48, 32, 49, 32, 48, 32, 49, 48, 48, 48, 32, 50, 48, 48, 48]⟩ = [⟨#[112, 97, 115, 115]⟩, ⟨#[48]⟩, ⟨#[48]⟩, ⟨#[49]⟩, ⟨#[48]⟩, ⟨#[49, 48, 48, 48]⟩, ⟨#[50, 48, 48, 48]⟩] := by decide
theorem bN5 : cT ⟨#[112, 97, 115, 115, 32, 48, 32, 49, 32, 49, 32, 49, 32, 51, 48, 49, 48, 48, 48, 32, 51, 48, 50, 48, 48, 48]⟩ = [⟨#[112, 97, 115, 115]⟩, ⟨#[48]⟩, ⟨#[49]⟩, ⟨#[49]⟩, ⟨#[49]⟩, ⟨#[51, 48, 49, 48, 48, 48]⟩, ⟨#[51, 48, 50, 48, 48, 48]⟩] := by decide
theorem bN6 : cT ⟨#[108, 101, 103, 32, 49, 32, 48, 32, 54, 48, 48]⟩ = [⟨#[108, 101, 103]⟩, ⟨#[49]⟩, ⟨#[48]⟩, ⟨#[54, 48, 48]⟩] := by decide
theorem bN7 : cT ⟨#[108, 105, 110, 101, 32, 49, 32, 48, 32, 54, 51, 48, 32, 48]⟩ = [⟨#[108, 105, 110, 101]⟩, ⟨#[49]⟩, ⟨#[48]⟩, ⟨#[54, 51, 48]⟩, ⟨#[48]⟩] := by decide
theorem bN8 : cT ⟨#[116, 97, 107, 101, 32, 49, 32, 49, 32, 54, 51, 51, 32, 52, 48, 48, 48, 48, 48]⟩ = [⟨#[116, 97, 107, 101]⟩, ⟨#[49]⟩, ⟨#[49]⟩, ⟨#[54, 51, 51]⟩, ⟨#[52, 48, 48, 48, 48, 48]⟩] := by decide
def a1 : St := St.put { sI with g := sI.g.hear 1 0 0 0 } ⟨#[111, 112, 101, 110, 32, 48]⟩
def a2 : St := St.put { a1 with g := a1.g.hear 6 0 0 0 } ⟨#[99, 111, 118, 101, 114, 101, 100, 32, 48]⟩
def a3 : St := St.put { a2 with g := a2.g.hear 3 5 0 0 } ⟨#[112, 111, 115, 116, 32, 48, 32, 53]⟩
def a4 : St := St.put { a3 with g := a3.g.hear 3 5 1 0 } ⟨#[112, 111, 115, 116, 32, 49, 32, 53]⟩
def a5 : St := St.put { a4 with g := a4.g.start 0 10 } ⟨#[115, 116, 97, 114, 116, 32, 49, 32, 49, 48]⟩
def stA : Nat → St
 | 0 => sI | 1 => a1 | 2 => a2 | 3 => a3 | 4 => a4 | _ => a5
def pX : Nat → Nat
 | 5 => 7 | _ => 0
def pY : Nat → Nat
 | 0 => 2 | 1 => 3 | 2 => 3 | 3 => 2 | _ => 0
def kB (code : Nat → Nat) (n : Nat) (k : Nat) : List UInt8 := ((List.range (min k n)).map fun j => (oF (code j)).data.toList).flatten
theorem aB1 (code : Nat → Nat) (n : Nat) (hn : n ≤ 10) (k : Nat) : (kB code n k).length ≤ 1000000 := by
 have h : ∀ l : List Nat, (((l.map fun j => (oF (code j)).data.toList)).flatten).length ≤ 8 * l.length := by
  intro l
  induction l with
  | nil => simp
  | cons x l ih =>
   have h8 : (oF (code x)).data.toList.length ≤ 8 := by
    unfold oF; split
    ·decide
    ·exact Nat.le_of_eq (tX _)
   simp only [List.map_cons, List.flatten_cons, List.length_append, List.length_cons]
   omega
 have := h (List.range (min k n))
 simp only [List.length_range] at this
 unfold kB
 omega
theorem yK (code : Nat → Nat) (n k : Nat) (h : k < n) : kB code n (k + 1) = kB code n k ++ (oF (code k)).data.toList := by
 unfold kB
 rw [show min (k + 1) n = min k n + 1 by omega, List.range_succ, List.map_append, List.flatten_append, show min k n = k by omega]
 simp
theorem aU5 (code : Nat → Nat) (n k : Nat) (h : n ≤ k) : kB code n (k + 1) = kB code n k := by
 unfold kB
 rw [show min (k + 1) n = n by omega, show min k n = n by omega]
theorem codesA (k : Nat) : pX k < 10 := by unfold pX; split <;> decide
theorem codesB (k : Nat) : pY k < 10 := by unfold pY; split <;> decide
def c1 : St := St.put { sI with lg := sI.lg.add ⟨0, 0, 1, 1, 0, 1000⟩ 2000, g := sI.g.hear 8 2 0 0 } ⟨#[112, 97, 115, 115, 32, 48, 32, 48, 32, 49, 32, 48, 32, 49, 48, 48, 48, 32, 50, 48, 48, 48]⟩
def c2 : St := St.put { c1 with lg := c1.lg.add ⟨0, 1, 1, 1, 1, 301000⟩ 302000, g := c1.g.hear 8 302 1 0 } ⟨#[112, 97, 115, 115, 32, 48, 32, 49, 32, 49, 32, 49, 32, 51, 48, 49, 48, 48, 48, 32, 51, 48, 50, 48, 48, 48]⟩
def c3 : St := St.put { c2 with s0 := 600 } ⟨#[108, 101, 103, 32, 49, 32, 48, 32, 54, 48, 48]⟩
def c4 : St := St.put { c3 with l0 := ⟨630, 0, false, 0⟩ } ⟨#[108, 105, 110, 101, 32, 49, 32, 48, 32, 54, 51, 48, 32, 48]⟩
def c5 : St := St.put { c4 with l1 := ⟨633, 300000, false, 0⟩ } ⟨#[116, 97, 107, 101, 32, 49, 32, 49, 32, 54, 51, 51, 32, 52, 48, 48, 48, 48, 48]⟩
def stC : Nat → St
 | 0 => sI | 1 => c1 | 2 => c2 | 3 => c3 | 4 => c4 | _ => c5
theorem aX6 {g : GuardSt} (h1 : g.posts.all (fun x => decide (0 ≤ x.second) && decide (x.second ≤ 100000)) = true) (h2 : g.cars.all (fun c => decide (0 ≤ c.second) && decide (c.second ≤ 100000)) = true) : g.Sane :=
 ⟨fun x hx => by simpa using List.all_eq_true.1 h1 x hx, fun c hc => by simpa using List.all_eq_true.1 h2 c hc⟩
section
variable {w0 : World} {M : List Ent}
theorem doA (hT : Tab w0) (e : EvAt) (k : Nat) (x : ByteArray) (hx : (dX 10 scA.size scA)[k]? = some x) (hne : x ≠ ⟨#[]⟩) : gK w0 e (stA k) (stA (k + 1)) x (pX k) := by
 rw [aU4] at hx
 match k, hx with
 | 0, hx => cases hx; exact bB7 hT (s := sI) (n := 0) pW (by constructor <;> decide) (by decide) (by decide) (by decide) bM4
 | 1, hx => cases hx; exact aI8 hT (s := a1) (n := 0) pW (by constructor <;> decide) (by decide) (by decide) (by decide) bM5
 | 2, hx => cases hx; exact aA8 hT (s := a2) (n := 5) (p := 0) pW num_5 (by constructor <;> decide) (by decide) (by decide) (by decide) bM6
 | 3, hx => cases hx; exact aA8 hT (s := a3) (n := 5) (p := 1) mR num_5 (by constructor <;> decide) (by decide) (by decide) (by decide) bM7
 | 4, hx => cases hx; exact aT8 hT (s := a4) (n := 10) mR bM1 (by constructor <;> decide) (aX6 (by decide) (by decide)) (by decide) (by decide) (by decide) (by decide) bM8
 | 5, hx => cases hx; exact zM (s := a5) (n := 10) mR bM1 (by constructor <;> decide) (aX6 (by decide) (by decide)) (by decide) (by decide) (by decide) bM9
 | 6, hx => cases hx; exact absurd rfl hne
 | k + 7, hx => simp at hx
theorem doB (hT : Tab w0) (e : EvAt) (k : Nat) (x : ByteArray) (hx : (dX 10 scB.size scB)[k]? = some x) : gK w0 e sI sI x (pY k) := by
 rw [aJ0] at hx
 match k, hx with
 | 0, hx => cases hx; exact zN (s := sI) (n2 := 633) (n3 := 300000) mR mR aX5 aU0 (by decide) (by decide) (by decide) bN0
 | 1, hx => cases hx; exact zO (s := sI) (by unfold fT; decide) (by decide) (by decide) (by decide) bN1
 | 2, hx => cases hx; exact bB6 (s := sI) (by decide) bN2 (bA4 _)
 | 3, hx => cases hx; exact aI9 (s := sI) (n := 1) (p := 9) num_9 mR (by constructor <;> decide) (by decide) (by decide) bN3
 | k + 4, hx => simp at hx
abbrev yL : List ByteArray := [⟨#[112, 97, 115, 115, 32, 48, 32, 48, 32, 49, 32, 48, 32, 49, 48, 48, 48, 32, 50, 48, 48, 48]⟩, ⟨#[112, 97, 115, 115, 32, 48, 32, 49, 32, 49, 32, 49, 32, 51, 48, 49, 48, 48, 48, 32, 51, 48, 50, 48, 48, 48]⟩, ⟨#[108, 101, 103, 32, 49, 32, 48, 32, 54, 48, 48]⟩, ⟨#[108, 105, 110, 101, 32, 49, 32, 48, 32, 54, 51, 48, 32, 48]⟩, ⟨#[116, 97, 107, 101, 32, 49, 32, 49, 32, 54, 51, 51, 32, 52, 48, 48, 48, 48, 48]⟩]
theorem doC (hT : Tab w0) (e : EvAt) (k : Nat) (x : ByteArray) (hx : yL[k]? = some x) : gK w0 e (stC k) (stC (k + 1)) x 0 := by
 match k, hx with
 | 0, hx => cases hx; exact aA9 hT (s := sI) (n1 := 0) (n4 := 1000) (n5 := 2000) (s2 := 2) (p := 0) pW pW mR pW bM2 bM3 (by constructor <;> decide) (by decide) (by decide) (by decide) (by constructor <;> decide) (by decide) (by decide) (by decide) (by decide) bN4
 | 1, hx => cases hx; exact aA9 hT (s := c1) (n1 := 1) (n4 := 301000) (n5 := 302000) (s2 := 302) (p := 1) pW mR mR mR aU1 aU2 (by constructor <;> decide) (by decide) (by decide) (by decide) (by constructor <;> decide) (by decide) (by decide) (by decide) (by decide) bN5
 | 2, hx => cases hx; exact bL7 hT (s := c2) (n := 600) mR pW num_600 (by decide) (by decide) (by decide) (by decide) bN6
 | 3, hx => cases hx; exact aT9 hT (s := c3) (n2 := 630) (n3 := 0) mR pW num_630 pW (by decide) (by decide) (by decide) (by decide) bN7
 | 4, hx => cases hx; exact bB8 hT (s := c4) (n2 := 633) mR mR aX5 aU3 (by decide) (by constructor <;> decide) (by rfl) (by decide) (by decide) (by decide) bN8
 | k + 5, hx => simp at hx
end
end Go.Proofs.W
set_option linter.unusedVariables false
set_option linter.unusedSimpArgs false
set_option linter.unusedSectionVars false
set_option maxRecDepth 100000
namespace Go.Proofs.W
open Go Go.Sl Go.RowKit Go.Proofs
attribute [local irreducible] Go.Sl.Eff
theorem en_11 : aV Tryz.prog 11 := aL Tryz.func11 (by kernel_rfl) (by kernel_rfl)
theorem en_18 : aV Tryz.prog 18 := aL Tryz.func18 (by kernel_rfl) (by kernel_rfl)
theorem bN9 : aV Tryz.prog 42 := aL Tryz.func42 (by kernel_rfl) (by kernel_rfl)
theorem en_43 : aV Tryz.prog 43 := aL Tryz.func43 (by kernel_rfl) (by kernel_rfl)
theorem hempA (k : Nat) (hx : (dX 10 scA.size scA)[k]? = some ⟨#[]⟩) : stA (k + 1) = stA k ∧ kB pX 6 (k + 1) = kB pX 6 k := by
 rw [aU4] at hx
 match k, hx with
 | 0, hx => exact absurd hx (by decide)
 | 1, hx => exact absurd hx (by decide)
 | 2, hx => exact absurd hx (by decide)
 | 3, hx => exact absurd hx (by decide)
 | 4, hx => exact absurd hx (by decide)
 | 5, hx => exact absurd hx (by decide)
 | 6, hx => exact ⟨rfl, aU5 _ _ _ (by decide)⟩
 | k + 7, hx => simp at hx
theorem houtA (k : Nat) (x : ByteArray) (hx : (dX 10 scA.size scA)[k]? = some x) (hne : x ≠ ⟨#[]⟩) : kB pX 6 (k + 1) = kB pX 6 k ++ (oF (pX k)).data.toList := by
 refine yK _ _ _ ?_
 rw [aU4] at hx
 have h7 := (List.getElem?_eq_some_iff.1 hx).1
 simp at h7
 rcases Nat.lt_or_ge k 6 with h | h
 ·exact h
 ·obtain rfl : k = 6 := by omega
  cases hx
  exact absurd rfl hne
theorem hempB (k : Nat) (hx : (dX 10 scB.size scB)[k]? = some ⟨#[]⟩) : sI = sI ∧ kB pY 4 (k + 1) = kB pY 4 k := by
 rw [aJ0] at hx
 match k, hx with
 | 0, hx => exact absurd hx (by decide)
 | 1, hx => exact absurd hx (by decide)
 | 2, hx => exact absurd hx (by decide)
 | 3, hx => exact absurd hx (by decide)
 | k + 4, hx => simp at hx
theorem houtB (k : Nat) (x : ByteArray) (hx : (dX 10 scB.size scB)[k]? = some x) (hne : x ≠ ⟨#[]⟩) : kB pY 4 (k + 1) = kB pY 4 k ++ (oF (pY k)).data.toList := by
 refine yK _ _ _ ?_
 rw [aJ0] at hx
 have h7 := (List.getElem?_eq_some_iff.1 hx).1
 simpa using h7
section
variable {w0 : World} {M : List Ent}
theorem aJ1 (hT : Tab w0) : ∀ w, Ok w0 M w → Calls Tryz.prog 10 #[] w (fun e w' => e = .returned (.bool true) ∧ Ok w0 M w') := by
 refine enter (vs := []) Tryz.func10 rfl Tryz.ntmps10 rfl (aE (aA (tv (aD rfl) (aF (Tr.keep (env' := []) trivial ?_)))))
 refine aB (aE (aA (te (bP bN9 rfl rfl rfl rfl wH fun a1 _ => (te (aJ en_11 rfl rfl rfl rfl (aB0 (a := a1) SAt.in_ents scA stA pX (kB pX 6) (by decide) rfl rfl (aB1 _ 6 (by decide)) codesA (by decide) hempA houtA (fun e k x hx hne => doA hT e k x hx hne)) (tv (aC rfl) ?_)))))))
 refine tv (bA rfl rfl) (tv (bA rfl rfl) (tv (aD rfl) (tv (aD rfl) (aF (Tr.keep (env' := [(1, _), (2, _)]) ⟨rfl, rfl, trivial⟩ ?_)))))
 refine aB (aE (aA (te (bP bN9 rfl rfl rfl rfl wH fun a2 _ => (te (aJ en_11 rfl rfl rfl rfl (aB0 (a := a2) SAt.in_ents scB (fun _ => sI) pY (kB pY 4) (by decide) rfl rfl (aB1 _ 4 (by decide)) codesB (by decide) hempB houtB (fun e k x hx _ => doB hT e k x hx)) (tv (aC rfl) ?_)))))))
 refine tv (bA rfl rfl) (tv (bA rfl rfl) (tv (aD rfl) (tv (aD rfl) (aF (Tr.keep (env' := [(1, _), (2, _), (3, _), (4, _)]) ⟨rfl, rfl, rfl, rfl, trivial⟩ ?_)))))
 refine aB (aE (aA (te (bP bN9 rfl rfl rfl rfl wH fun a3 _ => (te (bN (E := 9) (l := bT (yL.map dG)) rfl (fun w => by kernel_rfl) rfl fun b21 => (te (bP en_43 rfl rfl rfl rfl (bM0 (a := a3) (SAt.in_ents.sub (.cons _ (.refl _))) (lines := yL) (SlRd.of_cel (T := 9) (xs := yL.map dG) (sp := []) (show cel b21 9 (bT (yL.map dG) ++ []) ∈ _ from .head _) rfl (by decide) (by decide)) stC rfl (fun e k x hx => doC hT e k x hx)) fun y _ => ?_))))))))
 obtain ⟨e', lv, lE⟩ := y
 dsimp only
 refine tv (aC rfl) (tv (bA rfl rfl) (tv (bA rfl rfl) (tv (bA rfl rfl) (tv (aD rfl) (tv (aD rfl) ?_)))))
 refine tv (aD rfl) (aF (Tr.keep (env' := [(1, _), (2, _), (3, _), (4, _), (5, _), (6, _), (7, _)]) ⟨rfl, rfl, rfl, rfl, rfl, rfl, rfl, trivial⟩ (aB (aE (aE ?_)))))
 refine aA (tv (aC rfl) (tv (cM (v2 := .bool false) (eF rfl rfl) rfl) (tv (aC rfl) (cV rfl rfl (aC rfl) (cV rfl rfl (cM (v2 := .bool false) (eF rfl rfl) rfl) ?_)))))
 refine tv (bS rfl rfl) (tv (aC rfl) (cV rfl rfl (aC rfl) (cV rfl rfl (cM (v2 := .bool false) (eF rfl rfl) rfl) (tv (bS rfl rfl) (tv (aC rfl) ?_)))))
 refine cV rfl rfl (aC rfl) (cV rfl rfl (cM (v2 := .bool false) (eF rfl rfl) rfl) (tv (bS rfl rfl) (tv (aC rfl) (cV rfl rfl (aC rfl) (cV rfl rfl (cM (v2 := .bool false) (vU Tryz.underlying46 rfl rfl) rfl) ?_)))))
 refine tv (bS rfl rfl) (aF (Tr.keep (env' := [(1, _), (3, _), (5, _), (43, _)]) ⟨rfl, rfl, rfl, rfl, trivial⟩ (aB (aR rfl (aO ?_)))))
 refine aB (aE (aA (tv (aC rfl) (te (bP en_18 rfl rfl rfl rfl (cards_c (e := e') (lv := lv) (s := c5) (.head _) (.tail _ (.head _)) (.tail _ (.tail _ (.head _))) (.tail _ (.tail _ (.tail _ (.head _))))) fun z _ => ?_)))))
 obtain ⟨zC, zS, zL⟩ := z
 dsimp only
 refine tv (aD rfl) (aF (Tr.keep (env' := [(1, _), (3, _), (8, _)]) ⟨rfl, rfl, rfl, trivial⟩ (aB (aE (aA ?_)))))
 refine tv (aC rfl) (tv (cM (v2 := .bool true) (iE rfl rfl) (congrArg Value.bool (by decide))) (tv (aC rfl) (cV rfl rfl (aC rfl) (cV rfl rfl (cM (v2 := .bool true) (iE rfl rfl) (congrArg Value.bool (by decide))) (tv (cG rfl rfl) ?_)))))
 refine tv (aC rfl) (cV rfl rfl (aC rfl) (cV rfl rfl (aP Tryz.underlying53 rfl) (cV rfl rfl (cW rfl rfl) (tv (cG rfl rfl) (tv (aC rfl) ?_)))))
 refine cV rfl rfl (aC rfl) (cV rfl rfl (dE (j := 0) Tryz.underlying53 dA rfl rfl rfl (by decide)) (cV rfl rfl (aI eH rfl) (cV rfl rfl (aG gF rfl (aK (.head _) rfl)) (cV rfl rfl (aP Tryz.underlying109 rfl) (cV rfl rfl (cW rfl rfl) ?_)))))
 refine tv (cG rfl rfl) (tv (aC rfl) (cV rfl rfl (aC rfl) (cV rfl rfl (dE (j := 0) Tryz.underlying53 dA rfl rfl rfl (by decide)) (cV rfl rfl (aI eH rfl) (cV rfl rfl (aG gF rfl (aK (.head _) rfl)) ?_)))))
 refine cV rfl rfl (dE (j := 1) Tryz.underlying109 jF rfl rfl rfl (by decide)) (cV rfl rfl (aI kS rfl) (cV rfl rfl (aG bB rfl (aK (.tail _ (.tail _ (.head _))) rfl)) (cV rfl rfl (cW rfl rfl) (tv (cG rfl rfl) (tv (aD rfl) ?_)))))
 refine aF (Tr.keep (env' := [(0, _)]) ⟨rfl, trivial⟩ (aB (aQ (aW rfl rfl (fun w hw => ?_)))))
 exact ⟨rfl, hw.sub (.cons _ (.cons _ (.cons _ (List.Sublist.trans (.cons _ ((List.sublist_append_right _ _).trans ((List.sublist_append_right _ _).trans (List.sublist_append_right _ _)))) tY))))⟩
end
end Go.Proofs.W
