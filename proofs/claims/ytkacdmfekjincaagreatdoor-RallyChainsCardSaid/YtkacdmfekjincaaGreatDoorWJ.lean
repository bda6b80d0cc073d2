/-
  What functions of the program that RallyChains reaches do, one contract each, part 10.
-/
import Derived.Test.YtkacdmfekjincaaGreatDoorWI
import Derived.Test.YtkacdmfekjincaaGreatDoorSlB
set_option linter.unusedVariables false
set_option linter.unusedSimpArgs false
set_option linter.unusedSectionVars false
set_option maxRecDepth 100000
namespace Go.Proofs.W
open Go Go.Sl Go.RowKit Go.Proofs
attribute [local irreducible] Go.Sl.Eff
theorem ca_5 : cellsAs Tryz.prog 5 = some (none) := by kernel_rfl
theorem en_243 : Enters Tryz.prog 243 := enters_of Tryz.func243 (by kernel_rfl) (by kernel_rfl)
theorem en_244 : Enters Tryz.prog 244 := enters_of Tryz.func244 (by kernel_rfl) (by kernel_rfl)
theorem en_286 : Enters Tryz.prog 286 := enters_of Tryz.func286 (by kernel_rfl) (by kernel_rfl)
theorem inf_344 : (Tryz.prog.info? 344).map (fun i => (i.zero, i.size, i.bytes)) = some (some (.agg #[.int .u8 0, .int .u8 0, .int .u8 0, .int .u8 0, .int .u8 0, .int .u8 0, .int .u8 0, .int .u8 0, .int .u8 0, .int .u8 0, .int .u8 0, .int .u8 0, .int .u8 0, .int .u8 0, .int .u8 0, .int .u8 0, .int .u8 0, .int .u8 0, .int .u8 0, .int .u8 0, .int .u8 0, .int .u8 0, .int .u8 0, .int .u8 0, .int .u8 0, .int .u8 0, .int .u8 0, .int .u8 0, .int .u8 0, .int .u8 0, .int .u8 0, .int .u8 0, .int .u8 0, .int .u8 0, .int .u8 0, .int .u8 0, .int .u8 0, .int .u8 0, .int .u8 0, .int .u8 0, .int .u8 0, .int .u8 0, .int .u8 0, .int .u8 0, .int .u8 0, .int .u8 0, .int .u8 0, .int .u8 0, .int .u8 0, .int .u8 0, .int .u8 0, .int .u8 0, .int .u8 0, .int .u8 0, .int .u8 0, .int .u8 0, .int .u8 0, .int .u8 0, .int .u8 0, .int .u8 0, .int .u8 0, .int .u8 0, .int .u8 0, .int .u8 0, .int .u8 0]), 65, 65) := by kernel_rfl
theorem iz_5 : (Tryz.prog.info? 5).map (·.size) = some 1 := by kernel_rfl
def Tab (w0 : World) : Prop := w0.cell? ⟨7, 15, none⟩ = some (.int .u8 4)
def chF (b : Int) (s : ByteArray) : Nat → Int
  | 0 => b
  | p + 1 => IntKind.u64.wrap (bits .xor .u64 (chF b s p) ((s.get! p).toNat : Int) * 1099511628211)
def chainV (b : Int) (s : ByteArray) : Int := IntKind.u64.wrap (chF b s s.size * 1099511628211)
abbrev hexTab : ByteArray := ⟨#[48, 49, 50, 51, 52, 53, 54, 55, 56, 57, 97, 98, 99, 100, 101, 102, 103, 104, 105, 106, 107, 108, 109, 110, 111, 112, 113, 114, 115, 116, 117, 118, 119, 120, 121, 122]⟩
def hexd (d : Nat) : UInt8 := hexTab.get! d
def hexA : Nat → Nat → List UInt8 → List UInt8
  | 0, _, acc => acc
  | f + 1, n, acc => if n < 16 then hexd n :: acc else hexA f (n / 16) (hexd (n % 16) :: acc)
def hexS (n : Nat) : List UInt8 := hexA 17 n []
abbrev hexB (n : Nat) : ByteArray := ⟨(hexS n).toArray⟩
theorem hexA_length : ∀ f n acc, (hexA f n acc).length ≤ f + acc.length ∧ (0 < f → acc.length < (hexA f n acc).length)
  | 0, _, acc => by simp [hexA]
  | f + 1, n, acc => by
    unfold hexA
    split
    · simp; omega
    · have := hexA_length f (n / 16) (hexd (n % 16) :: acc)
      simp at this ⊢
      rcases Nat.eq_zero_or_pos f with h | h
      · subst h; simp [hexA]; omega
      · omega
theorem hexA_ge {f n : Nat} {acc : List UInt8} (h : ¬ n < 16) : hexA (f + 1) n acc = hexA f (n / 16) (hexd (n % 16) :: acc) := by rw [hexA, if_neg h]
theorem hexA_lt {f n : Nat} {acc : List UInt8} (h : n < 16) : hexA (f + 1) n acc = hexd n :: acc := by rw [hexA, if_pos h]
theorem getq {s : ByteArray} {p : Nat} (h : p < s.size) : s[p]? = some (s.get! p) := by rw [get_ix s p h]; simp [h]
theorem setAt_rep (z v : Value) (r : List Value) : ∀ k, SetAt (List.replicate (k + 1) z ++ r) k v (List.replicate k z ++ v :: r)
  | 0 => .zero
  | k + 1 => by
    rw [show List.replicate (k + 1 + 1) z ++ r = z :: (List.replicate (k + 1) z ++ r) from rfl, show List.replicate (k + 1) z ++ v :: r = z :: (List.replicate k z ++ v :: r) from rfl]
    exact .succ (setAt_rep z v r k)
theorem and15 {n : Nat} (h : n < 18446744073709551616) : bits .and .u64 (n : Int) 15 = ((n % 16 : Nat) : Int) := by
  have := bits_and_u64_nat n 15 h (by omega)
  rw [show ((15 : Nat) : Int) = 15 from rfl] at this
  rw [this, show (15 : Nat) = 2 ^ 4 - 1 from rfl, Nat.and_two_pow_sub_one_eq_mod]
theorem shr4 {n : Nat} : ((n : Int)).fdiv (2 ^ (min (4 : Int).toNat IntKind.u64.bits)) = ((n / 16 : Nat) : Int) := by
  show ((n : Int)).fdiv 16 = _
  rw [Int.fdiv_eq_ediv_of_nonneg _ (by decide)]
  rfl
section
variable {w0 : World} {M : List Ent}
theorem chainOf_c (b : Int) (s : ByteArray) (hs : s.size ≤ 4611686018427387904) : ∀ w, Ok w0 M w → Calls Tryz.prog 21 #[.int .u64 b, .string s] w (fun e w' => e = .returned (.int .u64 (chainV b s)) ∧ Ok w0 M w') := by
  refine enter (vs := [_, _]) Tryz.func21 rfl Tryz.ntmps21 rfl ?_
  refine t_seq ?_
  refine t_region ?_
  refine t_val (r_assign rfl) rfl ?_
  refine t_nil ?_
  refine Tr.keep (env' := [(0, _), (1, _)]) ⟨rfl, rfl, trivial⟩ ?_
  refine t_then ?_
  refine t_seq ?_
  refine t_seq ?_
  refine t_region ?_
  refine t_val (r_move rfl) rfl ?_
  refine t_val (r_len_str Tryz.underlying9 rfl) rfl ?_
  refine t_val (r_move rfl) rfl ?_
  refine t_nil ?_
  refine Tr.keep (env' := [(0, _), (1, _), (7, _), (8, _)]) ⟨rfl, rfl, rfl, rfl, trivial⟩ ?_
  refine t_then ?_
  refine t_block ?_
  refine t_loop (fun p : Nat => [(0, .int .u64 (chF b s p)), (1, .string s), (7, .int .i64 (s.size : Int)), (8, .int .i64 (p : Int))]) (fun p : Nat => M) (fun p : Nat => p ≤ s.size) (fun p : Nat => s.size - p) 0 (Nat.zero_le _) ⟨rfl, rfl, rfl, rfl, trivial⟩ (.refl _) ?_
  intro K p hp IH
  refine t_seq ?_
  refine t_region ?_
  refine t_val (r_lt rfl rfl) rfl ?_
  refine t_nil ?_
  refine Tr.keep (env' := [(0, _), (1, _), (7, _), (8, _), (9, _)]) ⟨rfl, rfl, rfl, rfl, rfl, trivial⟩ ?_
  refine t_then ?_
  refine t_seq ?_
  refine t_cond rfl (fun hc => ?_) (fun hc => ?_)
  · have hlt : p < s.size := by have := of_decide_eq_true hc; omega
    refine t_skip ?_
    refine t_then ?_
    refine t_seq ?_
    refine t_block ?_
    refine t_seq ?_
    refine t_region ?_
    refine t_val (r_move rfl) rfl ?_
    refine t_val (r_assign rfl) rfl ?_
    refine t_nil ?_
    refine Tr.keep (env' := [(0, _), (1, _), (5, _), (7, _), (8, _)]) ⟨rfl, rfl, rfl, rfl, rfl, trivial⟩ ?_
    refine t_then ?_
    refine t_region ?_
    refine t_val (r_move rfl) rfl ?_
    refine t_val (r_move rfl) rfl ?_
    refine t_val (r_move rfl) rfl ?_
    refine t_val (r_sidx (b := s.get! p) p Tryz.underlying9 rfl rfl rfl (getq hlt)) rfl ?_
    refine t_val (r_to (v2 := .int .u64 ((s.get! p).toNat : Int)) (r_conv Tryz.underlying5 Tryz.underlying82 rfl) (congrArg (Value.int .u64) (by rw [IntKind.wrap_u64]; have := (s.get! p).toNat_lt; omega))) rfl ?_
    refine t_val (r_xor rfl rfl) rfl ?_
    refine t_val (r_mul rfl rfl) rfl ?_
    refine t_val (r_assign rfl) rfl ?_
    refine t_nil ?_
    refine Tr.keep (env' := [(0, _), (1, _), (7, _), (8, _)]) ⟨rfl, rfl, rfl, rfl, trivial⟩ ?_
    refine t_in ?_
    refine t_then ?_
    refine t_region ?_
    refine t_val (r_addi rfl rfl (by omega)) rfl ?_
    refine t_val (r_move rfl) rfl ?_
    refine t_nil ?_
    refine Tr.keep (env' := [(0, _), (1, _), (7, _), (8, _)]) ⟨rfl, rfl, rfl, rfl, trivial⟩ ?_
    refine t_then ?_
    refine t_K (IH (p + 1) (by omega) (by omega)) ⟨rfl, rfl, rfl, rfl, trivial⟩ (.refl _)
  · have hge : ¬ p < s.size := by have := of_decide_eq_false hc; omega
    obtain rfl : p = s.size := by omega
    refine t_exit ?_
    refine t_then_exit ?_
    refine t_then_exit ?_
    refine t_in_hit ?_
    refine t_then ?_
    refine t_seq ?_
    refine t_region ?_
    refine t_val (r_move rfl) rfl ?_
    refine t_val (r_mul rfl rfl) rfl ?_
    refine t_val (r_assign rfl) rfl ?_
    refine t_nil ?_
    refine Tr.keep (env' := [(4, _)]) ⟨rfl, trivial⟩ ?_
    refine t_then ?_
    refine t_retc ?_
    refine t_ret1 rfl rfl (fun w hw => ?_)
    exact ⟨rfl, hw⟩
theorem pow2_16 : ∀ w, Ok w0 M w → Calls Tryz.prog 243 #[.int .i64 16] w (fun e w' => e = .returned (.bool true) ∧ Ok w0 M w') := by
  refine enter (vs := [_]) Tryz.func243 rfl Tryz.ntmps243 rfl ?_
  refine t_seq ?_
  refine t_region ?_
  refine t_val (r_assign rfl) rfl ?_
  refine t_nil ?_
  refine Tr.keep (env' := [(0, _)]) ⟨rfl, trivial⟩ ?_
  refine t_then ?_
  refine t_seq ?_
  refine t_region ?_
  refine t_val (r_move rfl) rfl ?_
  refine t_val (r_move rfl) rfl ?_
  refine t_val (r_subi rfl rfl (by omega)) rfl ?_
  refine t_val (r_to (v2 := .int .i64 0) (r_and rfl rfl) (by rfl)) rfl ?_
  refine t_val (r_eq rfl rfl) rfl ?_
  refine t_val (r_assign rfl) rfl ?_
  refine t_nil ?_
  refine Tr.keep (env' := [(2, _)]) ⟨rfl, trivial⟩ ?_
  refine t_then ?_
  refine t_retc ?_
  refine t_ret1 rfl rfl (fun w hw => ?_)
  exact ⟨rfl, hw⟩
theorem tz64_16 (hT : Tab w0) : ∀ w, Ok w0 M w → Calls Tryz.prog 286 #[.int .u64 16] w (fun e w' => e = .returned (.int .i64 4) ∧ Ok w0 M w') := by
  refine enter (vs := [_]) Tryz.func286 rfl Tryz.ntmps286 rfl ?_
  refine t_seq ?_
  refine t_region ?_
  refine t_val (r_assign rfl) rfl ?_
  refine t_nil ?_
  refine Tr.keep (env' := [(0, _)]) ⟨rfl, trivial⟩ ?_
  refine t_then ?_
  refine t_seq ?_
  refine t_seq ?_
  refine t_region ?_
  refine t_val (r_move rfl) rfl ?_
  refine t_val (r_eq rfl rfl) rfl ?_
  refine t_nil ?_
  refine Tr.keep (env' := [(0, _), (4, _)]) ⟨rfl, rfl, trivial⟩ ?_
  refine t_then ?_
  refine t_cond_f rfl ?_
  refine t_skip ?_
  refine t_then ?_
  refine t_seq ?_
  refine t_region ?_
  refine t_val (r_move rfl) rfl ?_
  refine t_val (r_move rfl) rfl ?_
  refine t_val (r_to (v2 := .int .u64 18446744073709551600) (r_neg rfl) (by rfl)) rfl ?_
  refine t_val (r_to (v2 := .int .u64 16) (r_and rfl rfl) (by rfl)) rfl ?_
  refine t_val (r_to (v2 := .int .u64 4573923408821661840) (r_mul rfl rfl) (by rfl)) rfl ?_
  refine t_val (r_to (v2 := .int .u64 15) (r_shr rfl rfl (by decide)) (by rfl)) rfl ?_
  refine t_val (r_iaa (j := 15) Tryz.underlying405 iz_5 rfl rfl rfl (by decide)) rfl ?_
  refine t_val (r_load ca_5 rfl (rd_old hT)) rfl ?_
  refine t_val (r_convI Tryz.underlying5 Tryz.underlying3 rfl (i' := 4) (by rfl)) rfl ?_
  refine t_val (r_assign rfl) rfl ?_
  refine t_nil ?_
  refine Tr.keep (env' := [(2, _)]) ⟨rfl, trivial⟩ ?_
  refine t_then ?_
  refine t_retc ?_
  refine t_ret1 rfl rfl (fun w hw => ?_)
  exact ⟨rfl, hw⟩
theorem tz_16 (hT : Tab w0) : ∀ w, Ok w0 M w → Calls Tryz.prog 244 #[.int .u64 16] w (fun e w' => e = .returned (.int .i64 4) ∧ Ok w0 M w') := by
  refine enter (vs := [_]) Tryz.func244 rfl Tryz.ntmps244 rfl ?_
  refine t_seq ?_
  refine t_region ?_
  refine t_val (r_assign rfl) rfl ?_
  refine t_nil ?_
  refine Tr.keep (env' := [(0, _)]) ⟨rfl, trivial⟩ ?_
  refine t_then ?_
  refine t_seq ?_
  refine t_cond_f rfl ?_
  refine t_skip ?_
  refine t_then ?_
  refine t_seq ?_
  refine t_region ?_
  refine t_val (r_move rfl) rfl ?_
  refine t_eff rfl (e_pcall en_286 rfl rfl rfl rfl (tz64_16 hT) ?_)
  refine t_val (r_assign rfl) rfl ?_
  refine t_nil ?_
  refine Tr.keep (env' := [(2, _)]) ⟨rfl, trivial⟩ ?_
  refine t_then ?_
  refine t_retc ?_
  refine t_ret1 rfl rfl (fun w hw => ?_)
  exact ⟨rfl, hw⟩
theorem formatBits_c (hT : Tab w0) (n : Nat) (hn : n < 18446744073709551616) : ∀ w, Ok w0 M w → Calls Tryz.prog 178 #[.slice none 0 0, .int .u64 (n : Int), .int .i64 16, .bool false, .bool false] w (fun e w' => e = .returned (.tuple #[.slice none 0 0, .string (hexB n)]) ∧ Ok w0 M w') := by
  refine enter (vs := [_, _, _, _, _]) Tryz.func178 rfl Tryz.ntmps178 rfl ?_
  refine t_seq ?_
  refine t_region ?_
  refine t_val (r_assign rfl) rfl ?_
  refine t_val (r_assign rfl) rfl ?_
  refine t_nil ?_
  refine Tr.keep (env' := [(0, _), (1, _), (2, _), (3, _), (4, _), (10, _), (11, _)]) ⟨rfl, rfl, rfl, rfl, rfl, rfl, rfl, trivial⟩ ?_
  refine t_then ?_
  refine t_seq ?_
  refine t_seq ?_
  refine t_region ?_
  refine t_val (r_move rfl) rfl ?_
  refine t_val (r_lt rfl rfl) rfl ?_
  refine t_val (r_move rfl) rfl ?_
  refine t_gval rfl rfl (r_move rfl) rfl ?_
  refine t_gval rfl rfl (r_eq rfl rfl) rfl ?_
  refine t_val (r_pick_f rfl rfl) rfl ?_
  refine t_val (r_move rfl) rfl ?_
  refine t_gval rfl rfl (r_move rfl) rfl ?_
  refine t_gval rfl rfl (r_gt rfl rfl) rfl ?_
  refine t_val (r_pick_f rfl rfl) rfl ?_
  refine t_nil ?_
  refine Tr.keep (env' := [(0, _), (1, _), (2, _), (3, _), (4, _), (10, _), (11, _), (28, _)]) ⟨rfl, rfl, rfl, rfl, rfl, rfl, rfl, rfl, trivial⟩ ?_
  refine t_then ?_
  refine t_cond_f rfl ?_
  refine t_skip ?_
  refine t_then ?_
  refine t_seq ?_
  refine t_region ?_
  refine t_eff rfl (e_alloc inf_344 (l := [.int .u8 0, .int .u8 0, .int .u8 0, .int .u8 0, .int .u8 0, .int .u8 0, .int .u8 0, .int .u8 0, .int .u8 0, .int .u8 0, .int .u8 0, .int .u8 0, .int .u8 0, .int .u8 0, .int .u8 0, .int .u8 0, .int .u8 0, .int .u8 0, .int .u8 0, .int .u8 0, .int .u8 0, .int .u8 0, .int .u8 0, .int .u8 0, .int .u8 0, .int .u8 0, .int .u8 0, .int .u8 0, .int .u8 0, .int .u8 0, .int .u8 0, .int .u8 0, .int .u8 0, .int .u8 0, .int .u8 0, .int .u8 0, .int .u8 0, .int .u8 0, .int .u8 0, .int .u8 0, .int .u8 0, .int .u8 0, .int .u8 0, .int .u8 0, .int .u8 0, .int .u8 0, .int .u8 0, .int .u8 0, .int .u8 0, .int .u8 0, .int .u8 0, .int .u8 0, .int .u8 0, .int .u8 0, .int .u8 0, .int .u8 0, .int .u8 0, .int .u8 0, .int .u8 0, .int .u8 0, .int .u8 0, .int .u8 0, .int .u8 0, .int .u8 0, .int .u8 0]) rfl rfl fun b12 => ?_)
  refine t_nil ?_
  refine Tr.keep (env' := [(0, _), (1, _), (2, _), (3, _), (4, _), (10, _), (11, _), (12, _)]) ⟨rfl, rfl, rfl, rfl, rfl, rfl, rfl, rfl, trivial⟩ ?_
  refine t_then ?_
  refine t_seq ?_
  refine t_region ?_
  refine t_val (r_assign rfl) rfl ?_
  refine t_nil ?_
  refine Tr.keep (env' := [(0, _), (1, _), (2, _), (3, _), (4, _), (10, _), (11, _), (12, _), (13, _)]) ⟨rfl, rfl, rfl, rfl, rfl, rfl, rfl, rfl, rfl, trivial⟩ ?_
  refine t_then ?_
  refine t_seq ?_
  refine t_seq ?_
  refine t_region ?_
  refine t_val (r_move rfl) rfl ?_
  refine t_nil ?_
  refine Tr.keep (env' := [(0, _), (1, _), (2, _), (3, _), (4, _), (10, _), (11, _), (12, _), (13, _), (30, _)]) ⟨rfl, rfl, rfl, rfl, rfl, rfl, rfl, rfl, rfl, rfl, trivial⟩ ?_
  refine t_then ?_
  refine t_cond_f rfl ?_
  refine t_skip ?_
  refine t_then ?_
  refine t_seq ?_
  refine t_seq ?_
  refine t_region ?_
  refine t_val (r_move rfl) rfl ?_
  refine t_eff rfl (e_pcall en_243 rfl rfl rfl rfl pow2_16 ?_)
  refine t_nil ?_
  refine Tr.keep (env' := [(0, _), (1, _), (2, _), (3, _), (4, _), (10, _), (11, _), (12, _), (13, _), (34, _)]) ⟨rfl, rfl, rfl, rfl, rfl, rfl, rfl, rfl, rfl, rfl, trivial⟩ ?_
  refine t_then ?_
  refine t_cond_t rfl ?_
  refine t_seq ?_
  refine t_region ?_
  refine t_val (r_move rfl) rfl ?_
  refine t_val (r_conv Tryz.underlying3 Tryz.underlying208 rfl) rfl ?_
  refine t_eff rfl (e_pcall en_244 rfl rfl rfl rfl (tz_16 hT) ?_)
  refine t_val (r_conv Tryz.underlying3 Tryz.underlying208 rfl) rfl ?_
  refine t_val (r_assign rfl) rfl ?_
  refine t_nil ?_
  refine Tr.keep (env' := [(0, _), (1, _), (2, _), (3, _), (4, _), (10, _), (11, _), (12, _), (13, _), (14, _)]) ⟨rfl, rfl, rfl, rfl, rfl, rfl, rfl, rfl, rfl, rfl, trivial⟩ ?_
  refine t_then ?_
  refine t_seq ?_
  refine t_region ?_
  refine t_val (r_move rfl) rfl ?_
  refine t_val (r_conv Tryz.underlying3 Tryz.underlying82 rfl) rfl ?_
  refine t_val (r_assign rfl) rfl ?_
  refine t_nil ?_
  refine Tr.keep (env' := [(0, _), (1, _), (2, _), (3, _), (4, _), (10, _), (11, _), (12, _), (13, _), (14, _), (15, _)]) ⟨rfl, rfl, rfl, rfl, rfl, rfl, rfl, rfl, rfl, rfl, rfl, trivial⟩ ?_
  refine t_then ?_
  refine t_seq ?_
  refine t_region ?_
  refine t_val (r_move rfl) rfl ?_
  refine t_val (r_conv Tryz.underlying3 Tryz.underlying208 rfl) rfl ?_
  refine t_val (r_sub rfl rfl) rfl ?_
  refine t_val (r_assign rfl) rfl ?_
  refine t_nil ?_
  refine Tr.keep (env' := [(0, _), (1, _), (3, _), (4, _), (10, _), (11, _), (12, _), (13, _), (14, _), (15, _), (16, _)]) ⟨rfl, rfl, rfl, rfl, rfl, rfl, rfl, rfl, rfl, rfl, rfl, trivial⟩ ?_
  refine t_then ?_
  refine t_seq ?_
  refine t_block ?_
  refine t_loop (fun z : Nat × List UInt8 => [(0, .slice none 0 0), (1, .int .u64 (z.1 : Int)), (3, .bool false), (4, .bool false), (10, .slice none 0 0), (11, .string ⟨#[]⟩), (12, .pointer (some ⟨b12, 0, none⟩)), (13, .int .i64 (65 - (z.2.length : Int))), (14, .int .u64 4), (15, .int .u64 16), (16, .int .u64 15)]) (fun z : Nat × List UInt8 => cel b12 344 (List.replicate (64 - z.2.length + 1) (.int .u8 0) ++ ucells z.2) :: M) (fun z : Nat × List UInt8 => z.2.length ≤ 16 ∧ z.1 < 16 ^ (16 - z.2.length) ∧ hexS n = hexA (17 - z.2.length) z.1 z.2) (fun z : Nat × List UInt8 => z.1) (n, []) ⟨Nat.zero_le _, hn, rfl⟩ ⟨rfl, rfl, rfl, rfl, rfl, rfl, rfl, rfl, rfl, rfl, rfl, trivial⟩ (.refl _) ?_
  intro K ⟨u, acc⟩ ⟨hl, hu, hx⟩ IH
  dsimp only at hl hu hx IH ⊢
  have hu64 : u < 18446744073709551616 := Nat.lt_of_lt_of_le hu (Nat.pow_le_pow_right (by decide) (by omega : 16 - acc.length ≤ 16))
  refine t_seq ?_
  refine t_seq ?_
  refine t_region ?_
  refine t_val (r_move rfl) rfl ?_
  refine t_val (r_move rfl) rfl ?_
  refine t_val (r_ge rfl rfl) rfl ?_
  refine t_nil ?_
  refine Tr.keep (env' := [(0, _), (1, _), (3, _), (4, _), (10, _), (11, _), (12, _), (13, _), (14, _), (15, _), (16, _), (46, _)]) ⟨rfl, rfl, rfl, rfl, rfl, rfl, rfl, rfl, rfl, rfl, rfl, rfl, trivial⟩ ?_
  refine t_then ?_
  refine t_cond rfl (fun hc => ?_) (fun hc => ?_)
  · have hge : 16 ≤ u := by have := of_decide_eq_true hc; omega
    have hl15 : acc.length ≤ 15 := by
      rcases Nat.lt_or_ge acc.length 16 with h | h
      · omega
      · have : u < 16 ^ 0 := by rw [show (0 : Nat) = 16 - acc.length by omega]; exact hu
        simp at this; omega
    obtain ⟨f, hf⟩ : ∃ f, 17 - acc.length = f + 1 := ⟨16 - acc.length, by omega⟩
    have hua : hexA (17 - acc.length) u acc = hexA (17 - (acc.length + 1)) (u / 16) (hexd (u % 16) :: acc) := by
      rw [hf, show 17 - (acc.length + 1) = f by omega]; exact hexA_ge (by omega)
    refine t_skip ?_
    refine t_then ?_
    refine t_block ?_
    refine t_seq ?_
    refine t_region ?_
    refine t_val (r_move rfl) rfl ?_
    refine t_val (r_to (v2 := .int .i64 (65 - ((hexd (u % 16) :: acc).length : Int))) (r_subi rfl rfl (by omega)) (congrArg (Value.int .i64) (by simp; omega))) rfl ?_
    refine t_val (r_assign rfl) rfl ?_
    refine t_nil ?_
    refine Tr.keep (env' := [(0, _), (1, _), (3, _), (4, _), (10, _), (11, _), (12, _), (13, _), (14, _), (15, _), (16, _)]) ⟨rfl, rfl, rfl, rfl, rfl, rfl, rfl, rfl, rfl, rfl, rfl, trivial⟩ ?_
    refine t_then ?_
    refine t_seq ?_
    refine t_region ?_
    refine t_val (r_move rfl) rfl ?_
    refine t_val (r_move rfl) rfl ?_
    refine t_val (r_move rfl) rfl ?_
    refine t_val (r_to (v2 := .int .u64 ((u % 16 : Nat) : Int)) (r_and rfl rfl) (congrArg (Value.int .u64) (and15 hu64))) rfl ?_
    refine t_val (r_sidx (b := hexd (u % 16)) (u % 16) Tryz.underlying9 rfl rfl rfl (getq (s := hexTab) (show u % 16 < 36 by omega))) rfl ?_
    refine t_val (r_iaa (j := 64 - acc.length) Tryz.underlying344 iz_5 rfl rfl (by first | omega | (simp; omega)) (by omega)) rfl ?_
    refine t_eff rfl (e_store (l := List.replicate (64 - acc.length + 1) (.int .u8 0) ++ ucells acc) (l' := List.replicate (64 - acc.length) (.int .u8 0) ++ ucells (hexd (u % 16) :: acc)) iz_5 rfl rfl rfl (by simpa using setAt_rep (.int .u8 0) (.int .u8 ((hexd (u % 16)).toNat : Int)) (ucells acc) (64 - acc.length)) .here ?_)
    refine t_nil ?_
    refine Tr.keep (env' := [(0, _), (1, _), (3, _), (4, _), (10, _), (11, _), (12, _), (13, _), (14, _), (15, _), (16, _)]) ⟨rfl, rfl, rfl, rfl, rfl, rfl, rfl, rfl, rfl, rfl, rfl, trivial⟩ ?_
    refine t_then ?_
    refine t_region ?_
    refine t_val (r_move rfl) rfl ?_
    refine t_val (r_move rfl) rfl ?_
    refine t_val (r_to (v2 := .int .u64 ((u / 16 : Nat) : Int)) (r_shr rfl rfl (by decide)) (congrArg (Value.int .u64) shr4)) rfl ?_
    refine t_val (r_assign rfl) rfl ?_
    refine t_nil ?_
    refine Tr.keep (env' := [(0, _), (1, _), (3, _), (4, _), (10, _), (11, _), (12, _), (13, _), (14, _), (15, _), (16, _)]) ⟨rfl, rfl, rfl, rfl, rfl, rfl, rfl, rfl, rfl, rfl, rfl, trivial⟩ ?_
    refine t_in ?_
    refine t_then ?_
    refine t_K (IH (u / 16, hexd (u % 16) :: acc) ⟨by simp; omega, by simp only [List.length_cons]; rw [Nat.div_lt_iff_lt_mul (by decide), ← Nat.pow_succ, show (16 - (acc.length + 1)).succ = 16 - acc.length by omega]; exact hu, by rw [hx, hua]; rfl⟩ (by simp; omega)) ⟨rfl, rfl, rfl, rfl, rfl, rfl, rfl, rfl, rfl, rfl, rfl, trivial⟩ (by simp only [List.length_cons]; rw [show 64 - (acc.length + 1) + 1 = 64 - acc.length by omega]; exact .refl _)
  · have hlt : u < 16 := by have := of_decide_eq_false hc; omega
    have hfin : hexS n = hexd u :: acc := by
      rw [hx]
      obtain ⟨f, hf⟩ : ∃ f, 17 - acc.length = f + 1 := ⟨16 - acc.length, by omega⟩
      rw [hf]; exact hexA_lt hlt
    refine t_exit ?_
    refine t_then_exit ?_
    refine t_then_exit ?_
    refine t_in_hit ?_
    refine t_then ?_
    refine t_seq ?_
    refine t_region ?_
    refine t_val (r_move rfl) rfl ?_
    refine t_val (r_to (v2 := .int .i64 (64 - (acc.length : Int))) (r_subi rfl rfl (by omega)) (congrArg (Value.int .i64) (by omega))) rfl ?_
    refine t_val (r_assign rfl) rfl ?_
    refine t_nil ?_
    refine Tr.keep (env' := [(0, _), (1, _), (3, _), (4, _), (10, _), (11, _), (12, _), (13, _)]) ⟨rfl, rfl, rfl, rfl, rfl, rfl, rfl, rfl, trivial⟩ ?_
    refine t_then ?_
    refine t_region ?_
    refine t_val (r_move rfl) rfl ?_
    refine t_val (r_move rfl) rfl ?_
    refine t_val (r_sidx (b := hexd u) u Tryz.underlying9 rfl rfl rfl (getq (s := hexTab) (show u < 36 by omega))) rfl ?_
    refine t_val (r_iaa (j := 64 - acc.length) Tryz.underlying344 iz_5 rfl rfl (by first | omega | (simp; omega)) (by omega)) rfl ?_
    refine t_eff rfl (e_store (l := List.replicate (64 - acc.length + 1) (.int .u8 0) ++ ucells acc) (l' := List.replicate (64 - acc.length) (.int .u8 0) ++ ucells (hexd u :: acc)) iz_5 rfl rfl rfl (by simpa using setAt_rep (.int .u8 0) (.int .u8 ((hexd u).toNat : Int)) (ucells acc) (64 - acc.length)) .here ?_)
    refine t_nil ?_
    refine Tr.keep (env' := [(0, _), (3, _), (4, _), (10, _), (11, _), (12, _), (13, _)]) ⟨rfl, rfl, rfl, rfl, rfl, rfl, rfl, trivial⟩ ?_
    refine t_then ?_
    refine t_seq ?_
    refine t_seq ?_
    refine t_region ?_
    refine t_val (r_move rfl) rfl ?_
    refine t_nil ?_
    refine Tr.keep (env' := [(0, _), (4, _), (10, _), (11, _), (12, _), (13, _), (89, _)]) ⟨rfl, rfl, rfl, rfl, rfl, rfl, rfl, trivial⟩ ?_
    refine t_then ?_
    refine t_cond_f rfl ?_
    refine t_skip ?_
    refine t_then ?_
    refine t_seq ?_
    refine t_seq ?_
    refine t_region ?_
    refine t_val (r_move rfl) rfl ?_
    refine t_nil ?_
    refine Tr.keep (env' := [(0, _), (10, _), (11, _), (12, _), (13, _), (94, _)]) ⟨rfl, rfl, rfl, rfl, rfl, rfl, trivial⟩ ?_
    refine t_then ?_
    refine t_cond_f rfl ?_
    refine t_skip ?_
    refine t_then ?_
    refine t_seq ?_
    refine t_region ?_
    refine t_val (r_move rfl) rfl ?_
    refine t_val (r_slArr_l (64 - acc.length) Tryz.underlying344 iz_5 rfl rfl (by omega) (by omega)) rfl ?_
    refine t_val (r_bytesStr (l := hexd u :: acc) Tryz.underlying200 Tryz.underlying5 Tryz.underlying9 rfl (by simp; omega) (fun j hj => by
    simp only [Addr.add_lit]
    refine rd_m (.head _) ?_
    rw [List.getElem?_append_right (by simp), List.length_replicate, show 0 + (64 - acc.length) * 1 + j - (64 - acc.length) = j by omega, List.getElem?_map, List.getElem?_eq_getElem hj]
    rfl)) rfl ?_
    refine t_val (r_assign rfl) rfl ?_
    refine t_nil ?_
    refine Tr.keep (env' := [(10, _), (11, _)]) ⟨rfl, rfl, trivial⟩ ?_
    refine t_then ?_
    refine t_retc ?_
    refine t_ret2 rfl rfl rfl (fun w hw => ?_)
    exact ⟨by rw [show hexB n = ⟨(hexd u :: acc).toArray⟩ from congrArg (fun l : List UInt8 => (⟨l.toArray⟩ : ByteArray)) hfin], hw.sub (.cons _ (.refl _))⟩
end
end Go.Proofs.W
set_option linter.unusedVariables false
set_option linter.unusedSimpArgs false
set_option linter.unusedSectionVars false
set_option maxRecDepth 100000
namespace Go.Proofs.W
open Go Go.Sl Go.RowKit Go.Proofs
attribute [local irreducible] Go.Sl.Eff
theorem en_178 : Enters Tryz.prog 178 := enters_of Tryz.func178 (by kernel_rfl) (by kernel_rfl)
theorem en_180 : Enters Tryz.prog 180 := enters_of Tryz.func180 (by kernel_rfl) (by kernel_rfl)
theorem en_181 : Enters Tryz.prog 181 := enters_of Tryz.func181 (by kernel_rfl) (by kernel_rfl)
theorem en_39 : Enters Tryz.prog 39 := enters_of Tryz.func39 (by kernel_rfl) (by kernel_rfl)
theorem en_40 : Enters Tryz.prog 40 := enters_of Tryz.func40 (by kernel_rfl) (by kernel_rfl)
theorem en_96 : Enters Tryz.prog 96 := enters_of Tryz.func96 (by kernel_rfl) (by kernel_rfl)
theorem en_97 : Enters Tryz.prog 97 := enters_of Tryz.func97 (by kernel_rfl) (by kernel_rfl)
theorem en_98 : Enters Tryz.prog 98 := enters_of Tryz.func98 (by kernel_rfl) (by kernel_rfl)
theorem hexA_len : ∀ f n acc, n < 16 ^ f → 0 < f → (hexA (f + 1) n acc).length ≤ f + acc.length
  | 0, _, _, _, h => by omega
  | f + 1, n, acc, hn, _ => by
    by_cases h : n < 16
    · rw [hexA_lt h]; simp; omega
    · rw [hexA_ge h]
      have h1 : n / 16 < 16 ^ f := by rw [Nat.div_lt_iff_lt_mul (by decide), ← Nat.pow_succ]; exact hn
      have h2 : 0 < f := by
        rcases Nat.eq_zero_or_pos f with h3 | h3
        · subst h3; simp at hn; omega
        · exact h3
      have := hexA_len f (n / 16) (hexd (n % 16) :: acc) h1 h2
      simp at this ⊢; omega
theorem hexS_len {n : Nat} (h : n < 18446744073709551616) : 1 ≤ (hexS n).length ∧ (hexS n).length ≤ 16 := by
  have h1 := hexA_len 16 n [] h (by decide)
  have h2 := (hexA_length 17 n []).2 (by decide)
  simp at h1 h2
  exact ⟨h2, h1⟩
abbrev zerosB (k : Nat) : ByteArray := ⟨(List.replicate k (48 : UInt8)).toArray⟩
def digitsV (n : Nat) : ByteArray := zerosB (16 - (hexS n).length) ++ hexB n
theorem zeros_cut : ∀ k, k < 16 → (⟨#[48, 48, 48, 48, 48, 48, 48, 48, 48, 48, 48, 48, 48, 48, 48, 48, 48, 48, 48, 48, 48, 48, 48, 48, 48, 48, 48, 48, 48, 48, 48, 48, 48, 48, 48, 48, 48, 48, 48, 48, 48, 48, 48, 48, 48, 48, 48, 48, 48, 48, 48, 48, 48, 48, 48, 48, 48, 48, 48, 48, 48, 48, 48, 48]⟩ : ByteArray).extract 0 k = zerosB k := by decide
theorem and32 {k : Nat} (h : k ≤ 16) : bits .and .u64 (k : Int) 4294967295 = (k : Int) := by
  have := bits_and_u64_nat k 4294967295 (by omega) (by omega)
  rw [show ((4294967295 : Nat) : Int) = 4294967295 from rfl] at this
  rw [this, show (4294967295 : Nat) = 2 ^ 32 - 1 from rfl, Nat.and_two_pow_sub_one_eq_mod]
  omega
theorem shr32 {k : Nat} (h : k ≤ 16) : ((k : Int)).fdiv (2 ^ (min (32 : Int).toNat IntKind.u64.bits)) = 0 := by
  show ((k : Int)).fdiv 4294967296 = _
  rw [Int.fdiv_eq_ediv_of_nonneg _ (by decide)]
  omega
theorem u64_in {k : Nat} (h : k ≤ 16) : IntKind.u64.wrap (1 * (k : Int)) = (k : Int) := by rw [IntKind.wrap_u64]; omega
section
variable {w0 : World} {M : List Ent}
theorem fmtI_c (hT : Tab w0) (n : Nat) (hn : n < 18446744073709551616) : ∀ w, Ok w0 M w → Calls Tryz.prog 96 #[.int .u64 (n : Int), .int .i64 16] w (fun e w' => e = .returned (.string (hexB n)) ∧ Ok w0 M w') := by
  refine enter (vs := [_, _]) Tryz.func96 rfl Tryz.ntmps96 rfl ?_
  refine t_seq ?_
  refine t_region ?_
  refine t_val (r_assign rfl) rfl ?_
  refine t_nil ?_
  refine Tr.keep (env' := [(0, _), (1, _)]) ⟨rfl, rfl, trivial⟩ ?_
  refine t_then ?_
  refine t_seq ?_
  refine t_seq ?_
  refine t_region ?_
  refine t_val (r_move rfl) rfl ?_
  refine t_val (r_eq rfl rfl) rfl ?_
  refine t_nil ?_
  refine Tr.keep (env' := [(0, _), (1, _), (10, _)]) ⟨rfl, rfl, rfl, trivial⟩ ?_
  refine t_then ?_
  refine t_cond_f rfl ?_
  refine t_skip ?_
  refine t_then ?_
  refine t_seq ?_
  refine t_region ?_
  refine t_val (r_move rfl) rfl ?_
  refine t_val (r_move rfl) rfl ?_
  refine t_eff rfl (e_pcall en_178 rfl rfl rfl rfl (formatBits_c hT n hn) ?_)
  refine t_val (r_move rfl) rfl ?_
  refine t_val (r_extract rfl rfl) rfl ?_
  refine t_val (r_extract rfl rfl) rfl ?_
  refine t_val (r_assign rfl) rfl ?_
  refine t_val (r_assign rfl) rfl ?_
  refine t_nil ?_
  refine Tr.keep (env' := [(8, _)]) ⟨rfl, trivial⟩ ?_
  refine t_then ?_
  refine t_seq ?_
  refine t_region ?_
  refine t_val (r_move rfl) rfl ?_
  refine t_val (r_assign rfl) rfl ?_
  refine t_nil ?_
  refine Tr.keep (env' := [(4, _)]) ⟨rfl, trivial⟩ ?_
  refine t_then ?_
  refine t_retc ?_
  refine t_ret1 rfl rfl (fun w hw => ?_)
  exact ⟨rfl, hw⟩
theorem fmt_c (hT : Tab w0) (n : Nat) (hn : n < 18446744073709551616) : ∀ w, Ok w0 M w → Calls Tryz.prog 39 #[.int .u64 (n : Int), .int .i64 16] w (fun e w' => e = .returned (.string (hexB n)) ∧ Ok w0 M w') := by
  refine enter (vs := [_, _]) Tryz.func39 rfl Tryz.ntmps39 rfl ?_
  refine t_seq ?_
  refine t_region ?_
  refine t_val (r_assign rfl) rfl ?_
  refine t_nil ?_
  refine Tr.keep (env' := [(0, _), (1, _)]) ⟨rfl, rfl, trivial⟩ ?_
  refine t_then ?_
  refine t_seq ?_
  refine t_region ?_
  refine t_val (r_move rfl) rfl ?_
  refine t_val (r_move rfl) rfl ?_
  refine t_eff rfl (e_pcall en_96 rfl rfl rfl rfl (fmtI_c hT n hn) ?_)
  refine t_val (r_assign rfl) rfl ?_
  refine t_nil ?_
  refine Tr.keep (env' := [(4, _)]) ⟨rfl, trivial⟩ ?_
  refine t_then ?_
  refine t_retc ?_
  refine t_ret1 rfl rfl (fun w hw => ?_)
  exact ⟨rfl, hw⟩
theorem slHasPrefix_c (s p : ByteArray) : ∀ w, Ok w0 M w → Calls Tryz.prog 181 #[.string s, .string p] w (fun e w' => e = .returned (.bool (decide ((p.size : Int) ≤ (s.size : Int)) && decide (s.extract 0 p.size = p))) ∧ Ok w0 M w') := by
  refine enter (vs := [_, _]) Tryz.func181 rfl Tryz.ntmps181 rfl ?_
  refine t_seq ?_
  refine t_region ?_
  refine t_val (r_assign rfl) rfl ?_
  refine t_nil ?_
  refine Tr.keep (env' := [(0, _), (1, _)]) ⟨rfl, rfl, trivial⟩ ?_
  refine t_then ?_
  refine t_seq ?_
  refine t_region ?_
  refine t_val (r_move rfl) rfl ?_
  refine t_val (r_len_str Tryz.underlying9 rfl) rfl ?_
  refine t_val (r_move rfl) rfl ?_
  refine t_val (r_len_str Tryz.underlying9 rfl) rfl ?_
  refine t_val (r_ge rfl rfl) rfl ?_
  refine t_val (r_move rfl) rfl ?_
  apply t_group_and 7 (s := 10) (d := 17) rfl
  · intro hg1 K hK
    refine g_val hg1 rfl rfl (r_move rfl) rfl ?_
    refine g_val hg1 rfl rfl (r_move rfl) rfl ?_
    refine g_val hg1 rfl rfl (r_len_str Tryz.underlying9 rfl) rfl ?_
    refine g_val hg1 rfl rfl (r_ss_h p.size Tryz.underlying9 rfl rfl rfl (by have := of_decide_eq_true hg1; omega)) rfl ?_
    refine g_val hg1 rfl rfl (r_move rfl) rfl ?_
    refine g_val hg1 rfl rfl (r_eqs rfl rfl) rfl ?_
    refine t_val (rp_t hg1 rfl rfl) rfl ?_
    iterate 6 refine Tr.weak2 rfl ?_
    exact hK _ (and_t hg1)
  · intro hg1 K hK
    refine g_skip hg1 rfl rfl rfl rfl ?_
    refine g_skip hg1 rfl rfl rfl rfl ?_
    refine g_skip hg1 rfl rfl rfl rfl ?_
    refine g_skip hg1 rfl rfl rfl rfl ?_
    refine g_skip hg1 rfl rfl rfl rfl ?_
    refine g_skip hg1 rfl rfl rfl rfl ?_
    refine t_val (rp_f hg1 rfl rfl) rfl ?_
    iterate 6 refine Tr.weak2 rfl ?_
    exact hK _ (and_f hg1)
  refine t_val (r_assign rfl) rfl ?_
  refine t_nil ?_
  refine Tr.keep (env' := [(4, _)]) ⟨rfl, trivial⟩ ?_
  refine t_then ?_
  refine t_retc ?_
  refine t_ret1 rfl rfl (fun w hw => ?_)
  exact ⟨rfl, hw⟩
theorem hasPrefix_c (s p : ByteArray) : ∀ w, Ok w0 M w → Calls Tryz.prog 98 #[.string s, .string p] w (fun e w' => e = .returned (.bool (decide ((p.size : Int) ≤ (s.size : Int)) && decide (s.extract 0 p.size = p))) ∧ Ok w0 M w') := by
  refine enter (vs := [_, _]) Tryz.func98 rfl Tryz.ntmps98 rfl ?_
  refine t_seq ?_
  refine t_region ?_
  refine t_val (r_assign rfl) rfl ?_
  refine t_nil ?_
  refine Tr.keep (env' := [(0, _), (1, _)]) ⟨rfl, rfl, trivial⟩ ?_
  refine t_then ?_
  refine t_seq ?_
  refine t_region ?_
  refine t_val (r_move rfl) rfl ?_
  refine t_val (r_move rfl) rfl ?_
  refine t_eff rfl (e_pcall en_181 rfl rfl rfl rfl (slHasPrefix_c s p) ?_)
  refine t_val (r_assign rfl) rfl ?_
  refine t_nil ?_
  refine Tr.keep (env' := [(4, _)]) ⟨rfl, trivial⟩ ?_
  refine t_then ?_
  refine t_retc ?_
  refine t_ret1 rfl rfl (fun w hw => ?_)
  exact ⟨rfl, hw⟩
theorem mul64_c (k : Nat) (hk : k ≤ 16) : ∀ w, Ok w0 M w → Calls Tryz.prog 180 #[.int .u64 1, .int .u64 (k : Int)] w (fun e w' => e = .returned (.tuple #[.int .u64 0, .int .u64 (k : Int)]) ∧ Ok w0 M w') := by
  refine enter (vs := [_, _]) Tryz.func180 rfl Tryz.ntmps180 rfl ?_
  refine t_seq ?_
  refine t_region ?_
  refine t_val (r_assign rfl) rfl ?_
  refine t_val (r_assign rfl) rfl ?_
  refine t_nil ?_
  refine Tr.keep (env' := [(0, _), (1, _)]) ⟨rfl, rfl, trivial⟩ ?_
  refine t_then ?_
  refine t_seq ?_
  refine t_region ?_
  refine t_val (r_move rfl) rfl ?_
  refine t_val (r_to (v2 := .int .u64 1) (r_and rfl rfl) (congrArg (Value.int .u64) (by rfl))) rfl ?_
  refine t_val (r_assign rfl) rfl ?_
  refine t_nil ?_
  refine Tr.keep (env' := [(0, _), (1, _), (6, _)]) ⟨rfl, rfl, rfl, trivial⟩ ?_
  refine t_then ?_
  refine t_seq ?_
  refine t_region ?_
  refine t_val (r_move rfl) rfl ?_
  refine t_val (r_to (v2 := .int .u64 0) (r_shr rfl rfl (by decide)) (congrArg (Value.int .u64) (by rfl))) rfl ?_
  refine t_val (r_assign rfl) rfl ?_
  refine t_nil ?_
  refine Tr.keep (env' := [(0, _), (1, _), (6, _), (7, _)]) ⟨rfl, rfl, rfl, rfl, trivial⟩ ?_
  refine t_then ?_
  refine t_seq ?_
  refine t_region ?_
  refine t_val (r_move rfl) rfl ?_
  refine t_val (r_to (v2 := .int .u64 (k : Int)) (r_and rfl rfl) (congrArg (Value.int .u64) (and32 hk))) rfl ?_
  refine t_val (r_assign rfl) rfl ?_
  refine t_nil ?_
  refine Tr.keep (env' := [(0, _), (1, _), (6, _), (7, _), (8, _)]) ⟨rfl, rfl, rfl, rfl, rfl, trivial⟩ ?_
  refine t_then ?_
  refine t_seq ?_
  refine t_region ?_
  refine t_val (r_move rfl) rfl ?_
  refine t_val (r_to (v2 := .int .u64 0) (r_shr rfl rfl (by decide)) (congrArg (Value.int .u64) (shr32 hk))) rfl ?_
  refine t_val (r_assign rfl) rfl ?_
  refine t_nil ?_
  refine Tr.keep (env' := [(0, _), (1, _), (6, _), (7, _), (8, _), (9, _)]) ⟨rfl, rfl, rfl, rfl, rfl, rfl, trivial⟩ ?_
  refine t_then ?_
  refine t_seq ?_
  refine t_region ?_
  refine t_val (r_move rfl) rfl ?_
  refine t_val (r_move rfl) rfl ?_
  refine t_val (r_to (v2 := .int .u64 (k : Int)) (r_mul rfl rfl) (congrArg (Value.int .u64) (u64_in hk))) rfl ?_
  refine t_val (r_assign rfl) rfl ?_
  refine t_nil ?_
  refine Tr.keep (env' := [(0, _), (1, _), (6, _), (7, _), (8, _), (9, _), (10, _)]) ⟨rfl, rfl, rfl, rfl, rfl, rfl, rfl, trivial⟩ ?_
  refine t_then ?_
  refine t_seq ?_
  refine t_region ?_
  refine t_val (r_move rfl) rfl ?_
  refine t_val (r_move rfl) rfl ?_
  refine t_val (r_to (v2 := .int .u64 0) (r_mul rfl rfl) (congrArg (Value.int .u64) (by rw [IntKind.wrap_u64]; simp))) rfl ?_
  refine t_val (r_move rfl) rfl ?_
  refine t_val (r_to (v2 := .int .u64 0) (r_shr rfl rfl (by decide)) (congrArg (Value.int .u64) (shr32 hk))) rfl ?_
  refine t_val (r_to (v2 := .int .u64 0) (r_add rfl rfl) (congrArg (Value.int .u64) (by rfl))) rfl ?_
  refine t_val (r_assign rfl) rfl ?_
  refine t_nil ?_
  refine Tr.keep (env' := [(0, _), (1, _), (6, _), (7, _), (9, _), (11, _)]) ⟨rfl, rfl, rfl, rfl, rfl, rfl, trivial⟩ ?_
  refine t_then ?_
  refine t_seq ?_
  refine t_region ?_
  refine t_val (r_move rfl) rfl ?_
  refine t_val (r_to (v2 := .int .u64 0) (r_and rfl rfl) (congrArg (Value.int .u64) (by rfl))) rfl ?_
  refine t_val (r_assign rfl) rfl ?_
  refine t_nil ?_
  refine Tr.keep (env' := [(0, _), (1, _), (6, _), (7, _), (9, _), (11, _), (12, _)]) ⟨rfl, rfl, rfl, rfl, rfl, rfl, rfl, trivial⟩ ?_
  refine t_then ?_
  refine t_seq ?_
  refine t_region ?_
  refine t_val (r_move rfl) rfl ?_
  refine t_val (r_to (v2 := .int .u64 0) (r_shr rfl rfl (by decide)) (congrArg (Value.int .u64) (by rfl))) rfl ?_
  refine t_val (r_assign rfl) rfl ?_
  refine t_nil ?_
  refine Tr.keep (env' := [(0, _), (1, _), (6, _), (7, _), (9, _), (12, _), (13, _)]) ⟨rfl, rfl, rfl, rfl, rfl, rfl, rfl, trivial⟩ ?_
  refine t_then ?_
  refine t_seq ?_
  refine t_region ?_
  refine t_val (r_move rfl) rfl ?_
  refine t_val (r_move rfl) rfl ?_
  refine t_val (r_move rfl) rfl ?_
  refine t_val (r_to (v2 := .int .u64 0) (r_mul rfl rfl) (congrArg (Value.int .u64) (by rfl))) rfl ?_
  refine t_val (r_to (v2 := .int .u64 0) (r_add rfl rfl) (congrArg (Value.int .u64) (by rfl))) rfl ?_
  refine t_val (r_assign rfl) rfl ?_
  refine t_nil ?_
  refine Tr.keep (env' := [(0, _), (1, _), (7, _), (9, _), (12, _), (13, _)]) ⟨rfl, rfl, rfl, rfl, rfl, rfl, trivial⟩ ?_
  refine t_then ?_
  refine t_seq ?_
  refine t_region ?_
  refine t_val (r_move rfl) rfl ?_
  refine t_val (r_move rfl) rfl ?_
  refine t_val (r_to (v2 := .int .u64 0) (r_mul rfl rfl) (congrArg (Value.int .u64) (by rfl))) rfl ?_
  refine t_val (r_move rfl) rfl ?_
  refine t_val (r_to (v2 := .int .u64 0) (r_add rfl rfl) (congrArg (Value.int .u64) (by rfl))) rfl ?_
  refine t_val (r_move rfl) rfl ?_
  refine t_val (r_to (v2 := .int .u64 0) (r_shr rfl rfl (by decide)) (congrArg (Value.int .u64) (by rfl))) rfl ?_
  refine t_val (r_to (v2 := .int .u64 0) (r_add rfl rfl) (congrArg (Value.int .u64) (by rfl))) rfl ?_
  refine t_val (r_assign rfl) rfl ?_
  refine t_nil ?_
  refine Tr.keep (env' := [(0, _), (1, _), (4, _)]) ⟨rfl, rfl, rfl, trivial⟩ ?_
  refine t_then ?_
  refine t_seq ?_
  refine t_region ?_
  refine t_val (r_move rfl) rfl ?_
  refine t_val (r_move rfl) rfl ?_
  refine t_val (r_to (v2 := .int .u64 (k : Int)) (r_mul rfl rfl) (congrArg (Value.int .u64) (u64_in hk))) rfl ?_
  refine t_val (r_assign rfl) rfl ?_
  refine t_nil ?_
  refine Tr.keep (env' := [(4, _), (5, _)]) ⟨rfl, rfl, trivial⟩ ?_
  refine t_then ?_
  refine t_retc ?_
  refine t_ret2 rfl rfl rfl (fun w hw => ?_)
  exact ⟨rfl, hw⟩
theorem mul_c (k : Nat) (hk : k ≤ 16) : ∀ w, Ok w0 M w → Calls Tryz.prog 97 #[.int .u64 1, .int .u64 (k : Int)] w (fun e w' => e = .returned (.tuple #[.int .u64 0, .int .u64 (k : Int)]) ∧ Ok w0 M w') := by
  refine enter (vs := [_, _]) Tryz.func97 rfl Tryz.ntmps97 rfl ?_
  refine t_seq ?_
  refine t_region ?_
  refine t_val (r_assign rfl) rfl ?_
  refine t_val (r_assign rfl) rfl ?_
  refine t_nil ?_
  refine Tr.keep (env' := [(0, _), (1, _)]) ⟨rfl, rfl, trivial⟩ ?_
  refine t_then ?_
  refine t_seq ?_
  refine t_cond_f rfl ?_
  refine t_skip ?_
  refine t_then ?_
  refine t_seq ?_
  refine t_region ?_
  refine t_val (r_move rfl) rfl ?_
  refine t_val (r_move rfl) rfl ?_
  refine t_eff rfl (e_pcall en_180 rfl rfl rfl rfl (mul64_c k hk) ?_)
  refine t_val (r_move rfl) rfl ?_
  refine t_val (r_extract rfl rfl) rfl ?_
  refine t_val (r_extract rfl rfl) rfl ?_
  refine t_val (r_assign rfl) rfl ?_
  refine t_val (r_assign rfl) rfl ?_
  refine t_nil ?_
  refine Tr.keep (env' := [(8, _), (9, _)]) ⟨rfl, rfl, trivial⟩ ?_
  refine t_then ?_
  refine t_seq ?_
  refine t_region ?_
  refine t_val (r_move rfl) rfl ?_
  refine t_val (r_move rfl) rfl ?_
  refine t_val (r_assign rfl) rfl ?_
  refine t_val (r_assign rfl) rfl ?_
  refine t_nil ?_
  refine Tr.keep (env' := [(4, _), (5, _)]) ⟨rfl, rfl, trivial⟩ ?_
  refine t_then ?_
  refine t_retc ?_
  refine t_ret2 rfl rfl rfl (fun w hw => ?_)
  exact ⟨rfl, hw⟩
theorem repeat_c (k : Nat) (hk : k < 16) : ∀ w, Ok w0 M w → Calls Tryz.prog 40 #[.string ⟨#[48]⟩, .int .i64 (k : Int)] w (fun e w' => e = .returned (.string (zerosB k)) ∧ Ok w0 M w') := by
  refine enter (vs := [_, _]) Tryz.func40 rfl Tryz.ntmps40 rfl ?_
  refine t_seq ?_
  refine t_region ?_
  refine t_val (r_assign rfl) rfl ?_
  refine t_nil ?_
  refine Tr.keep (env' := [(0, _), (1, _)]) ⟨rfl, rfl, trivial⟩ ?_
  refine t_then ?_
  refine t_seq ?_
  refine t_seq ?_
  refine t_region ?_
  refine t_val (r_move rfl) rfl ?_
  refine t_nil ?_
  refine Tr.keep (env' := [(0, _), (1, _), (11, _)]) ⟨rfl, rfl, rfl, trivial⟩ ?_
  refine t_then ?_
  refine t_block ?_
  refine t_seq ?_
  refine t_region ?_
  refine t_val (r_eq rfl rfl) rfl ?_
  refine t_val (r_assign rfl) rfl ?_
  refine t_nil ?_
  refine Tr.keep (env' := [(0, _), (1, _), (11, _), (12, _)]) ⟨rfl, rfl, rfl, rfl, trivial⟩ ?_
  refine t_then ?_
  refine t_cond rfl (fun h0 => ?_) (fun h0 => ?_)
  · obtain rfl : k = 0 := by simpa using h0
    refine t_seq ?_
    refine t_region ?_
    refine t_val (r_assign rfl) rfl ?_
    refine t_nil ?_
    refine Tr.keep (env' := [(4, _)]) ⟨rfl, trivial⟩ ?_
    refine t_then ?_
    refine t_retc ?_
    refine t_in_ret ?_
    refine t_then_ret ?_
    refine t_ret1 rfl rfl (fun w hw => ?_)
    exact ⟨rfl, hw⟩
  · skip
    refine t_seq ?_
    refine t_region ?_
    refine t_val (r_eq rfl rfl) rfl ?_
    refine t_val (r_assign rfl) rfl ?_
    refine t_nil ?_
    refine Tr.keep (env' := [(0, _), (1, _), (14, _)]) ⟨rfl, rfl, rfl, trivial⟩ ?_
    refine t_then ?_
    refine t_cond rfl (fun h1 => ?_) (fun h1 => ?_)
    · have h1b : (k : Int) = 1 := by simpa using h1
      obtain rfl : k = 1 := by omega
      refine t_seq ?_
      refine t_region ?_
      refine t_val (r_move rfl) rfl ?_
      refine t_val (r_assign rfl) rfl ?_
      refine t_nil ?_
      refine Tr.keep (env' := [(4, _)]) ⟨rfl, trivial⟩ ?_
      refine t_then ?_
      refine t_retc ?_
      refine t_in_ret ?_
      refine t_then_ret ?_
      refine t_ret1 rfl rfl (fun w hw => ?_)
      exact ⟨rfl, hw⟩
    · skip
      refine t_skip ?_
      refine t_in ?_
      refine t_then ?_
      refine t_seq ?_
      refine t_seq ?_
      refine t_region ?_
      refine t_val (r_move rfl) rfl ?_
      refine t_val (r_lt rfl rfl) rfl ?_
      refine t_nil ?_
      refine Tr.keep (env' := [(0, _), (1, _), (18, _)]) ⟨rfl, rfl, rfl, trivial⟩ ?_
      refine t_then ?_
      refine t_cond_f (b_of (by simp)) ?_
      refine t_skip ?_
      refine t_then ?_
      refine t_seq ?_
      refine t_region ?_
      refine t_val (r_move rfl) rfl ?_
      refine t_val (r_to (v2 := .int .i64 1) (r_len_str Tryz.underlying9 rfl) rfl) rfl ?_
      refine t_val (r_convI Tryz.underlying3 Tryz.underlying208 rfl (i' := 1) (by rw [IntKind.wrap_u64]; omega)) rfl ?_
      refine t_val (r_move rfl) rfl ?_
      refine t_val (r_convI Tryz.underlying3 Tryz.underlying208 rfl (i' := (k : Int)) (by rw [IntKind.wrap_u64]; omega)) rfl ?_
      refine t_eff rfl (e_pcall en_97 rfl rfl rfl rfl (mul_c k (by omega)) ?_)
      refine t_val (r_move rfl) rfl ?_
      refine t_val (r_extract rfl rfl) rfl ?_
      refine t_val (r_extract rfl rfl) rfl ?_
      refine t_val (r_assign rfl) rfl ?_
      refine t_val (r_assign rfl) rfl ?_
      refine t_nil ?_
      refine Tr.keep (env' := [(0, _), (5, _), (6, _)]) ⟨rfl, rfl, rfl, trivial⟩ ?_
      refine t_then ?_
      refine t_seq ?_
      refine t_seq ?_
      refine t_region ?_
      refine t_val (r_move rfl) rfl ?_
      refine t_val (r_to (v2 := .bool false) (r_gt rfl rfl) (by rfl)) rfl ?_
      refine t_val (r_move rfl) rfl ?_
      refine t_gval rfl rfl (r_move rfl) rfl ?_
      refine t_gval rfl rfl (r_to (v2 := .bool false) (r_gt rfl rfl) (congrArg Value.bool (by simp; omega))) rfl ?_
      refine t_val (r_pick_f rfl rfl) rfl ?_
      refine t_nil ?_
      refine Tr.keep (env' := [(0, _), (6, _), (34, _)]) ⟨rfl, rfl, rfl, trivial⟩ ?_
      refine t_then ?_
      refine t_cond_f rfl ?_
      refine t_skip ?_
      refine t_then ?_
      refine t_seq ?_
      refine t_region ?_
      refine t_val (r_move rfl) rfl ?_
      refine t_val (r_convI Tryz.underlying208 Tryz.underlying3 rfl (i' := (k : Int)) (wrap_i64_in (by omega))) rfl ?_
      refine t_val (r_assign rfl) rfl ?_
      refine t_nil ?_
      refine Tr.keep (env' := [(0, _), (7, _)]) ⟨rfl, rfl, trivial⟩ ?_
      refine t_then ?_
      refine t_seq ?_
      refine t_seq ?_
      refine t_region ?_
      refine t_val (r_move rfl) rfl ?_
      refine t_val (r_to (v2 := .int .i64 1) (r_len_str Tryz.underlying9 rfl) rfl) rfl ?_
      refine t_val (r_eq rfl rfl) rfl ?_
      refine t_nil ?_
      refine Tr.keep (env' := [(0, _), (7, _), (40, _)]) ⟨rfl, rfl, rfl, trivial⟩ ?_
      refine t_then ?_
      refine t_cond_f rfl ?_
      refine t_skip ?_
      refine t_then ?_
      refine t_seq ?_
      refine t_seq ?_
      refine t_region ?_
      refine t_val (r_move rfl) rfl ?_
      refine t_val (r_sidx (b := 48) 0 Tryz.underlying9 rfl rfl rfl rfl) rfl ?_
      refine t_nil ?_
      refine Tr.keep (env' := [(0, _), (7, _), (42, _)]) ⟨rfl, rfl, rfl, trivial⟩ ?_
      refine t_then ?_
      refine t_block ?_
      refine t_seq ?_
      refine t_seq ?_
      refine t_region ?_
      refine t_val (r_to (v2 := .bool false) (r_eq rfl rfl) (by rfl)) rfl ?_
      refine t_val (r_assign rfl) rfl ?_
      refine t_nil ?_
      refine Tr.keep (env' := [(0, _), (7, _), (42, _), (43, _)]) ⟨rfl, rfl, rfl, rfl, trivial⟩ ?_
      refine t_then ?_
      refine t_cond_f rfl ?_
      refine t_seq ?_
      refine t_region ?_
      refine t_val (r_to (v2 := .bool false) (r_eq rfl rfl) (by rfl)) rfl ?_
      refine t_val (r_assign rfl) rfl ?_
      refine t_nil ?_
      refine Tr.keep (env' := [(0, _), (7, _), (42, _), (43, _)]) ⟨rfl, rfl, rfl, rfl, trivial⟩ ?_
      refine t_then ?_
      refine t_cond_f rfl ?_
      refine t_seq ?_
      refine t_region ?_
      refine t_val (r_to (v2 := .bool true) (r_eq rfl rfl) (by rfl)) rfl ?_
      refine t_val (r_assign rfl) rfl ?_
      refine t_nil ?_
      refine Tr.keep (env' := [(0, _), (7, _), (42, _), (43, _)]) ⟨rfl, rfl, rfl, rfl, trivial⟩ ?_
      refine t_then ?_
      refine t_cond_t rfl ?_
      refine t_skip ?_
      refine t_then ?_
      refine t_cond_t rfl ?_
      refine t_block ?_
      refine t_seq ?_
      refine t_region ?_
      refine t_val (r_move rfl) rfl ?_
      refine t_val (r_to (v2 := .bool true) (r_le rfl rfl) (congrArg Value.bool (by simp; omega))) rfl ?_
      refine t_val (r_move rfl) rfl ?_
      refine t_gval rfl rfl (r_move rfl) rfl ?_
      refine t_geff rfl rfl (e_pcall (v := .bool false) en_98 rfl rfl rfl rfl (fun w hw => (hasPrefix_c _ _ w hw).mono fun e w' h => ⟨by rw [h.1]; rfl, h.2⟩) ?_)
      refine t_val (r_pick_t rfl rfl) rfl ?_
      refine t_val (r_assign rfl) rfl ?_
      refine t_nil ?_
      refine Tr.keep (env' := [(0, _), (7, _), (49, _)]) ⟨rfl, rfl, rfl, trivial⟩ ?_
      refine t_then ?_
      refine t_cond_f rfl ?_
      refine t_seq ?_
      refine t_region ?_
      refine t_val (r_move rfl) rfl ?_
      refine t_val (r_to (v2 := .bool true) (r_le rfl rfl) (congrArg Value.bool (by simp; omega))) rfl ?_
      refine t_val (r_move rfl) rfl ?_
      refine t_gval rfl rfl (r_move rfl) rfl ?_
      refine t_geff rfl rfl (e_pcall (v := .bool false) en_98 rfl rfl rfl rfl (fun w hw => (hasPrefix_c _ _ w hw).mono fun e w' h => ⟨by rw [h.1]; rfl, h.2⟩) ?_)
      refine t_val (r_pick_t rfl rfl) rfl ?_
      refine t_val (r_assign rfl) rfl ?_
      refine t_nil ?_
      refine Tr.keep (env' := [(0, _), (7, _), (58, _)]) ⟨rfl, rfl, rfl, trivial⟩ ?_
      refine t_then ?_
      refine t_cond_f rfl ?_
      refine t_seq ?_
      refine t_region ?_
      refine t_val (r_move rfl) rfl ?_
      refine t_val (r_to (v2 := .bool true) (r_le rfl rfl) (congrArg Value.bool (by simp; omega))) rfl ?_
      refine t_val (r_move rfl) rfl ?_
      refine t_gval rfl rfl (r_move rfl) rfl ?_
      refine t_geff rfl rfl (e_pcall (v := .bool true) en_98 rfl rfl rfl rfl (fun w hw => (hasPrefix_c _ _ w hw).mono fun e w' h => ⟨by rw [h.1]; rfl, h.2⟩) ?_)
      refine t_val (r_pick_t rfl rfl) rfl ?_
      refine t_val (r_assign rfl) rfl ?_
      refine t_nil ?_
      refine Tr.keep (env' := [(0, _), (7, _), (67, _)]) ⟨rfl, rfl, rfl, trivial⟩ ?_
      refine t_then ?_
      refine t_cond_t rfl ?_
      refine t_seq ?_
      refine t_region ?_
      refine t_val (r_move rfl) rfl ?_
      refine t_val (r_ss_h k Tryz.underlying9 rfl rfl rfl (by show k ≤ 64; omega)) rfl ?_
      refine t_val (r_assign rfl) rfl ?_
      refine t_nil ?_
      refine Tr.keep (env' := [(4, _)]) ⟨rfl, trivial⟩ ?_
      refine t_then ?_
      refine t_retc ?_
      refine t_in_ret ?_
      refine t_in_ret ?_
      refine t_then_ret ?_
      refine t_ret1 rfl rfl (fun w hw => ?_)
      exact ⟨by rw [zeros_cut k hk], hw⟩
theorem digits_c (hT : Tab w0) (n : Nat) (hn : n < 18446744073709551616) : ∀ w, Ok w0 M w → Calls Tryz.prog 22 #[.int .u64 (n : Int)] w (fun e w' => e = .returned (.string (digitsV n)) ∧ Ok w0 M w') := by
  have hl := hexS_len hn
  have hz : (hexB n).size = (hexS n).length := rfl
  refine enter (vs := [_]) Tryz.func22 rfl Tryz.ntmps22 rfl ?_
  refine t_seq ?_
  refine t_region ?_
  refine t_val (r_assign rfl) rfl ?_
  refine t_nil ?_
  refine Tr.keep (env' := [(0, _)]) ⟨rfl, trivial⟩ ?_
  refine t_then ?_
  refine t_seq ?_
  refine t_region ?_
  refine t_val (r_move rfl) rfl ?_
  refine t_eff rfl (e_pcall en_39 rfl rfl rfl rfl (fmt_c hT n hn) ?_)
  refine t_val (r_assign rfl) rfl ?_
  refine t_nil ?_
  refine Tr.keep (env' := [(3, _)]) ⟨rfl, trivial⟩ ?_
  refine t_then ?_
  refine t_seq ?_
  refine t_region ?_
  refine t_val (r_move rfl) rfl ?_
  refine t_val (r_len_str Tryz.underlying9 rfl) rfl ?_
  refine t_val (r_to (v2 := .int .i64 ((16 - (hexS n).length : Nat) : Int)) (r_subi rfl rfl (by omega)) (congrArg (Value.int .i64) (by omega))) rfl ?_
  refine t_eff rfl (e_pcall en_40 rfl rfl rfl rfl (repeat_c (16 - (hexS n).length) (by omega)) ?_)
  refine t_val (r_move rfl) rfl ?_
  refine t_val (r_adds rfl rfl (by simp [ByteArray.size, maxLen]; omega)) rfl ?_
  refine t_val (r_assign rfl) rfl ?_
  refine t_nil ?_
  refine Tr.keep (env' := [(2, _)]) ⟨rfl, trivial⟩ ?_
  refine t_then ?_
  refine t_retc ?_
  refine t_ret1 rfl rfl (fun w hw => ?_)
  exact ⟨rfl, hw⟩
end
end Go.Proofs.W
set_option linter.unusedVariables false
set_option linter.unusedSimpArgs false
set_option linter.unusedSectionVars false
set_option maxRecDepth 100000
namespace Go.Proofs.W
open Go Go.Sl Go.RowKit Go.Proofs
attribute [local irreducible] Go.Sl.Eff
theorem en_163 : Enters Tryz.prog 163 := enters_of Tryz.func163 (by kernel_rfl) (by kernel_rfl)
theorem en_21 : Enters Tryz.prog 21 := enters_of Tryz.func21 (by kernel_rfl) (by kernel_rfl)
theorem en_22 : Enters Tryz.prog 22 := enters_of Tryz.func22 (by kernel_rfl) (by kernel_rfl)
theorem en_224 : Enters Tryz.prog 224 := enters_of Tryz.func224 (by kernel_rfl) (by kernel_rfl)
theorem en_84 : Enters Tryz.prog 84 := enters_of Tryz.func84 (by kernel_rfl) (by kernel_rfl)
theorem fo_27_1 : fieldOff Tryz.prog 27 1 = some 1 := by kernel_rfl
theorem iz_27 : (Tryz.prog.info? 27).map (·.size) = some 2 := by kernel_rfl
def dig (c : Nat) : Nat := if c ≤ 57 then c - 48 else c - 87
def hexV (s : ByteArray) : Nat → Nat
  | 0 => 0
  | p + 1 => hexV s p * 16 + dig (s.get! p).toNat
def isHex (c : Nat) : Prop := (48 ≤ c ∧ c ≤ 57) ∨ (97 ≤ c ∧ c ≤ 102)
structure HexOk (s : ByteArray) : Prop where
  pos : 0 < s.size
  le : s.size ≤ 16
  hex : ∀ p, p < s.size → isHex (s.get! p).toNat
theorem dig_lt {c : Nat} (h : isHex c) : dig c < 16 := by unfold dig isHex at *; split <;> omega
theorem hexV_lt {s : ByteArray} (h : HexOk s) : ∀ p, p ≤ s.size → hexV s p < 16 ^ p
  | 0, _ => by simp [hexV]
  | p + 1, hp => by
    have h1 := hexV_lt h p (by omega)
    have h2 := dig_lt (h.hex p (by omega))
    simp only [hexV, Nat.pow_succ]
    omega
theorem hexV_le {s : ByteArray} (h : HexOk s) (p : Nat) (hp : p < s.size) : hexV s p < 1152921504606846976 := by
  have h1 := hexV_lt h p (by omega)
  have h2 : (16 : Nat) ^ p ≤ 16 ^ 15 := Nat.pow_le_pow_right (by decide) (by have := h.le; omega)
  have h3 : (16 : Nat) ^ 15 = 1152921504606846976 := by decide
  omega
theorem or32 : ∀ c : Nat, 97 ≤ c → c ≤ 102 → bits .or .u8 (c : Int) 32 = (c : Int) := by
  intro c h1 h2
  have : c = 97 ∨ c = 98 ∨ c = 99 ∨ c = 100 ∨ c = 101 ∨ c = 102 := by omega
  rcases this with rfl | rfl | rfl | rfl | rfl | rfl <;> rfl
def chainN (b : Int) (s : ByteArray) : Nat := (chainV b s).toNat
theorem chainV_in (b : Int) (s : ByteArray) : 0 ≤ chainV b s ∧ chainV b s < 18446744073709551616 := by
  unfold chainV; rw [IntKind.wrap_u64]; omega
theorem chainN_lt (b : Int) (s : ByteArray) : chainN b s < 18446744073709551616 := by have := chainV_in b s; unfold chainN; omega
theorem chainN_eq (b : Int) (s : ByteArray) : ((chainN b s : Nat) : Int) = chainV b s := by have := chainV_in b s; unfold chainN; omega
theorem keepS {s : ByteArray} (h : HexOk s) : s ≠ ⟨#[]⟩ := by
  intro e; have := h.pos; subst e; simp [ByteArray.size] at this
abbrev encE (e : ByteArray × ByteArray) : List Value := [.string e.1, .string e.2]
def prevN (es : List (ByteArray × ByteArray)) : Nat := match es[es.length - 1]? with | some x => hexV x.2 x.2.size | none => 14695981039346656037
section
variable {w0 : World} {M : List Ent}
theorem ifc_error : Tryz.prog.isIface 183 = true := by kernel_rfl
theorem lower_c (c : Nat) (h1 : 97 ≤ c) (h2 : c ≤ 102) : ∀ w, Ok w0 M w → Calls Tryz.prog 224 #[.int .u8 (c : Int)] w (fun e w' => e = .returned (.int .u8 (c : Int)) ∧ Ok w0 M w') := by
  refine enter (vs := [_]) Tryz.func224 rfl Tryz.ntmps224 rfl ?_
  refine t_seq ?_
  refine t_region ?_
  refine t_val (r_assign rfl) rfl ?_
  refine t_nil ?_
  refine Tr.keep (env' := [(0, _)]) ⟨rfl, trivial⟩ ?_
  refine t_then ?_
  refine t_seq ?_
  refine t_region ?_
  refine t_val (r_move rfl) rfl ?_
  refine t_val (r_to (v2 := .int .u8 (c : Int)) (r_or rfl rfl) (congrArg (Value.int .u8) (or32 c h1 h2))) rfl ?_
  refine t_val (r_assign rfl) rfl ?_
  refine t_nil ?_
  refine Tr.keep (env' := [(2, _)]) ⟨rfl, trivial⟩ ?_
  refine t_then ?_
  refine t_retc ?_
  refine t_ret1 rfl rfl (fun w hw => ?_)
  exact ⟨rfl, hw⟩
theorem parseI_c (s : ByteArray) (hs : HexOk s) : ∀ w, Ok w0 M w → Calls Tryz.prog 163 #[.string s, .int .i64 16, .int .i64 64] w (fun e w' => e = .returned (.tuple #[.int .u64 ((hexV s s.size : Nat) : Int), .nilIface]) ∧ Ok w0 M w') := by
  refine enter (vs := [_, _, _]) Tryz.func163 rfl Tryz.ntmps163 rfl ?_
  refine t_seq ?_
  refine t_region ?_
  refine t_val (r_assign rfl) rfl ?_
  refine t_val (r_assign rfl) rfl ?_
  refine t_nil ?_
  refine Tr.keep (env' := [(0, _), (1, _), (2, _)]) ⟨rfl, rfl, rfl, trivial⟩ ?_
  refine t_then ?_
  refine t_seq ?_
  refine t_seq ?_
  refine t_region ?_
  refine t_val (r_move rfl) rfl ?_
  refine t_val (r_eqs rfl rfl) rfl ?_
  refine t_nil ?_
  refine Tr.keep (env' := [(0, _), (1, _), (2, _), (19, _)]) ⟨rfl, rfl, rfl, rfl, trivial⟩ ?_
  refine t_then ?_
  refine t_cond_f (b_of (by simp [keepS hs])) ?_
  refine t_skip ?_
  refine t_then ?_
  refine t_seq ?_
  refine t_region ?_
  refine t_val (r_move rfl) rfl ?_
  refine t_val (r_eq rfl rfl) rfl ?_
  refine t_val (r_assign rfl) rfl ?_
  refine t_nil ?_
  refine Tr.keep (env' := [(0, _), (1, _), (2, _), (8, _)]) ⟨rfl, rfl, rfl, rfl, trivial⟩ ?_
  refine t_then ?_
  refine t_seq ?_
  refine t_region ?_
  refine t_val (r_move rfl) rfl ?_
  refine t_val (r_assign rfl) rfl ?_
  refine t_nil ?_
  refine Tr.keep (env' := [(0, _), (1, _), (2, _), (8, _), (9, _)]) ⟨rfl, rfl, rfl, rfl, rfl, trivial⟩ ?_
  refine t_then ?_
  refine t_seq ?_
  refine t_block ?_
  refine t_seq ?_
  refine t_region ?_
  refine t_val (r_move rfl) rfl ?_
  refine t_val (r_le rfl rfl) rfl ?_
  refine t_val (r_move rfl) rfl ?_
  refine t_gval rfl rfl (r_move rfl) rfl ?_
  refine t_gval rfl rfl (r_le rfl rfl) rfl ?_
  refine t_val (r_pick_t rfl rfl) rfl ?_
  refine t_val (r_assign rfl) rfl ?_
  refine t_nil ?_
  refine Tr.keep (env' := [(0, _), (1, _), (2, _), (8, _), (9, _), (25, _)]) ⟨rfl, rfl, rfl, rfl, rfl, rfl, trivial⟩ ?_
  refine t_then ?_
  refine t_cond_t rfl ?_
  refine t_skip ?_
  refine t_in ?_
  refine t_then ?_
  refine t_seq ?_
  refine t_seq ?_
  refine t_region ?_
  refine t_val (r_move rfl) rfl ?_
  refine t_val (r_eq rfl rfl) rfl ?_
  refine t_nil ?_
  refine Tr.keep (env' := [(0, _), (1, _), (2, _), (8, _), (9, _), (77, _)]) ⟨rfl, rfl, rfl, rfl, rfl, rfl, trivial⟩ ?_
  refine t_then ?_
  refine t_cond_f rfl ?_
  refine t_seq ?_
  refine t_region ?_
  refine t_val (r_move rfl) rfl ?_
  refine t_val (r_lt rfl rfl) rfl ?_
  refine t_val (r_move rfl) rfl ?_
  refine t_gval rfl rfl (r_move rfl) rfl ?_
  refine t_gval rfl rfl (r_gt rfl rfl) rfl ?_
  refine t_val (r_pick_f rfl rfl) rfl ?_
  refine t_nil ?_
  refine Tr.keep (env' := [(0, _), (1, _), (2, _), (8, _), (9, _), (83, _)]) ⟨rfl, rfl, rfl, rfl, rfl, rfl, trivial⟩ ?_
  refine t_then ?_
  refine t_cond_f rfl ?_
  refine t_skip ?_
  refine t_then ?_
  refine t_seq ?_
  refine t_region ?_
  refine t_val (r_assign rfl) rfl ?_
  refine t_nil ?_
  refine Tr.keep (env' := [(0, _), (1, _), (2, _), (8, _), (9, _)]) ⟨rfl, rfl, rfl, rfl, rfl, trivial⟩ ?_
  refine t_then ?_
  refine t_seq ?_
  refine t_seq ?_
  refine t_region ?_
  refine t_val (r_move rfl) rfl ?_
  refine t_nil ?_
  refine Tr.keep (env' := [(0, _), (1, _), (2, _), (8, _), (9, _), (85, _)]) ⟨rfl, rfl, rfl, rfl, rfl, rfl, trivial⟩ ?_
  refine t_then ?_
  refine t_block ?_
  refine t_seq ?_
  refine t_region ?_
  refine t_val (r_eq rfl rfl) rfl ?_
  refine t_val (r_assign rfl) rfl ?_
  refine t_nil ?_
  refine Tr.keep (env' := [(0, _), (1, _), (2, _), (8, _), (9, _), (85, _), (90, _)]) ⟨rfl, rfl, rfl, rfl, rfl, rfl, rfl, trivial⟩ ?_
  refine t_then ?_
  refine t_cond_f rfl ?_
  refine t_seq ?_
  refine t_region ?_
  refine t_val (r_eq rfl rfl) rfl ?_
  refine t_val (r_assign rfl) rfl ?_
  refine t_nil ?_
  refine Tr.keep (env' := [(0, _), (1, _), (2, _), (8, _), (9, _), (92, _)]) ⟨rfl, rfl, rfl, rfl, rfl, rfl, trivial⟩ ?_
  refine t_then ?_
  refine t_cond_t rfl ?_
  refine t_region ?_
  refine t_val (r_assign rfl) rfl ?_
  refine t_nil ?_
  refine Tr.keep (env' := [(0, _), (1, _), (2, _), (8, _), (9, _), (10, _)]) ⟨rfl, rfl, rfl, rfl, rfl, rfl, trivial⟩ ?_
  refine t_in ?_
  refine t_then ?_
  refine t_seq ?_
  refine t_region ?_
  refine t_val (r_move rfl) rfl ?_
  refine t_val (r_conv Tryz.underlying3 Tryz.underlying208 rfl) rfl ?_
  refine t_val (r_to (v2 := .int .u64 0) (r_shl rfl rfl (by decide)) (by rfl)) rfl ?_
  refine t_val (r_to (v2 := .int .u64 18446744073709551615) (r_sub rfl rfl) (by rfl)) rfl ?_
  refine t_val (r_assign rfl) rfl ?_
  refine t_nil ?_
  refine Tr.keep (env' := [(0, _), (1, _), (8, _), (9, _), (10, _), (11, _)]) ⟨rfl, rfl, rfl, rfl, rfl, rfl, trivial⟩ ?_
  refine t_then ?_
  refine t_seq ?_
  refine t_region ?_
  refine t_val (r_assign rfl) rfl ?_
  refine t_nil ?_
  refine Tr.keep (env' := [(0, _), (1, _), (8, _), (9, _), (10, _), (11, _), (12, _)]) ⟨rfl, rfl, rfl, rfl, rfl, rfl, rfl, trivial⟩ ?_
  refine t_then ?_
  refine t_seq ?_
  refine t_region ?_
  refine t_val (r_assign rfl) rfl ?_
  refine t_nil ?_
  refine Tr.keep (env' := [(0, _), (1, _), (8, _), (9, _), (10, _), (11, _), (12, _), (13, _)]) ⟨rfl, rfl, rfl, rfl, rfl, rfl, rfl, rfl, trivial⟩ ?_
  refine t_then ?_
  refine t_seq ?_
  refine t_seq ?_
  refine t_region ?_
  refine t_val (r_move rfl) rfl ?_
  refine t_eff rfl (e_strBytes Tryz.underlying9 Tryz.underlying200 Tryz.underlying5 rfl rfl fun b99 c99 cs fr hcs => ?_)
  refine t_val (r_len_slice Tryz.underlying200 rfl) rfl ?_
  refine t_val (r_move rfl) rfl ?_
  refine t_nil ?_
  refine Tr.keep (env' := [(1, _), (8, _), (9, _), (10, _), (11, _), (12, _), (13, _), (99, _), (100, _), (101, _)]) ⟨rfl, rfl, rfl, rfl, rfl, rfl, rfl, rfl, rfl, rfl, trivial⟩ ?_
  refine t_then ?_
  refine t_block ?_
  refine t_loop (fun k : Nat => [(1, .int .i64 16), (8, .bool false), (9, .string s), (10, .int .u64 1152921504606846976), (11, .int .u64 18446744073709551615), (12, .bool false), (13, .int .u64 ((hexV s k : Nat) : Int)), (99, .slice (some ⟨b99, 0, none⟩) s.size c99), (100, .int .i64 (s.size : Int)), (101, .int .i64 (k : Int))]) (fun k : Nat => ⟨b99, .cells cs 5 fr⟩ :: M) (fun k : Nat => k ≤ s.size) (fun k : Nat => s.size - k) 0 (Nat.zero_le _) ⟨rfl, rfl, rfl, rfl, rfl, rfl, rfl, rfl, rfl, rfl, trivial⟩ (.refl _) ?_
  intro K k hk IH
  have hsl := hs.le
  refine t_seq ?_
  refine t_region ?_
  refine t_val (r_lt rfl rfl) rfl ?_
  refine t_nil ?_
  refine Tr.keep (env' := [(1, _), (8, _), (9, _), (10, _), (11, _), (12, _), (13, _), (99, _), (100, _), (101, _), (102, _)]) ⟨rfl, rfl, rfl, rfl, rfl, rfl, rfl, rfl, rfl, rfl, rfl, trivial⟩ ?_
  refine t_then ?_
  refine t_seq ?_
  refine t_cond rfl (fun hc => ?_) (fun hc => ?_)
  · have hlt : k < s.size := by have := of_decide_eq_true hc; omega
    have hh := hs.hex k hlt
    have hdl := dig_lt hh
    have hvl := hexV_le hs k hlt
    have hck := hcs k hlt
    have hvs : hexV s (k + 1) = hexV s k * 16 + dig (s.get! k).toNat := rfl
    generalize (s.get! k).toNat = c at hh hdl hck hvs
    refine t_skip ?_
    refine t_then ?_
    refine t_seq ?_
    refine t_block ?_
    refine t_seq ?_
    refine t_region ?_
    refine t_val (r_ia (j := k) Tryz.underlying200 iz_5 rfl rfl rfl (by omega)) rfl ?_
    refine t_val (r_load ca_5 rfl (rd_ent (.head _) (by rw [Nat.zero_add, Nat.mul_one]; exact hck))) rfl ?_
    refine t_val (r_assign rfl) rfl ?_
    refine t_nil ?_
    refine Tr.keep (env' := [(1, _), (8, _), (9, _), (10, _), (11, _), (12, _), (13, _), (15, _), (99, _), (100, _), (101, _)]) ⟨rfl, rfl, rfl, rfl, rfl, rfl, rfl, rfl, rfl, rfl, rfl, trivial⟩ ?_
    refine t_then ?_
    refine t_seq ?_
    refine t_region ?_
    refine t_val (r_assign rfl) rfl ?_
    refine t_nil ?_
    refine Tr.keep (env' := [(1, _), (8, _), (9, _), (10, _), (11, _), (12, _), (13, _), (15, _), (99, _), (100, _), (101, _)]) ⟨rfl, rfl, rfl, rfl, rfl, rfl, rfl, rfl, rfl, rfl, rfl, trivial⟩ ?_
    refine t_then ?_
    refine t_seq ?_
    refine t_block ?_
    refine t_seq ?_
    refine t_region ?_
    refine t_val (r_move rfl) rfl ?_
    refine t_val (r_to (v2 := .bool false) (r_eq rfl rfl) (congrArg Value.bool (by rw [beq_eq_false_iff_ne]; unfold isHex at hh; omega))) rfl ?_
    refine t_val (r_move rfl) rfl ?_
    refine t_gskip rfl rfl rfl rfl ?_
    refine t_val (r_pick_f rfl rfl) rfl ?_
    refine t_val (r_assign rfl) rfl ?_
    refine t_nil ?_
    refine Tr.keep (env' := [(1, _), (8, _), (9, _), (10, _), (11, _), (12, _), (13, _), (15, _), (99, _), (100, _), (101, _), (106, _)]) ⟨rfl, rfl, rfl, rfl, rfl, rfl, rfl, rfl, rfl, rfl, rfl, rfl, trivial⟩ ?_
    refine t_then ?_
    refine t_cond_f rfl ?_
    refine t_seq ?_
    refine t_region ?_
    refine t_val (r_move rfl) rfl ?_
    refine t_val (r_le rfl rfl) rfl ?_
    refine t_val (r_move rfl) rfl ?_
    apply t_group_and 3 (s := 115) (d := 118) rfl
    · intro hg2 K hK
      refine g_val hg2 rfl rfl (r_move rfl) rfl ?_
      refine g_val hg2 rfl rfl (r_le rfl rfl) rfl ?_
      refine t_val (rp_t hg2 rfl rfl) rfl ?_
      iterate 2 refine Tr.weak2 rfl ?_
      exact hK _ (and_t hg2)
    · intro hg2 K hK
      refine g_skip hg2 rfl rfl rfl rfl ?_
      refine g_skip hg2 rfl rfl rfl rfl ?_
      refine t_val (rp_f hg2 rfl rfl) rfl ?_
      iterate 2 refine Tr.weak2 rfl ?_
      exact hK _ (and_f hg2)
    refine t_val (r_assign rfl) rfl ?_
    refine t_nil ?_
    refine Tr.keep (env' := [(1, _), (8, _), (9, _), (10, _), (11, _), (12, _), (13, _), (15, _), (99, _), (100, _), (101, _), (112, _)]) ⟨rfl, rfl, rfl, rfl, rfl, rfl, rfl, rfl, rfl, rfl, rfl, rfl, trivial⟩ ?_
    refine t_then ?_
    refine t_cond rfl (fun hd => ?_) (fun hd => ?_)
    · simp only [Bool.and_eq_true, decide_eq_true_eq] at hd
      refine t_region ?_
      refine t_val (r_move rfl) rfl ?_
      refine t_val (r_to (v2 := .int .u8 ((dig c : Nat) : Int)) (r_sub rfl rfl) (congrArg (Value.int .u8) (by rw [IntKind.wrap_u8]; unfold dig; rw [if_pos (by omega)]; omega))) rfl ?_
      refine t_val (r_assign rfl) rfl ?_
      refine t_nil ?_
      refine Tr.keep (env' := [(1, _), (8, _), (9, _), (10, _), (11, _), (12, _), (13, _), (16, _), (99, _), (100, _), (101, _)]) ⟨rfl, rfl, rfl, rfl, rfl, rfl, rfl, rfl, rfl, rfl, rfl, trivial⟩ ?_
      refine t_in ?_
      refine t_then ?_
      refine t_seq ?_
      refine t_seq ?_
      refine t_region ?_
      refine t_val (r_move rfl) rfl ?_
      refine t_val (r_move rfl) rfl ?_
      refine t_val (r_convI Tryz.underlying3 Tryz.underlying5 rfl (i' := 16) (by rfl)) rfl ?_
      refine t_val (r_to (v2 := .bool false) (r_ge rfl rfl) (congrArg Value.bool (by simp; omega))) rfl ?_
      refine t_nil ?_
      refine Tr.keep (env' := [(1, _), (8, _), (9, _), (10, _), (11, _), (12, _), (13, _), (16, _), (99, _), (100, _), (101, _), (137, _)]) ⟨rfl, rfl, rfl, rfl, rfl, rfl, rfl, rfl, rfl, rfl, rfl, rfl, trivial⟩ ?_
      refine t_then ?_
      refine t_cond_f rfl ?_
      refine t_skip ?_
      refine t_then ?_
      refine t_seq ?_
      refine t_seq ?_
      refine t_region ?_
      refine t_val (r_move rfl) rfl ?_
      refine t_val (r_move rfl) rfl ?_
      refine t_val (r_to (v2 := .bool false) (r_ge rfl rfl) (congrArg Value.bool (by simp; omega))) rfl ?_
      refine t_nil ?_
      refine Tr.keep (env' := [(1, _), (8, _), (9, _), (10, _), (11, _), (12, _), (13, _), (16, _), (99, _), (100, _), (101, _), (141, _)]) ⟨rfl, rfl, rfl, rfl, rfl, rfl, rfl, rfl, rfl, rfl, rfl, rfl, trivial⟩ ?_
      refine t_then ?_
      refine t_cond_f rfl ?_
      refine t_skip ?_
      refine t_then ?_
      refine t_seq ?_
      refine t_region ?_
      refine t_val (r_move rfl) rfl ?_
      refine t_val (r_move rfl) rfl ?_
      refine t_val (r_convI Tryz.underlying3 Tryz.underlying82 rfl (i' := 16) (by rfl)) rfl ?_
      refine t_val (r_to (v2 := .int .u64 ((hexV s k * 16 : Nat) : Int)) (r_mul rfl rfl) (congrArg (Value.int .u64) (by rw [IntKind.wrap_u64]; omega))) rfl ?_
      refine t_val (r_assign rfl) rfl ?_
      refine t_nil ?_
      refine Tr.keep (env' := [(1, _), (8, _), (9, _), (10, _), (11, _), (12, _), (13, _), (16, _), (99, _), (100, _), (101, _)]) ⟨rfl, rfl, rfl, rfl, rfl, rfl, rfl, rfl, rfl, rfl, rfl, trivial⟩ ?_
      refine t_then ?_
      refine t_seq ?_
      refine t_region ?_
      refine t_val (r_move rfl) rfl ?_
      refine t_val (r_move rfl) rfl ?_
      refine t_val (r_convI Tryz.underlying5 Tryz.underlying82 rfl (i' := ((dig c : Nat) : Int)) (by rw [IntKind.wrap_u64]; omega)) rfl ?_
      refine t_val (r_to (v2 := .int .u64 ((hexV s (k + 1) : Nat) : Int)) (r_add rfl rfl) (congrArg (Value.int .u64) (by rw [IntKind.wrap_u64, hvs]; omega))) rfl ?_
      refine t_val (r_assign rfl) rfl ?_
      refine t_nil ?_
      refine Tr.keep (env' := [(1, _), (8, _), (9, _), (10, _), (11, _), (12, _), (13, _), (17, _), (99, _), (100, _), (101, _)]) ⟨rfl, rfl, rfl, rfl, rfl, rfl, rfl, rfl, rfl, rfl, rfl, trivial⟩ ?_
      refine t_then ?_
      refine t_seq ?_
      refine t_seq ?_
      refine t_region ?_
      refine t_val (r_move rfl) rfl ?_
      refine t_val (r_move rfl) rfl ?_
      refine t_val (r_to (v2 := .bool false) (r_lt rfl rfl) (congrArg Value.bool (by rw [hvs]; simp; omega))) rfl ?_
      refine t_val (r_move rfl) rfl ?_
      refine t_gval rfl rfl (r_move rfl) rfl ?_
      refine t_gval rfl rfl (r_move rfl) rfl ?_
      refine t_gval rfl rfl (r_to (v2 := .bool false) (r_gt rfl rfl) (congrArg Value.bool (by rw [hvs]; simp; omega))) rfl ?_
      refine t_val (r_pick_f rfl rfl) rfl ?_
      refine t_nil ?_
      refine Tr.keep (env' := [(1, _), (8, _), (9, _), (10, _), (11, _), (12, _), (17, _), (99, _), (100, _), (101, _), (159, _)]) ⟨rfl, rfl, rfl, rfl, rfl, rfl, rfl, rfl, rfl, rfl, rfl, trivial⟩ ?_
      refine t_then ?_
      refine t_cond_f rfl ?_
      refine t_skip ?_
      refine t_then ?_
      refine t_region ?_
      refine t_val (r_move rfl) rfl ?_
      refine t_val (r_assign rfl) rfl ?_
      refine t_nil ?_
      refine Tr.keep (env' := [(1, _), (8, _), (9, _), (10, _), (11, _), (12, _), (13, _), (99, _), (100, _), (101, _)]) ⟨rfl, rfl, rfl, rfl, rfl, rfl, rfl, rfl, rfl, rfl, trivial⟩ ?_
      refine t_in ?_
      refine t_then ?_
      refine t_region ?_
      refine t_val (r_addi rfl rfl (by omega)) rfl ?_
      refine t_val (r_move rfl) rfl ?_
      refine t_nil ?_
      refine Tr.keep (env' := [(1, _), (8, _), (9, _), (10, _), (11, _), (12, _), (13, _), (99, _), (100, _), (101, _)]) ⟨rfl, rfl, rfl, rfl, rfl, rfl, rfl, rfl, rfl, rfl, trivial⟩ ?_
      refine t_then ?_
      refine t_K (IH (k + 1) (by omega) (by omega)) ⟨rfl, rfl, rfl, rfl, rfl, rfl, rfl, rfl, rfl, rfl, trivial⟩ (.refl _)
    · have hd2 : ¬ (48 ≤ c ∧ c ≤ 57) := by
        intro h; apply Bool.false_ne_true; rw [← hd]; simp; omega
      have hh2 : 97 ≤ c ∧ c ≤ 102 := by unfold isHex at hh; omega
      refine t_seq ?_
      refine t_region ?_
      refine t_val (r_move rfl) rfl ?_
      refine t_eff rfl (e_pcall en_224 rfl rfl rfl rfl (lower_c c (by omega) (by omega)) ?_)
      refine t_val (r_to (v2 := .bool true) (r_le rfl rfl) (congrArg Value.bool (by simp; omega))) rfl ?_
      refine t_val (r_move rfl) rfl ?_
      refine t_gval rfl rfl (r_move rfl) rfl ?_
      refine t_geff rfl rfl (e_pcall en_224 rfl rfl rfl rfl (lower_c c (by omega) (by omega)) ?_)
      refine t_gval rfl rfl (r_to (v2 := .bool true) (r_le rfl rfl) (congrArg Value.bool (by simp; omega))) rfl ?_
      refine t_val (r_pick_t rfl rfl) rfl ?_
      refine t_val (r_assign rfl) rfl ?_
      refine t_nil ?_
      refine Tr.keep (env' := [(1, _), (8, _), (9, _), (10, _), (11, _), (12, _), (13, _), (15, _), (99, _), (100, _), (101, _), (121, _)]) ⟨rfl, rfl, rfl, rfl, rfl, rfl, rfl, rfl, rfl, rfl, rfl, rfl, trivial⟩ ?_
      refine t_then ?_
      refine t_cond_t rfl ?_
      refine t_region ?_
      refine t_val (r_move rfl) rfl ?_
      refine t_eff rfl (e_pcall en_224 rfl rfl rfl rfl (lower_c c (by omega) (by omega)) ?_)
      refine t_val (r_to (v2 := .int .u8 ((c - 97 : Nat) : Int)) (r_sub rfl rfl) (congrArg (Value.int .u8) (by rw [IntKind.wrap_u8]; omega))) rfl ?_
      refine t_val (r_to (v2 := .int .u8 ((dig c : Nat) : Int)) (r_add rfl rfl) (congrArg (Value.int .u8) (by rw [IntKind.wrap_u8]; unfold dig; rw [if_neg (by omega)]; omega))) rfl ?_
      refine t_val (r_assign rfl) rfl ?_
      refine t_nil ?_
      refine Tr.keep (env' := [(1, _), (8, _), (9, _), (10, _), (11, _), (12, _), (13, _), (16, _), (99, _), (100, _), (101, _)]) ⟨rfl, rfl, rfl, rfl, rfl, rfl, rfl, rfl, rfl, rfl, rfl, trivial⟩ ?_
      refine t_in ?_
      refine t_then ?_
      refine t_seq ?_
      refine t_seq ?_
      refine t_region ?_
      refine t_val (r_move rfl) rfl ?_
      refine t_val (r_move rfl) rfl ?_
      refine t_val (r_convI Tryz.underlying3 Tryz.underlying5 rfl (i' := 16) (by rfl)) rfl ?_
      refine t_val (r_to (v2 := .bool false) (r_ge rfl rfl) (congrArg Value.bool (by simp; omega))) rfl ?_
      refine t_nil ?_
      refine Tr.keep (env' := [(1, _), (8, _), (9, _), (10, _), (11, _), (12, _), (13, _), (16, _), (99, _), (100, _), (101, _), (137, _)]) ⟨rfl, rfl, rfl, rfl, rfl, rfl, rfl, rfl, rfl, rfl, rfl, rfl, trivial⟩ ?_
      refine t_then ?_
      refine t_cond_f rfl ?_
      refine t_skip ?_
      refine t_then ?_
      refine t_seq ?_
      refine t_seq ?_
      refine t_region ?_
      refine t_val (r_move rfl) rfl ?_
      refine t_val (r_move rfl) rfl ?_
      refine t_val (r_to (v2 := .bool false) (r_ge rfl rfl) (congrArg Value.bool (by simp; omega))) rfl ?_
      refine t_nil ?_
      refine Tr.keep (env' := [(1, _), (8, _), (9, _), (10, _), (11, _), (12, _), (13, _), (16, _), (99, _), (100, _), (101, _), (141, _)]) ⟨rfl, rfl, rfl, rfl, rfl, rfl, rfl, rfl, rfl, rfl, rfl, rfl, trivial⟩ ?_
      refine t_then ?_
      refine t_cond_f rfl ?_
      refine t_skip ?_
      refine t_then ?_
      refine t_seq ?_
      refine t_region ?_
      refine t_val (r_move rfl) rfl ?_
      refine t_val (r_move rfl) rfl ?_
      refine t_val (r_convI Tryz.underlying3 Tryz.underlying82 rfl (i' := 16) (by rfl)) rfl ?_
      refine t_val (r_to (v2 := .int .u64 ((hexV s k * 16 : Nat) : Int)) (r_mul rfl rfl) (congrArg (Value.int .u64) (by rw [IntKind.wrap_u64]; omega))) rfl ?_
      refine t_val (r_assign rfl) rfl ?_
      refine t_nil ?_
      refine Tr.keep (env' := [(1, _), (8, _), (9, _), (10, _), (11, _), (12, _), (13, _), (16, _), (99, _), (100, _), (101, _)]) ⟨rfl, rfl, rfl, rfl, rfl, rfl, rfl, rfl, rfl, rfl, rfl, trivial⟩ ?_
      refine t_then ?_
      refine t_seq ?_
      refine t_region ?_
      refine t_val (r_move rfl) rfl ?_
      refine t_val (r_move rfl) rfl ?_
      refine t_val (r_convI Tryz.underlying5 Tryz.underlying82 rfl (i' := ((dig c : Nat) : Int)) (by rw [IntKind.wrap_u64]; omega)) rfl ?_
      refine t_val (r_to (v2 := .int .u64 ((hexV s (k + 1) : Nat) : Int)) (r_add rfl rfl) (congrArg (Value.int .u64) (by rw [IntKind.wrap_u64, hvs]; omega))) rfl ?_
      refine t_val (r_assign rfl) rfl ?_
      refine t_nil ?_
      refine Tr.keep (env' := [(1, _), (8, _), (9, _), (10, _), (11, _), (12, _), (13, _), (17, _), (99, _), (100, _), (101, _)]) ⟨rfl, rfl, rfl, rfl, rfl, rfl, rfl, rfl, rfl, rfl, rfl, trivial⟩ ?_
      refine t_then ?_
      refine t_seq ?_
      refine t_seq ?_
      refine t_region ?_
      refine t_val (r_move rfl) rfl ?_
      refine t_val (r_move rfl) rfl ?_
      refine t_val (r_to (v2 := .bool false) (r_lt rfl rfl) (congrArg Value.bool (by rw [hvs]; simp; omega))) rfl ?_
      refine t_val (r_move rfl) rfl ?_
      refine t_gval rfl rfl (r_move rfl) rfl ?_
      refine t_gval rfl rfl (r_move rfl) rfl ?_
      refine t_gval rfl rfl (r_to (v2 := .bool false) (r_gt rfl rfl) (congrArg Value.bool (by rw [hvs]; simp; omega))) rfl ?_
      refine t_val (r_pick_f rfl rfl) rfl ?_
      refine t_nil ?_
      refine Tr.keep (env' := [(1, _), (8, _), (9, _), (10, _), (11, _), (12, _), (17, _), (99, _), (100, _), (101, _), (159, _)]) ⟨rfl, rfl, rfl, rfl, rfl, rfl, rfl, rfl, rfl, rfl, rfl, trivial⟩ ?_
      refine t_then ?_
      refine t_cond_f rfl ?_
      refine t_skip ?_
      refine t_then ?_
      refine t_region ?_
      refine t_val (r_move rfl) rfl ?_
      refine t_val (r_assign rfl) rfl ?_
      refine t_nil ?_
      refine Tr.keep (env' := [(1, _), (8, _), (9, _), (10, _), (11, _), (12, _), (13, _), (99, _), (100, _), (101, _)]) ⟨rfl, rfl, rfl, rfl, rfl, rfl, rfl, rfl, rfl, rfl, trivial⟩ ?_
      refine t_in ?_
      refine t_then ?_
      refine t_region ?_
      refine t_val (r_addi rfl rfl (by omega)) rfl ?_
      refine t_val (r_move rfl) rfl ?_
      refine t_nil ?_
      refine Tr.keep (env' := [(1, _), (8, _), (9, _), (10, _), (11, _), (12, _), (13, _), (99, _), (100, _), (101, _)]) ⟨rfl, rfl, rfl, rfl, rfl, rfl, rfl, rfl, rfl, rfl, trivial⟩ ?_
      refine t_then ?_
      refine t_K (IH (k + 1) (by omega) (by omega)) ⟨rfl, rfl, rfl, rfl, rfl, rfl, rfl, rfl, rfl, rfl, trivial⟩ (.refl _)
  · have hge : ¬ k < s.size := by have := of_decide_eq_false hc; omega
    obtain rfl : k = s.size := by omega
    refine t_exit ?_
    refine t_then_exit ?_
    refine t_then_exit ?_
    refine t_in_hit ?_
    refine t_then ?_
    refine t_seq ?_
    refine t_seq ?_
    refine t_region ?_
    refine t_val (r_move rfl) rfl ?_
    refine t_val (r_move rfl) rfl ?_
    refine t_gskip rfl rfl rfl rfl ?_
    refine t_gskip rfl rfl rfl rfl ?_
    refine t_gskip rfl rfl rfl rfl ?_
    refine t_val (r_pick_f rfl rfl) rfl ?_
    refine t_nil ?_
    refine Tr.keep (env' := [(13, _), (169, _)]) ⟨rfl, rfl, trivial⟩ ?_
    refine t_then ?_
    refine t_cond_f rfl ?_
    refine t_skip ?_
    refine t_then ?_
    refine t_seq ?_
    refine t_region ?_
    refine t_val (r_move rfl) rfl ?_
    refine t_val (r_assign rfl) rfl ?_
    refine t_val (r_assign rfl) rfl ?_
    refine t_nil ?_
    refine Tr.keep (env' := [(6, _), (7, _)]) ⟨rfl, rfl, trivial⟩ ?_
    refine t_then ?_
    refine t_retc ?_
    refine t_ret2 rfl rfl rfl (fun w hw => ?_)
    exact ⟨rfl, hw.sub (.cons _ (.refl _))⟩
theorem parse_c (s : ByteArray) (hs : HexOk s) : ∀ w, Ok w0 M w → Calls Tryz.prog 84 #[.string s, .int .i64 16, .int .i64 64] w (fun e w' => e = .returned (.tuple #[.int .u64 ((hexV s s.size : Nat) : Int), .nilIface]) ∧ Ok w0 M w') := by
  refine enter (vs := [_, _, _]) Tryz.func84 rfl Tryz.ntmps84 rfl ?_
  refine t_seq ?_
  refine t_region ?_
  refine t_val (r_assign rfl) rfl ?_
  refine t_val (r_assign rfl) rfl ?_
  refine t_nil ?_
  refine Tr.keep (env' := [(0, _), (1, _), (2, _)]) ⟨rfl, rfl, rfl, trivial⟩ ?_
  refine t_then ?_
  refine t_seq ?_
  refine t_region ?_
  refine t_val (r_move rfl) rfl ?_
  refine t_val (r_move rfl) rfl ?_
  refine t_val (r_move rfl) rfl ?_
  refine t_eff rfl (e_pcall en_163 rfl rfl rfl rfl (parseI_c s hs) ?_)
  refine t_val (r_move rfl) rfl ?_
  refine t_val (r_extract rfl rfl) rfl ?_
  refine t_val (r_extract rfl rfl) rfl ?_
  refine t_val (r_assign rfl) rfl ?_
  refine t_val (r_assign rfl) rfl ?_
  refine t_nil ?_
  refine Tr.keep (env' := [(0, _), (1, _), (2, _), (8, _), (9, _)]) ⟨rfl, rfl, rfl, rfl, rfl, trivial⟩ ?_
  refine t_then ?_
  refine t_seq ?_
  refine t_seq ?_
  refine t_region ?_
  refine t_val (r_move rfl) rfl ?_
  refine t_val (r_nenil_ifc0 ifc_error rfl rfl) rfl ?_
  refine t_nil ?_
  refine Tr.keep (env' := [(0, _), (1, _), (2, _), (8, _), (9, _), (18, _)]) ⟨rfl, rfl, rfl, rfl, rfl, rfl, trivial⟩ ?_
  refine t_then ?_
  refine t_cond_f rfl ?_
  refine t_skip ?_
  refine t_then ?_
  refine t_seq ?_
  refine t_region ?_
  refine t_val (r_move rfl) rfl ?_
  refine t_val (r_assign rfl) rfl ?_
  refine t_val (r_assign rfl) rfl ?_
  refine t_nil ?_
  refine Tr.keep (env' := [(6, _), (7, _)]) ⟨rfl, rfl, trivial⟩ ?_
  refine t_then ?_
  refine t_retc ?_
  refine t_ret2 rfl rfl rfl (fun w hw => ?_)
  exact ⟨rfl, hw⟩
theorem chainOfN_c (b : Int) (s : ByteArray) (hs : s.size ≤ 4611686018427387904) : ∀ w, Ok w0 M w → Calls Tryz.prog 21 #[.int .u64 b, .string s] w (fun e w' => e = .returned (.int .u64 ((chainN b s : Nat) : Int)) ∧ Ok w0 M w') := fun w hw =>
  (chainOf_c b s hs w hw).mono fun e w' h => ⟨by rw [h.1, chainN_eq], h.2⟩
theorem chained_0 (hT : Tab w0) {A : Option Addr} {c : Nat} {es : List (ByteArray × ByteArray)} (hs : SlRd w0 M 2 A es.length (es.map encE)) (hes : es = []) (line : ByteArray) (hl : line.size ≤ 4611686018427387904) : ∀ w, Ok w0 M w → Calls Tryz.prog 34 #[.slice A es.length c, .string line] w (fun e w' => e = .returned (.string (digitsV (chainN (prevN es) line))) ∧ Ok w0 M w') := by
  subst hes
  refine enter (vs := [_, _]) Tryz.func34 rfl Tryz.ntmps34 rfl ?_
  refine t_seq ?_
  refine t_region ?_
  refine t_val (r_assign rfl) rfl ?_
  refine t_nil ?_
  refine Tr.keep (env' := [(0, _), (1, _)]) ⟨rfl, rfl, trivial⟩ ?_
  refine t_then ?_
  refine t_seq ?_
  refine t_region ?_
  refine t_val (r_assign rfl) rfl ?_
  refine t_nil ?_
  refine Tr.keep (env' := [(0, _), (1, _), (5, _)]) ⟨rfl, rfl, rfl, trivial⟩ ?_
  refine t_then ?_
  refine t_seq ?_
  refine t_seq ?_
  refine t_region ?_
  refine t_val (r_move rfl) rfl ?_
  refine t_val (r_len_slice Tryz.underlying23 rfl) rfl ?_
  refine t_val (r_assign rfl) rfl ?_
  refine t_nil ?_
  refine Tr.keep (env' := [(0, _), (1, _), (5, _), (6, _)]) ⟨rfl, rfl, rfl, rfl, trivial⟩ ?_
  refine t_then ?_
  refine t_seq ?_
  refine t_region ?_
  refine t_val (r_move rfl) rfl ?_
  refine t_val (r_gt rfl rfl) rfl ?_
  refine t_nil ?_
  refine Tr.keep (env' := [(0, _), (1, _), (5, _), (6, _), (10, _)]) ⟨rfl, rfl, rfl, rfl, rfl, trivial⟩ ?_
  refine t_then ?_
  refine t_cond_f (b_of (by simp)) ?_
  refine t_skip ?_
  refine t_then ?_
  refine t_seq ?_
  refine t_region ?_
  refine t_val (r_move rfl) rfl ?_
  refine t_val (r_move rfl) rfl ?_
  refine t_eff rfl (e_pcall en_21 rfl rfl rfl rfl (chainOfN_c _ line hl) ?_)
  refine t_eff rfl (e_pcall en_22 rfl rfl rfl rfl (digits_c hT _ (chainN_lt _ _)) ?_)
  refine t_val (r_assign rfl) rfl ?_
  refine t_nil ?_
  refine Tr.keep (env' := [(4, _)]) ⟨rfl, trivial⟩ ?_
  refine t_then ?_
  refine t_retc ?_
  refine t_ret1 rfl rfl (fun w hw => ?_)
  exact ⟨rfl, hw⟩
theorem chained_n (hT : Tab w0) {A : Option Addr} {c : Nat} {es : List (ByteArray × ByteArray)} (hs : SlRd w0 M 2 A es.length (es.map encE)) (hes : 0 < es.length) (x : ByteArray × ByteArray) (hx : es[es.length - 1]? = some x) (hxo : HexOk x.2) (line : ByteArray) (hl : line.size ≤ 4611686018427387904) : ∀ w, Ok w0 M w → Calls Tryz.prog 34 #[.slice A es.length c, .string line] w (fun e w' => e = .returned (.string (digitsV (chainN (prevN es) line))) ∧ Ok w0 M w') := by
  have hpv : prevN es = hexV x.2 x.2.size := by simp [prevN, hx]
  have hbig := hs.big
  obtain ⟨b, o, hA, hrd⟩ := hs.at' hes
  refine enter (vs := [_, _]) Tryz.func34 rfl Tryz.ntmps34 rfl ?_
  refine t_seq ?_
  refine t_region ?_
  refine t_val (r_assign rfl) rfl ?_
  refine t_nil ?_
  refine Tr.keep (env' := [(0, _), (1, _)]) ⟨rfl, rfl, trivial⟩ ?_
  refine t_then ?_
  refine t_seq ?_
  refine t_region ?_
  refine t_val (r_assign rfl) rfl ?_
  refine t_nil ?_
  refine Tr.keep (env' := [(0, _), (1, _), (5, _)]) ⟨rfl, rfl, rfl, trivial⟩ ?_
  refine t_then ?_
  refine t_seq ?_
  refine t_seq ?_
  refine t_region ?_
  refine t_val (r_move rfl) rfl ?_
  refine t_val (r_len_slice Tryz.underlying23 rfl) rfl ?_
  refine t_val (r_assign rfl) rfl ?_
  refine t_nil ?_
  refine Tr.keep (env' := [(0, _), (1, _), (5, _), (6, _)]) ⟨rfl, rfl, rfl, rfl, trivial⟩ ?_
  refine t_then ?_
  refine t_seq ?_
  refine t_region ?_
  refine t_val (r_move rfl) rfl ?_
  refine t_val (r_gt rfl rfl) rfl ?_
  refine t_nil ?_
  refine Tr.keep (env' := [(0, _), (1, _), (5, _), (6, _), (10, _)]) ⟨rfl, rfl, rfl, rfl, rfl, trivial⟩ ?_
  refine t_then ?_
  refine t_cond_t (b_of (by simp; omega)) ?_
  refine t_region ?_
  refine t_val (r_move rfl) rfl ?_
  refine t_val (r_move rfl) rfl ?_
  refine t_val (r_subi rfl rfl (by omega)) rfl ?_
  refine t_val (r_ia_s (es.length - 1) Tryz.underlying23 iz_27 hA rfl rfl (by omega) (by omega)) rfl ?_
  refine t_val (r_fa fo_27_1 rfl) rfl ?_
  refine t_val (r_load ca_9 rfl (hrd (es.length - 1) (encE x) (by rw [List.getElem?_map, hx]; rfl) 1 (.string x.2) rfl)) rfl ?_
  refine t_eff rfl (e_pcall en_84 rfl rfl rfl rfl (parse_c x.2 hxo) ?_)
  refine t_val (r_move rfl) rfl ?_
  refine t_val (r_extract rfl rfl) rfl ?_
  refine t_val (r_extract rfl rfl) rfl ?_
  refine t_val (r_assign rfl) rfl ?_
  refine t_nil ?_
  refine Tr.keep (env' := [(1, _), (5, _)]) ⟨rfl, rfl, trivial⟩ ?_
  refine t_then ?_
  refine t_seq ?_
  refine t_region ?_
  refine t_val (r_move rfl) rfl ?_
  refine t_val (r_move rfl) rfl ?_
  refine t_eff rfl (e_pcall en_21 rfl rfl rfl rfl (chainOfN_c _ line hl) ?_)
  refine t_eff rfl (e_pcall en_22 rfl rfl rfl rfl (digits_c hT _ (chainN_lt _ _)) ?_)
  refine t_val (r_assign rfl) rfl ?_
  refine t_nil ?_
  refine Tr.keep (env' := [(4, _)]) ⟨rfl, trivial⟩ ?_
  refine t_then ?_
  refine t_retc ?_
  refine t_ret1 rfl rfl (fun w hw => ?_)
  exact ⟨by rw [hpv], hw⟩
end
end Go.Proofs.W
