/-
  What functions of the program that RallyChains reaches do, one contract each, part 1.
-/
import Derived.Test.YtkacdmfekjincaaGreatDoorProg
import Derived.Test.YtkacdmfekjincaaGreatDoorSlB
import Derived.Test.YtkacdmfekjincaaGreatDoorSlA
set_option linter.unusedVariables false
set_option linter.unusedSimpArgs false
set_option linter.unusedSectionVars false
set_option maxRecDepth 100000
namespace Go.Proofs.W
open Go Go.Sl Go.RowKit Go.Proofs
theorem ca_107 : cellsAs Tryz.prog 107 = some (some 4) := by kernel_rfl
theorem ca_110 : cellsAs Tryz.prog 110 = some (some 2) := by kernel_rfl
theorem ca_116 : cellsAs Tryz.prog 116 = some (some 3) := by kernel_rfl
theorem ca_218 : cellsAs Tryz.prog 218 = some (some 5) := by kernel_rfl
theorem ca_228 : cellsAs Tryz.prog 228 = some (some 7) := by kernel_rfl
theorem ca_3 : cellsAs Tryz.prog 3 = some (none) := by kernel_rfl
theorem en_183 : Enters Tryz.prog 183 := enters_of Tryz.func183 (by kernel_rfl) (by kernel_rfl)
theorem en_185 : Enters Tryz.prog 185 := enters_of Tryz.func185 (by kernel_rfl) (by kernel_rfl)
theorem en_231 : Enters Tryz.prog 231 := enters_of Tryz.func231 (by kernel_rfl) (by kernel_rfl)
theorem en_282 : Enters Tryz.prog 282 := enters_of Tryz.func282 (by kernel_rfl) (by kernel_rfl)
theorem en_283 : Enters Tryz.prog 283 := enters_of Tryz.func283 (by kernel_rfl) (by kernel_rfl)
theorem en_305 : Enters Tryz.prog 305 := enters_of Tryz.func305 (by kernel_rfl) (by kernel_rfl)
theorem iz_107 : (Tryz.prog.info? 107).map (·.size) = some 4 := by kernel_rfl
theorem iz_110 : (Tryz.prog.info? 110).map (·.size) = some 2 := by kernel_rfl
theorem iz_116 : (Tryz.prog.info? 116).map (·.size) = some 3 := by kernel_rfl
theorem iz_218 : (Tryz.prog.info? 218).map (·.size) = some 5 := by kernel_rfl
theorem iz_228 : (Tryz.prog.info? 228).map (·.size) = some 7 := by kernel_rfl
theorem iz_3 : (Tryz.prog.info? 3).map (·.size) = some 1 := by kernel_rfl
def inB (n lo hi : Int) : Bool := decide (lo ≤ n) && decide (n ≤ hi)
section
variable {w0 : World} {M : List Ent}
theorem rescue_within_c (n lo hi : Int) : ∀ w, Ok w0 M w → Calls Tryz.prog 42 #[.int .i64 n, .int .i64 lo, .int .i64 hi] w (fun e w' => e = .returned (.bool (inB n lo hi)) ∧ Ok w0 M w') := by
  refine enter (vs := [_, _, _]) Tryz.func42 rfl Tryz.ntmps42 rfl ?_
  refine t_seq ?_
  refine t_region ?_
  refine t_val (r_assign rfl) rfl ?_
  refine t_nil ?_
  refine Tr.keep (env' := [(0, _), (1, _), (2, _)]) ⟨rfl, rfl, rfl, trivial⟩ ?_
  refine t_then ?_
  refine t_seq ?_
  refine t_region ?_
  refine t_val (r_move rfl) rfl ?_
  refine t_val (r_move rfl) rfl ?_
  refine t_val (r_ge rfl rfl) rfl ?_
  refine t_val (r_move rfl) rfl ?_
  apply t_group_and 4 (s := 10) (d := 14) rfl
  · intro hg1 K hK
    refine g_val hg1 rfl rfl (r_move rfl) rfl ?_
    refine g_val hg1 rfl rfl (r_move rfl) rfl ?_
    refine g_val hg1 rfl rfl (r_le rfl rfl) rfl ?_
    refine t_val (rp_t hg1 rfl rfl) rfl ?_
    iterate 3 refine Tr.weak2 rfl ?_
    exact hK _ (and_t hg1)
  · intro hg1 K hK
    refine g_skip hg1 rfl rfl rfl rfl ?_
    refine g_skip hg1 rfl rfl rfl rfl ?_
    refine g_skip hg1 rfl rfl rfl rfl ?_
    refine t_val (rp_f hg1 rfl rfl) rfl ?_
    iterate 3 refine Tr.weak2 rfl ?_
    exact hK _ (and_f hg1)
  refine t_val (r_assign rfl) rfl ?_
  refine t_nil ?_
  refine Tr.keep (env' := [(6, _)]) ⟨rfl, trivial⟩ ?_
  refine t_then ?_
  refine t_retc ?_
  refine t_ret1 rfl rfl (fun w hw => ?_)
  exact ⟨rfl, hw⟩
theorem rally_within_c (n lo hi : Int) : ∀ w, Ok w0 M w → Calls Tryz.prog 25 #[.int .i64 n, .int .i64 lo, .int .i64 hi] w (fun e w' => e = .returned (.bool (inB n lo hi)) ∧ Ok w0 M w') := by
  refine enter (vs := [_, _, _]) Tryz.func25 rfl Tryz.ntmps25 rfl ?_
  refine t_seq ?_
  refine t_region ?_
  refine t_val (r_assign rfl) rfl ?_
  refine t_nil ?_
  refine Tr.keep (env' := [(0, _), (1, _), (2, _)]) ⟨rfl, rfl, rfl, trivial⟩ ?_
  refine t_then ?_
  refine t_seq ?_
  refine t_region ?_
  refine t_val (r_move rfl) rfl ?_
  refine t_val (r_move rfl) rfl ?_
  refine t_val (r_ge rfl rfl) rfl ?_
  refine t_val (r_move rfl) rfl ?_
  apply t_group_and 4 (s := 10) (d := 14) rfl
  · intro hg1 K hK
    refine g_val hg1 rfl rfl (r_move rfl) rfl ?_
    refine g_val hg1 rfl rfl (r_move rfl) rfl ?_
    refine g_val hg1 rfl rfl (r_le rfl rfl) rfl ?_
    refine t_val (rp_t hg1 rfl rfl) rfl ?_
    iterate 3 refine Tr.weak2 rfl ?_
    exact hK _ (and_t hg1)
  · intro hg1 K hK
    refine g_skip hg1 rfl rfl rfl rfl ?_
    refine g_skip hg1 rfl rfl rfl rfl ?_
    refine g_skip hg1 rfl rfl rfl rfl ?_
    refine t_val (rp_f hg1 rfl rfl) rfl ?_
    iterate 3 refine Tr.weak2 rfl ?_
    exact hK _ (and_f hg1)
  refine t_val (r_assign rfl) rfl ?_
  refine t_nil ?_
  refine Tr.keep (env' := [(6, _)]) ⟨rfl, trivial⟩ ?_
  refine t_then ?_
  refine t_retc ?_
  refine t_ret1 rfl rfl (fun w hw => ?_)
  exact ⟨rfl, hw⟩
theorem wire_within_c (n lo hi : Int) : ∀ w, Ok w0 M w → Calls Tryz.prog 111 #[.int .i64 n, .int .i64 lo, .int .i64 hi] w (fun e w' => e = .returned (.bool (inB n lo hi)) ∧ Ok w0 M w') := by
  refine enter (vs := [_, _, _]) Tryz.func111 rfl Tryz.ntmps111 rfl ?_
  refine t_seq ?_
  refine t_region ?_
  refine t_val (r_assign rfl) rfl ?_
  refine t_nil ?_
  refine Tr.keep (env' := [(0, _), (1, _), (2, _)]) ⟨rfl, rfl, rfl, trivial⟩ ?_
  refine t_then ?_
  refine t_seq ?_
  refine t_region ?_
  refine t_val (r_move rfl) rfl ?_
  refine t_val (r_move rfl) rfl ?_
  refine t_val (r_ge rfl rfl) rfl ?_
  refine t_val (r_move rfl) rfl ?_
  apply t_group_and 4 (s := 10) (d := 14) rfl
  · intro hg1 K hK
    refine g_val hg1 rfl rfl (r_move rfl) rfl ?_
    refine g_val hg1 rfl rfl (r_move rfl) rfl ?_
    refine g_val hg1 rfl rfl (r_le rfl rfl) rfl ?_
    refine t_val (rp_t hg1 rfl rfl) rfl ?_
    iterate 3 refine Tr.weak2 rfl ?_
    exact hK _ (and_t hg1)
  · intro hg1 K hK
    refine g_skip hg1 rfl rfl rfl rfl ?_
    refine g_skip hg1 rfl rfl rfl rfl ?_
    refine g_skip hg1 rfl rfl rfl rfl ?_
    refine t_val (rp_f hg1 rfl rfl) rfl ?_
    iterate 3 refine Tr.weak2 rfl ?_
    exact hK _ (and_f hg1)
  refine t_val (r_assign rfl) rfl ?_
  refine t_nil ?_
  refine Tr.keep (env' := [(6, _)]) ⟨rfl, trivial⟩ ?_
  refine t_then ?_
  refine t_retc ?_
  refine t_ret1 rfl rfl (fun w hw => ?_)
  exact ⟨rfl, hw⟩
theorem score_within_c (n lo hi : Int) : ∀ w, Ok w0 M w → Calls Tryz.prog 190 #[.int .i64 n, .int .i64 lo, .int .i64 hi] w (fun e w' => e = .returned (.bool (inB n lo hi)) ∧ Ok w0 M w') := by
  refine enter (vs := [_, _, _]) Tryz.func190 rfl Tryz.ntmps190 rfl ?_
  refine t_seq ?_
  refine t_region ?_
  refine t_val (r_assign rfl) rfl ?_
  refine t_nil ?_
  refine Tr.keep (env' := [(0, _), (1, _), (2, _)]) ⟨rfl, rfl, rfl, trivial⟩ ?_
  refine t_then ?_
  refine t_seq ?_
  refine t_region ?_
  refine t_val (r_move rfl) rfl ?_
  refine t_val (r_move rfl) rfl ?_
  refine t_val (r_ge rfl rfl) rfl ?_
  refine t_val (r_move rfl) rfl ?_
  apply t_group_and 4 (s := 10) (d := 14) rfl
  · intro hg1 K hK
    refine g_val hg1 rfl rfl (r_move rfl) rfl ?_
    refine g_val hg1 rfl rfl (r_move rfl) rfl ?_
    refine g_val hg1 rfl rfl (r_le rfl rfl) rfl ?_
    refine t_val (rp_t hg1 rfl rfl) rfl ?_
    iterate 3 refine Tr.weak2 rfl ?_
    exact hK _ (and_t hg1)
  · intro hg1 K hK
    refine g_skip hg1 rfl rfl rfl rfl ?_
    refine g_skip hg1 rfl rfl rfl rfl ?_
    refine g_skip hg1 rfl rfl rfl rfl ?_
    refine t_val (rp_f hg1 rfl rfl) rfl ?_
    iterate 3 refine Tr.weak2 rfl ?_
    exact hK _ (and_f hg1)
  refine t_val (r_assign rfl) rfl ?_
  refine t_nil ?_
  refine Tr.keep (env' := [(6, _)]) ⟨rfl, trivial⟩ ?_
  refine t_then ?_
  refine t_retc ?_
  refine t_ret1 rfl rfl (fun w hw => ?_)
  exact ⟨rfl, hw⟩
theorem appeal_within_c (n lo hi : Int) : ∀ w, Ok w0 M w → Calls Tryz.prog 140 #[.int .i64 n, .int .i64 lo, .int .i64 hi] w (fun e w' => e = .returned (.bool (inB n lo hi)) ∧ Ok w0 M w') := by
  refine enter (vs := [_, _, _]) Tryz.func140 rfl Tryz.ntmps140 rfl ?_
  refine t_seq ?_
  refine t_region ?_
  refine t_val (r_assign rfl) rfl ?_
  refine t_nil ?_
  refine Tr.keep (env' := [(0, _), (1, _), (2, _)]) ⟨rfl, rfl, rfl, trivial⟩ ?_
  refine t_then ?_
  refine t_seq ?_
  refine t_region ?_
  refine t_val (r_move rfl) rfl ?_
  refine t_val (r_move rfl) rfl ?_
  refine t_val (r_ge rfl rfl) rfl ?_
  refine t_val (r_move rfl) rfl ?_
  apply t_group_and 4 (s := 10) (d := 14) rfl
  · intro hg1 K hK
    refine g_val hg1 rfl rfl (r_move rfl) rfl ?_
    refine g_val hg1 rfl rfl (r_move rfl) rfl ?_
    refine g_val hg1 rfl rfl (r_le rfl rfl) rfl ?_
    refine t_val (rp_t hg1 rfl rfl) rfl ?_
    iterate 3 refine Tr.weak2 rfl ?_
    exact hK _ (and_t hg1)
  · intro hg1 K hK
    refine g_skip hg1 rfl rfl rfl rfl ?_
    refine g_skip hg1 rfl rfl rfl rfl ?_
    refine g_skip hg1 rfl rfl rfl rfl ?_
    refine t_val (rp_f hg1 rfl rfl) rfl ?_
    iterate 3 refine Tr.weak2 rfl ?_
    exact hK _ (and_f hg1)
  refine t_val (r_assign rfl) rfl ?_
  refine t_nil ?_
  refine Tr.keep (env' := [(6, _)]) ⟨rfl, trivial⟩ ?_
  refine t_then ?_
  refine t_retc ?_
  refine t_ret1 rfl rfl (fun w hw => ?_)
  exact ⟨rfl, hw⟩
theorem indexFunc_item_c {A : Option Addr} {n c : Nat} {xs : List (List Value)} {F : FuncId} {fst cap : Array Value} (p : List Value → Bool) (he : Enters Tryz.prog F) (hs : SlRd w0 M 4 A n xs)
    (hf : ∀ x ∈ xs, ∀ w, Ok w0 M w → Calls Tryz.prog F (fst ++ #[.agg x.toArray] ++ cap) w (fun e w' => e = .returned (.bool (p x)) ∧ Ok w0 M w')) :
    ∀ w, Ok w0 M w → Calls Tryz.prog 231 #[.slice A n c, .func (.func F) fst cap] w (fun e w' => e = .returned (.int .i64 (idxOf p xs)) ∧ Ok w0 M w') := by
  have hbig := hs.big
  refine enter (vs := [_, _]) Tryz.func231 rfl Tryz.ntmps231 rfl ?_
  refine t_seq ?_
  refine t_region ?_
  refine t_val (r_assign rfl) rfl ?_
  refine t_nil ?_
  refine Tr.keep (env' := [(0, _), (1, _)]) ⟨rfl, rfl, trivial⟩ ?_
  refine t_then ?_
  refine t_seq ?_
  refine t_seq ?_
  refine t_region ?_
  refine t_val (r_move rfl) rfl ?_
  refine t_val (r_len_slice Tryz.underlying40 rfl) rfl ?_
  refine t_val (r_move rfl) rfl ?_
  refine t_nil ?_
  refine Tr.keep (env' := [(0, _), (1, _), (7, _), (8, _)]) ⟨rfl, rfl, rfl, rfl, trivial⟩ ?_
  refine t_then ?_
  refine t_block ?_
  refine t_loop (fun k : Nat => [(0, .slice A n c), (1, .func (.func F) fst cap), (7, .int .i64 (n : Int)), (8, .int .i64 (k : Int))]) (fun k : Nat => M) (fun k : Nat => k ≤ n ∧ (∀ j, j < k → ∀ y, xs[j]? = some y → p y = false)) (fun k : Nat => n - k) 0 ⟨by omega, by omega⟩ ⟨rfl, rfl, rfl, rfl, trivial⟩ (.refl _) ?_
  intro K k ⟨hk, hp⟩ IH
  refine t_seq ?_
  refine t_region ?_
  refine t_val (r_lt rfl rfl) rfl ?_
  refine t_nil ?_
  refine Tr.keep (env' := [(0, _), (1, _), (7, _), (8, _), (9, _)]) ⟨rfl, rfl, rfl, rfl, rfl, trivial⟩ ?_
  refine t_then ?_
  refine t_seq ?_
  refine t_cond rfl (fun hc1 => ?_) (fun hc1 => ?_)
  · have hlt : k < n := by simpa using hc1
    obtain ⟨b, o, hA, hrd⟩ := hs.at' (by omega)
    obtain ⟨x, hx⟩ : ∃ x, xs[k]? = some x := ⟨_, List.getElem?_eq_getElem (by rw [hs.len]; omega)⟩
    refine t_skip ?_
    refine t_then ?_
    refine t_seq ?_
    refine t_block ?_
    refine t_seq ?_
    refine t_region ?_
    refine t_val (r_move rfl) rfl ?_
    refine t_val (r_assign rfl) rfl ?_
    refine t_nil ?_
    refine Tr.keep (env' := [(0, _), (1, _), (5, _), (7, _), (8, _)]) ⟨rfl, rfl, rfl, rfl, rfl, trivial⟩ ?_
    refine t_then ?_
    refine t_seq ?_
    refine t_region ?_
    refine t_val (r_move rfl) rfl ?_
    refine t_val (r_move rfl) rfl ?_
    refine t_val (r_move rfl) rfl ?_
    refine t_val (r_ia_s k Tryz.underlying40 iz_107 hA rfl rfl rfl hlt) rfl ?_
    refine t_val (r_loads ca_107 rfl (fun j v hv => hrd k x hx j v hv) (hs.wide x (List.mem_of_getElem? hx))) rfl ?_
    refine t_eff rfl (e_pcall he rfl rfl rfl rfl (hf x (List.mem_of_getElem? hx)) ?_)
    refine t_nil ?_
    refine Tr.keep (env' := [(0, _), (1, _), (5, _), (7, _), (8, _), (16, _)]) ⟨rfl, rfl, rfl, rfl, rfl, rfl, trivial⟩ ?_
    refine t_then ?_
    refine t_cond rfl (fun hc2 => ?_) (fun hc2 => ?_)
    · skip
      refine t_seq ?_
      refine t_region ?_
      refine t_val (r_move rfl) rfl ?_
      refine t_val (r_assign rfl) rfl ?_
      refine t_nil ?_
      refine Tr.keep (env' := [(4, _)]) ⟨rfl, trivial⟩ ?_
      refine t_then ?_
      refine t_retc ?_
      refine t_in_ret ?_
      refine t_then_ret ?_
      refine t_then_ret ?_
      refine t_in_ret ?_
      refine t_then_ret ?_
      refine t_ret1 rfl rfl (fun w hw => ?_)
      refine ⟨?_, hw⟩
      rw [idxOf_at p xs k x hx hc2 hp]
    · skip
      refine t_skip ?_
      refine t_in ?_
      refine t_then ?_
      refine t_region ?_
      refine t_val (r_addi rfl rfl (by omega)) rfl ?_
      refine t_val (r_move rfl) rfl ?_
      refine t_nil ?_
      refine Tr.keep (env' := [(0, _), (1, _), (7, _), (8, _)]) ⟨rfl, rfl, rfl, rfl, trivial⟩ ?_
      refine t_then ?_
      refine t_K (IH (k + 1) ⟨by omega, fun j hj y hy => ?_⟩ (by omega)) ⟨rfl, rfl, rfl, rfl, trivial⟩ (.refl _)
      rcases Nat.lt_or_ge j k with h | h
      · exact hp j h y hy
      · obtain rfl : j = k := by omega
        rw [hx] at hy; cases hy; exact hc2
  · have hge : ¬ k < n := by simpa using hc1
    refine t_exit ?_
    refine t_then_exit ?_
    refine t_then_exit ?_
    refine t_in_hit ?_
    refine t_then ?_
    refine t_seq ?_
    refine t_region ?_
    refine t_val (r_assign rfl) rfl ?_
    refine t_nil ?_
    refine Tr.keep (env' := [(4, _)]) ⟨rfl, trivial⟩ ?_
    refine t_then ?_
    refine t_retc ?_
    refine t_ret1 rfl rfl (fun w hw => ?_)
    refine ⟨?_, hw⟩
    rw [idxOf_neg p xs (fun y hy => ?_)]
    obtain ⟨j, hj, rfl⟩ := List.getElem_of_mem hy
    exact hp j (by have := hs.len; omega) _ (List.getElem?_eq_getElem hj)
theorem containsFunc_item_c {A : Option Addr} {n c : Nat} {xs : List (List Value)} {F : FuncId} {fst cap : Array Value} (p : List Value → Bool) (he : Enters Tryz.prog F) (hs : SlRd w0 M 4 A n xs)
    (hf : ∀ x ∈ xs, ∀ w, Ok w0 M w → Calls Tryz.prog F (fst ++ #[.agg x.toArray] ++ cap) w (fun e w' => e = .returned (.bool (p x)) ∧ Ok w0 M w')) :
    ∀ w, Ok w0 M w → Calls Tryz.prog 167 #[.slice A n c, .func (.func F) fst cap] w (fun e w' => e = .returned (.bool (xs.any p)) ∧ Ok w0 M w') := by
  refine enter (vs := [_, _]) Tryz.func167 rfl Tryz.ntmps167 rfl ?_
  refine t_seq ?_
  refine t_region ?_
  refine t_val (r_assign rfl) rfl ?_
  refine t_nil ?_
  refine Tr.keep (env' := [(0, _), (1, _)]) ⟨rfl, rfl, trivial⟩ ?_
  refine t_then ?_
  refine t_seq ?_
  refine t_region ?_
  refine t_val (r_move rfl) rfl ?_
  refine t_val (r_move rfl) rfl ?_
  refine t_eff rfl (e_pcall en_231 rfl rfl rfl rfl (indexFunc_item_c p he hs hf) ?_)
  refine t_val (r_ge rfl rfl) rfl ?_
  refine t_val (r_assign rfl) rfl ?_
  refine t_nil ?_
  refine Tr.keep (env' := [(4, _)]) ⟨rfl, trivial⟩ ?_
  refine t_then ?_
  refine t_retc ?_
  refine t_ret1 rfl rfl (fun w hw => ?_)
  refine ⟨?_, hw⟩
  rw [idxOf_any]
theorem indexFunc_int_c {A : Option Addr} {n c : Nat} {xs : List (List Value)} {F : FuncId} {fst cap : Array Value} (p : List Value → Bool) (he : Enters Tryz.prog F) (hs : SlRd w0 M 1 A n xs)
    (hf : ∀ x ∈ xs, ∀ v, x = [v] → ∀ w, Ok w0 M w → Calls Tryz.prog F (fst ++ #[v] ++ cap) w (fun e w' => e = .returned (.bool (p x)) ∧ Ok w0 M w')) :
    ∀ w, Ok w0 M w → Calls Tryz.prog 282 #[.slice A n c, .func (.func F) fst cap] w (fun e w' => e = .returned (.int .i64 (idxOf p xs)) ∧ Ok w0 M w') := by
  have hbig := hs.big
  refine enter (vs := [_, _]) Tryz.func282 rfl Tryz.ntmps282 rfl ?_
  refine t_seq ?_
  refine t_region ?_
  refine t_val (r_assign rfl) rfl ?_
  refine t_nil ?_
  refine Tr.keep (env' := [(0, _), (1, _)]) ⟨rfl, rfl, trivial⟩ ?_
  refine t_then ?_
  refine t_seq ?_
  refine t_seq ?_
  refine t_region ?_
  refine t_val (r_move rfl) rfl ?_
  refine t_val (r_len_slice Tryz.underlying36 rfl) rfl ?_
  refine t_val (r_move rfl) rfl ?_
  refine t_nil ?_
  refine Tr.keep (env' := [(0, _), (1, _), (7, _), (8, _)]) ⟨rfl, rfl, rfl, rfl, trivial⟩ ?_
  refine t_then ?_
  refine t_block ?_
  refine t_loop (fun k : Nat => [(0, .slice A n c), (1, .func (.func F) fst cap), (7, .int .i64 (n : Int)), (8, .int .i64 (k : Int))]) (fun k : Nat => M) (fun k : Nat => k ≤ n ∧ (∀ j, j < k → ∀ y, xs[j]? = some y → p y = false)) (fun k : Nat => n - k) 0 ⟨by omega, by omega⟩ ⟨rfl, rfl, rfl, rfl, trivial⟩ (.refl _) ?_
  intro K k ⟨hk, hp⟩ IH
  refine t_seq ?_
  refine t_region ?_
  refine t_val (r_lt rfl rfl) rfl ?_
  refine t_nil ?_
  refine Tr.keep (env' := [(0, _), (1, _), (7, _), (8, _), (9, _)]) ⟨rfl, rfl, rfl, rfl, rfl, trivial⟩ ?_
  refine t_then ?_
  refine t_seq ?_
  refine t_cond rfl (fun hc1 => ?_) (fun hc1 => ?_)
  · have hlt : k < n := by simpa using hc1
    obtain ⟨b, o, hA, hrd⟩ := hs.at' (by omega)
    obtain ⟨x, hx⟩ : ∃ x, xs[k]? = some x := ⟨_, List.getElem?_eq_getElem (by rw [hs.len]; omega)⟩
    obtain ⟨v, hxv⟩ : ∃ v, x = [v] := List.length_eq_one_iff.1 (hs.wide x (List.mem_of_getElem? hx))
    refine t_skip ?_
    refine t_then ?_
    refine t_seq ?_
    refine t_block ?_
    refine t_seq ?_
    refine t_region ?_
    refine t_val (r_move rfl) rfl ?_
    refine t_val (r_assign rfl) rfl ?_
    refine t_nil ?_
    refine Tr.keep (env' := [(0, _), (1, _), (5, _), (7, _), (8, _)]) ⟨rfl, rfl, rfl, rfl, rfl, trivial⟩ ?_
    refine t_then ?_
    refine t_seq ?_
    refine t_region ?_
    refine t_val (r_move rfl) rfl ?_
    refine t_val (r_move rfl) rfl ?_
    refine t_val (r_move rfl) rfl ?_
    refine t_val (r_ia_s k Tryz.underlying36 iz_3 hA rfl rfl rfl hlt) rfl ?_
    refine t_val (r_load ca_3 rfl (hrd k x hx 0 v (by rw [hxv]; rfl))) rfl ?_
    refine t_eff rfl (e_pcall he rfl rfl rfl rfl (hf x (List.mem_of_getElem? hx) _ hxv) ?_)
    refine t_nil ?_
    refine Tr.keep (env' := [(0, _), (1, _), (5, _), (7, _), (8, _), (16, _)]) ⟨rfl, rfl, rfl, rfl, rfl, rfl, trivial⟩ ?_
    refine t_then ?_
    refine t_cond rfl (fun hc2 => ?_) (fun hc2 => ?_)
    · skip
      refine t_seq ?_
      refine t_region ?_
      refine t_val (r_move rfl) rfl ?_
      refine t_val (r_assign rfl) rfl ?_
      refine t_nil ?_
      refine Tr.keep (env' := [(4, _)]) ⟨rfl, trivial⟩ ?_
      refine t_then ?_
      refine t_retc ?_
      refine t_in_ret ?_
      refine t_then_ret ?_
      refine t_then_ret ?_
      refine t_in_ret ?_
      refine t_then_ret ?_
      refine t_ret1 rfl rfl (fun w hw => ?_)
      refine ⟨?_, hw⟩
      rw [idxOf_at p xs k x hx hc2 hp]
    · skip
      refine t_skip ?_
      refine t_in ?_
      refine t_then ?_
      refine t_region ?_
      refine t_val (r_addi rfl rfl (by omega)) rfl ?_
      refine t_val (r_move rfl) rfl ?_
      refine t_nil ?_
      refine Tr.keep (env' := [(0, _), (1, _), (7, _), (8, _)]) ⟨rfl, rfl, rfl, rfl, trivial⟩ ?_
      refine t_then ?_
      refine t_K (IH (k + 1) ⟨by omega, fun j hj y hy => ?_⟩ (by omega)) ⟨rfl, rfl, rfl, rfl, trivial⟩ (.refl _)
      rcases Nat.lt_or_ge j k with h | h
      · exact hp j h y hy
      · obtain rfl : j = k := by omega
        rw [hx] at hy; cases hy; exact hc2
  · have hge : ¬ k < n := by simpa using hc1
    refine t_exit ?_
    refine t_then_exit ?_
    refine t_then_exit ?_
    refine t_in_hit ?_
    refine t_then ?_
    refine t_seq ?_
    refine t_region ?_
    refine t_val (r_assign rfl) rfl ?_
    refine t_nil ?_
    refine Tr.keep (env' := [(4, _)]) ⟨rfl, trivial⟩ ?_
    refine t_then ?_
    refine t_retc ?_
    refine t_ret1 rfl rfl (fun w hw => ?_)
    refine ⟨?_, hw⟩
    rw [idxOf_neg p xs (fun y hy => ?_)]
    obtain ⟨j, hj, rfl⟩ := List.getElem_of_mem hy
    exact hp j (by have := hs.len; omega) _ (List.getElem?_eq_getElem hj)
theorem containsFunc_int_c {A : Option Addr} {n c : Nat} {xs : List (List Value)} {F : FuncId} {fst cap : Array Value} (p : List Value → Bool) (he : Enters Tryz.prog F) (hs : SlRd w0 M 1 A n xs)
    (hf : ∀ x ∈ xs, ∀ v, x = [v] → ∀ w, Ok w0 M w → Calls Tryz.prog F (fst ++ #[v] ++ cap) w (fun e w' => e = .returned (.bool (p x)) ∧ Ok w0 M w')) :
    ∀ w, Ok w0 M w → Calls Tryz.prog 232 #[.slice A n c, .func (.func F) fst cap] w (fun e w' => e = .returned (.bool (xs.any p)) ∧ Ok w0 M w') := by
  refine enter (vs := [_, _]) Tryz.func232 rfl Tryz.ntmps232 rfl ?_
  refine t_seq ?_
  refine t_region ?_
  refine t_val (r_assign rfl) rfl ?_
  refine t_nil ?_
  refine Tr.keep (env' := [(0, _), (1, _)]) ⟨rfl, rfl, trivial⟩ ?_
  refine t_then ?_
  refine t_seq ?_
  refine t_region ?_
  refine t_val (r_move rfl) rfl ?_
  refine t_val (r_move rfl) rfl ?_
  refine t_eff rfl (e_pcall en_282 rfl rfl rfl rfl (indexFunc_int_c p he hs hf) ?_)
  refine t_val (r_ge rfl rfl) rfl ?_
  refine t_val (r_assign rfl) rfl ?_
  refine t_nil ?_
  refine Tr.keep (env' := [(4, _)]) ⟨rfl, trivial⟩ ?_
  refine t_then ?_
  refine t_retc ?_
  refine t_ret1 rfl rfl (fun w hw => ?_)
  refine ⟨?_, hw⟩
  rw [idxOf_any]
theorem indexFunc_report_c {A : Option Addr} {n c : Nat} {xs : List (List Value)} {F : FuncId} {fst cap : Array Value} (p : List Value → Bool) (he : Enters Tryz.prog F) (hs : SlRd w0 M 7 A n xs)
    (hf : ∀ x ∈ xs, ∀ w, Ok w0 M w → Calls Tryz.prog F (fst ++ #[.agg x.toArray] ++ cap) w (fun e w' => e = .returned (.bool (p x)) ∧ Ok w0 M w')) :
    ∀ w, Ok w0 M w → Calls Tryz.prog 305 #[.slice A n c, .func (.func F) fst cap] w (fun e w' => e = .returned (.int .i64 (idxOf p xs)) ∧ Ok w0 M w') := by
  have hbig := hs.big
  refine enter (vs := [_, _]) Tryz.func305 rfl Tryz.ntmps305 rfl ?_
  refine t_seq ?_
  refine t_region ?_
  refine t_val (r_assign rfl) rfl ?_
  refine t_nil ?_
  refine Tr.keep (env' := [(0, _), (1, _)]) ⟨rfl, rfl, trivial⟩ ?_
  refine t_then ?_
  refine t_seq ?_
  refine t_seq ?_
  refine t_region ?_
  refine t_val (r_move rfl) rfl ?_
  refine t_val (r_len_slice Tryz.underlying221 rfl) rfl ?_
  refine t_val (r_move rfl) rfl ?_
  refine t_nil ?_
  refine Tr.keep (env' := [(0, _), (1, _), (7, _), (8, _)]) ⟨rfl, rfl, rfl, rfl, trivial⟩ ?_
  refine t_then ?_
  refine t_block ?_
  refine t_loop (fun k : Nat => [(0, .slice A n c), (1, .func (.func F) fst cap), (7, .int .i64 (n : Int)), (8, .int .i64 (k : Int))]) (fun k : Nat => M) (fun k : Nat => k ≤ n ∧ (∀ j, j < k → ∀ y, xs[j]? = some y → p y = false)) (fun k : Nat => n - k) 0 ⟨by omega, by omega⟩ ⟨rfl, rfl, rfl, rfl, trivial⟩ (.refl _) ?_
  intro K k ⟨hk, hp⟩ IH
  refine t_seq ?_
  refine t_region ?_
  refine t_val (r_lt rfl rfl) rfl ?_
  refine t_nil ?_
  refine Tr.keep (env' := [(0, _), (1, _), (7, _), (8, _), (9, _)]) ⟨rfl, rfl, rfl, rfl, rfl, trivial⟩ ?_
  refine t_then ?_
  refine t_seq ?_
  refine t_cond rfl (fun hc1 => ?_) (fun hc1 => ?_)
  · have hlt : k < n := by simpa using hc1
    obtain ⟨b, o, hA, hrd⟩ := hs.at' (by omega)
    obtain ⟨x, hx⟩ : ∃ x, xs[k]? = some x := ⟨_, List.getElem?_eq_getElem (by rw [hs.len]; omega)⟩
    refine t_skip ?_
    refine t_then ?_
    refine t_seq ?_
    refine t_block ?_
    refine t_seq ?_
    refine t_region ?_
    refine t_val (r_move rfl) rfl ?_
    refine t_val (r_assign rfl) rfl ?_
    refine t_nil ?_
    refine Tr.keep (env' := [(0, _), (1, _), (5, _), (7, _), (8, _)]) ⟨rfl, rfl, rfl, rfl, rfl, trivial⟩ ?_
    refine t_then ?_
    refine t_seq ?_
    refine t_region ?_
    refine t_val (r_move rfl) rfl ?_
    refine t_val (r_move rfl) rfl ?_
    refine t_val (r_move rfl) rfl ?_
    refine t_val (r_ia_s k Tryz.underlying221 iz_228 hA rfl rfl rfl hlt) rfl ?_
    refine t_val (r_loads ca_228 rfl (fun j v hv => hrd k x hx j v hv) (hs.wide x (List.mem_of_getElem? hx))) rfl ?_
    refine t_eff rfl (e_pcall he rfl rfl rfl rfl (hf x (List.mem_of_getElem? hx)) ?_)
    refine t_nil ?_
    refine Tr.keep (env' := [(0, _), (1, _), (5, _), (7, _), (8, _), (16, _)]) ⟨rfl, rfl, rfl, rfl, rfl, rfl, trivial⟩ ?_
    refine t_then ?_
    refine t_cond rfl (fun hc2 => ?_) (fun hc2 => ?_)
    · skip
      refine t_seq ?_
      refine t_region ?_
      refine t_val (r_move rfl) rfl ?_
      refine t_val (r_assign rfl) rfl ?_
      refine t_nil ?_
      refine Tr.keep (env' := [(4, _)]) ⟨rfl, trivial⟩ ?_
      refine t_then ?_
      refine t_retc ?_
      refine t_in_ret ?_
      refine t_then_ret ?_
      refine t_then_ret ?_
      refine t_in_ret ?_
      refine t_then_ret ?_
      refine t_ret1 rfl rfl (fun w hw => ?_)
      refine ⟨?_, hw⟩
      rw [idxOf_at p xs k x hx hc2 hp]
    · skip
      refine t_skip ?_
      refine t_in ?_
      refine t_then ?_
      refine t_region ?_
      refine t_val (r_addi rfl rfl (by omega)) rfl ?_
      refine t_val (r_move rfl) rfl ?_
      refine t_nil ?_
      refine Tr.keep (env' := [(0, _), (1, _), (7, _), (8, _)]) ⟨rfl, rfl, rfl, rfl, trivial⟩ ?_
      refine t_then ?_
      refine t_K (IH (k + 1) ⟨by omega, fun j hj y hy => ?_⟩ (by omega)) ⟨rfl, rfl, rfl, rfl, trivial⟩ (.refl _)
      rcases Nat.lt_or_ge j k with h | h
      · exact hp j h y hy
      · obtain rfl : j = k := by omega
        rw [hx] at hy; cases hy; exact hc2
  · have hge : ¬ k < n := by simpa using hc1
    refine t_exit ?_
    refine t_then_exit ?_
    refine t_then_exit ?_
    refine t_in_hit ?_
    refine t_then ?_
    refine t_seq ?_
    refine t_region ?_
    refine t_val (r_assign rfl) rfl ?_
    refine t_nil ?_
    refine Tr.keep (env' := [(4, _)]) ⟨rfl, trivial⟩ ?_
    refine t_then ?_
    refine t_retc ?_
    refine t_ret1 rfl rfl (fun w hw => ?_)
    refine ⟨?_, hw⟩
    rw [idxOf_neg p xs (fun y hy => ?_)]
    obtain ⟨j, hj, rfl⟩ := List.getElem_of_mem hy
    exact hp j (by have := hs.len; omega) _ (List.getElem?_eq_getElem hj)
theorem containsFunc_report_c {A : Option Addr} {n c : Nat} {xs : List (List Value)} {F : FuncId} {fst cap : Array Value} (p : List Value → Bool) (he : Enters Tryz.prog F) (hs : SlRd w0 M 7 A n xs)
    (hf : ∀ x ∈ xs, ∀ w, Ok w0 M w → Calls Tryz.prog F (fst ++ #[.agg x.toArray] ++ cap) w (fun e w' => e = .returned (.bool (p x)) ∧ Ok w0 M w')) :
    ∀ w, Ok w0 M w → Calls Tryz.prog 272 #[.slice A n c, .func (.func F) fst cap] w (fun e w' => e = .returned (.bool (xs.any p)) ∧ Ok w0 M w') := by
  refine enter (vs := [_, _]) Tryz.func272 rfl Tryz.ntmps272 rfl ?_
  refine t_seq ?_
  refine t_region ?_
  refine t_val (r_assign rfl) rfl ?_
  refine t_nil ?_
  refine Tr.keep (env' := [(0, _), (1, _)]) ⟨rfl, rfl, trivial⟩ ?_
  refine t_then ?_
  refine t_seq ?_
  refine t_region ?_
  refine t_val (r_move rfl) rfl ?_
  refine t_val (r_move rfl) rfl ?_
  refine t_eff rfl (e_pcall en_305 rfl rfl rfl rfl (indexFunc_report_c p he hs hf) ?_)
  refine t_val (r_ge rfl rfl) rfl ?_
  refine t_val (r_assign rfl) rfl ?_
  refine t_nil ?_
  refine Tr.keep (env' := [(4, _)]) ⟨rfl, trivial⟩ ?_
  refine t_then ?_
  refine t_retc ?_
  refine t_ret1 rfl rfl (fun w hw => ?_)
  refine ⟨?_, hw⟩
  rw [idxOf_any]
theorem indexFunc_source_c {A : Option Addr} {n c : Nat} {xs : List (List Value)} {F : FuncId} {fst cap : Array Value} (p : List Value → Bool) (he : Enters Tryz.prog F) (hs : SlRd w0 M 2 A n xs)
    (hf : ∀ x ∈ xs, ∀ w, Ok w0 M w → Calls Tryz.prog F (fst ++ #[.agg x.toArray] ++ cap) w (fun e w' => e = .returned (.bool (p x)) ∧ Ok w0 M w')) :
    ∀ w, Ok w0 M w → Calls Tryz.prog 283 #[.slice A n c, .func (.func F) fst cap] w (fun e w' => e = .returned (.int .i64 (idxOf p xs)) ∧ Ok w0 M w') := by
  have hbig := hs.big
  refine enter (vs := [_, _]) Tryz.func283 rfl Tryz.ntmps283 rfl ?_
  refine t_seq ?_
  refine t_region ?_
  refine t_val (r_assign rfl) rfl ?_
  refine t_nil ?_
  refine Tr.keep (env' := [(0, _), (1, _)]) ⟨rfl, rfl, trivial⟩ ?_
  refine t_then ?_
  refine t_seq ?_
  refine t_seq ?_
  refine t_region ?_
  refine t_val (r_move rfl) rfl ?_
  refine t_val (r_len_slice Tryz.underlying39 rfl) rfl ?_
  refine t_val (r_move rfl) rfl ?_
  refine t_nil ?_
  refine Tr.keep (env' := [(0, _), (1, _), (7, _), (8, _)]) ⟨rfl, rfl, rfl, rfl, trivial⟩ ?_
  refine t_then ?_
  refine t_block ?_
  refine t_loop (fun k : Nat => [(0, .slice A n c), (1, .func (.func F) fst cap), (7, .int .i64 (n : Int)), (8, .int .i64 (k : Int))]) (fun k : Nat => M) (fun k : Nat => k ≤ n ∧ (∀ j, j < k → ∀ y, xs[j]? = some y → p y = false)) (fun k : Nat => n - k) 0 ⟨by omega, by omega⟩ ⟨rfl, rfl, rfl, rfl, trivial⟩ (.refl _) ?_
  intro K k ⟨hk, hp⟩ IH
  refine t_seq ?_
  refine t_region ?_
  refine t_val (r_lt rfl rfl) rfl ?_
  refine t_nil ?_
  refine Tr.keep (env' := [(0, _), (1, _), (7, _), (8, _), (9, _)]) ⟨rfl, rfl, rfl, rfl, rfl, trivial⟩ ?_
  refine t_then ?_
  refine t_seq ?_
  refine t_cond rfl (fun hc1 => ?_) (fun hc1 => ?_)
  · have hlt : k < n := by simpa using hc1
    obtain ⟨b, o, hA, hrd⟩ := hs.at' (by omega)
    obtain ⟨x, hx⟩ : ∃ x, xs[k]? = some x := ⟨_, List.getElem?_eq_getElem (by rw [hs.len]; omega)⟩
    refine t_skip ?_
    refine t_then ?_
    refine t_seq ?_
    refine t_block ?_
    refine t_seq ?_
    refine t_region ?_
    refine t_val (r_move rfl) rfl ?_
    refine t_val (r_assign rfl) rfl ?_
    refine t_nil ?_
    refine Tr.keep (env' := [(0, _), (1, _), (5, _), (7, _), (8, _)]) ⟨rfl, rfl, rfl, rfl, rfl, trivial⟩ ?_
    refine t_then ?_
    refine t_seq ?_
    refine t_region ?_
    refine t_val (r_move rfl) rfl ?_
    refine t_val (r_move rfl) rfl ?_
    refine t_val (r_move rfl) rfl ?_
    refine t_val (r_ia_s k Tryz.underlying39 iz_110 hA rfl rfl rfl hlt) rfl ?_
    refine t_val (r_loads ca_110 rfl (fun j v hv => hrd k x hx j v hv) (hs.wide x (List.mem_of_getElem? hx))) rfl ?_
    refine t_eff rfl (e_pcall he rfl rfl rfl rfl (hf x (List.mem_of_getElem? hx)) ?_)
    refine t_nil ?_
    refine Tr.keep (env' := [(0, _), (1, _), (5, _), (7, _), (8, _), (16, _)]) ⟨rfl, rfl, rfl, rfl, rfl, rfl, trivial⟩ ?_
    refine t_then ?_
    refine t_cond rfl (fun hc2 => ?_) (fun hc2 => ?_)
    · skip
      refine t_seq ?_
      refine t_region ?_
      refine t_val (r_move rfl) rfl ?_
      refine t_val (r_assign rfl) rfl ?_
      refine t_nil ?_
      refine Tr.keep (env' := [(4, _)]) ⟨rfl, trivial⟩ ?_
      refine t_then ?_
      refine t_retc ?_
      refine t_in_ret ?_
      refine t_then_ret ?_
      refine t_then_ret ?_
      refine t_in_ret ?_
      refine t_then_ret ?_
      refine t_ret1 rfl rfl (fun w hw => ?_)
      refine ⟨?_, hw⟩
      rw [idxOf_at p xs k x hx hc2 hp]
    · skip
      refine t_skip ?_
      refine t_in ?_
      refine t_then ?_
      refine t_region ?_
      refine t_val (r_addi rfl rfl (by omega)) rfl ?_
      refine t_val (r_move rfl) rfl ?_
      refine t_nil ?_
      refine Tr.keep (env' := [(0, _), (1, _), (7, _), (8, _)]) ⟨rfl, rfl, rfl, rfl, trivial⟩ ?_
      refine t_then ?_
      refine t_K (IH (k + 1) ⟨by omega, fun j hj y hy => ?_⟩ (by omega)) ⟨rfl, rfl, rfl, rfl, trivial⟩ (.refl _)
      rcases Nat.lt_or_ge j k with h | h
      · exact hp j h y hy
      · obtain rfl : j = k := by omega
        rw [hx] at hy; cases hy; exact hc2
  · have hge : ¬ k < n := by simpa using hc1
    refine t_exit ?_
    refine t_then_exit ?_
    refine t_then_exit ?_
    refine t_in_hit ?_
    refine t_then ?_
    refine t_seq ?_
    refine t_region ?_
    refine t_val (r_assign rfl) rfl ?_
    refine t_nil ?_
    refine Tr.keep (env' := [(4, _)]) ⟨rfl, trivial⟩ ?_
    refine t_then ?_
    refine t_retc ?_
    refine t_ret1 rfl rfl (fun w hw => ?_)
    refine ⟨?_, hw⟩
    rw [idxOf_neg p xs (fun y hy => ?_)]
    obtain ⟨j, hj, rfl⟩ := List.getElem_of_mem hy
    exact hp j (by have := hs.len; omega) _ (List.getElem?_eq_getElem hj)
theorem containsFunc_source_c {A : Option Addr} {n c : Nat} {xs : List (List Value)} {F : FuncId} {fst cap : Array Value} (p : List Value → Bool) (he : Enters Tryz.prog F) (hs : SlRd w0 M 2 A n xs)
    (hf : ∀ x ∈ xs, ∀ w, Ok w0 M w → Calls Tryz.prog F (fst ++ #[.agg x.toArray] ++ cap) w (fun e w' => e = .returned (.bool (p x)) ∧ Ok w0 M w')) :
    ∀ w, Ok w0 M w → Calls Tryz.prog 234 #[.slice A n c, .func (.func F) fst cap] w (fun e w' => e = .returned (.bool (xs.any p)) ∧ Ok w0 M w') := by
  refine enter (vs := [_, _]) Tryz.func234 rfl Tryz.ntmps234 rfl ?_
  refine t_seq ?_
  refine t_region ?_
  refine t_val (r_assign rfl) rfl ?_
  refine t_nil ?_
  refine Tr.keep (env' := [(0, _), (1, _)]) ⟨rfl, rfl, trivial⟩ ?_
  refine t_then ?_
  refine t_seq ?_
  refine t_region ?_
  refine t_val (r_move rfl) rfl ?_
  refine t_val (r_move rfl) rfl ?_
  refine t_eff rfl (e_pcall en_283 rfl rfl rfl rfl (indexFunc_source_c p he hs hf) ?_)
  refine t_val (r_ge rfl rfl) rfl ?_
  refine t_val (r_assign rfl) rfl ?_
  refine t_nil ?_
  refine Tr.keep (env' := [(4, _)]) ⟨rfl, trivial⟩ ?_
  refine t_then ?_
  refine t_retc ?_
  refine t_ret1 rfl rfl (fun w hw => ?_)
  refine ⟨?_, hw⟩
  rw [idxOf_any]
theorem indexFunc_latest_c {A : Option Addr} {n c : Nat} {xs : List (List Value)} {F : FuncId} {fst cap : Array Value} (p : List Value → Bool) (he : Enters Tryz.prog F) (hs : SlRd w0 M 3 A n xs)
    (hf : ∀ x ∈ xs, ∀ w, Ok w0 M w → Calls Tryz.prog F (fst ++ #[.agg x.toArray] ++ cap) w (fun e w' => e = .returned (.bool (p x)) ∧ Ok w0 M w')) :
    ∀ w, Ok w0 M w → Calls Tryz.prog 183 #[.slice A n c, .func (.func F) fst cap] w (fun e w' => e = .returned (.int .i64 (idxOf p xs)) ∧ Ok w0 M w') := by
  have hbig := hs.big
  refine enter (vs := [_, _]) Tryz.func183 rfl Tryz.ntmps183 rfl ?_
  refine t_seq ?_
  refine t_region ?_
  refine t_val (r_assign rfl) rfl ?_
  refine t_nil ?_
  refine Tr.keep (env' := [(0, _), (1, _)]) ⟨rfl, rfl, trivial⟩ ?_
  refine t_then ?_
  refine t_seq ?_
  refine t_seq ?_
  refine t_region ?_
  refine t_val (r_move rfl) rfl ?_
  refine t_val (r_len_slice Tryz.underlying118 rfl) rfl ?_
  refine t_val (r_move rfl) rfl ?_
  refine t_nil ?_
  refine Tr.keep (env' := [(0, _), (1, _), (7, _), (8, _)]) ⟨rfl, rfl, rfl, rfl, trivial⟩ ?_
  refine t_then ?_
  refine t_block ?_
  refine t_loop (fun k : Nat => [(0, .slice A n c), (1, .func (.func F) fst cap), (7, .int .i64 (n : Int)), (8, .int .i64 (k : Int))]) (fun k : Nat => M) (fun k : Nat => k ≤ n ∧ (∀ j, j < k → ∀ y, xs[j]? = some y → p y = false)) (fun k : Nat => n - k) 0 ⟨by omega, by omega⟩ ⟨rfl, rfl, rfl, rfl, trivial⟩ (.refl _) ?_
  intro K k ⟨hk, hp⟩ IH
  refine t_seq ?_
  refine t_region ?_
  refine t_val (r_lt rfl rfl) rfl ?_
  refine t_nil ?_
  refine Tr.keep (env' := [(0, _), (1, _), (7, _), (8, _), (9, _)]) ⟨rfl, rfl, rfl, rfl, rfl, trivial⟩ ?_
  refine t_then ?_
  refine t_seq ?_
  refine t_cond rfl (fun hc1 => ?_) (fun hc1 => ?_)
  · have hlt : k < n := by simpa using hc1
    obtain ⟨b, o, hA, hrd⟩ := hs.at' (by omega)
    obtain ⟨x, hx⟩ : ∃ x, xs[k]? = some x := ⟨_, List.getElem?_eq_getElem (by rw [hs.len]; omega)⟩
    refine t_skip ?_
    refine t_then ?_
    refine t_seq ?_
    refine t_block ?_
    refine t_seq ?_
    refine t_region ?_
    refine t_val (r_move rfl) rfl ?_
    refine t_val (r_assign rfl) rfl ?_
    refine t_nil ?_
    refine Tr.keep (env' := [(0, _), (1, _), (5, _), (7, _), (8, _)]) ⟨rfl, rfl, rfl, rfl, rfl, trivial⟩ ?_
    refine t_then ?_
    refine t_seq ?_
    refine t_region ?_
    refine t_val (r_move rfl) rfl ?_
    refine t_val (r_move rfl) rfl ?_
    refine t_val (r_move rfl) rfl ?_
    refine t_val (r_ia_s k Tryz.underlying118 iz_116 hA rfl rfl rfl hlt) rfl ?_
    refine t_val (r_loads ca_116 rfl (fun j v hv => hrd k x hx j v hv) (hs.wide x (List.mem_of_getElem? hx))) rfl ?_
    refine t_eff rfl (e_pcall he rfl rfl rfl rfl (hf x (List.mem_of_getElem? hx)) ?_)
    refine t_nil ?_
    refine Tr.keep (env' := [(0, _), (1, _), (5, _), (7, _), (8, _), (16, _)]) ⟨rfl, rfl, rfl, rfl, rfl, rfl, trivial⟩ ?_
    refine t_then ?_
    refine t_cond rfl (fun hc2 => ?_) (fun hc2 => ?_)
    · skip
      refine t_seq ?_
      refine t_region ?_
      refine t_val (r_move rfl) rfl ?_
      refine t_val (r_assign rfl) rfl ?_
      refine t_nil ?_
      refine Tr.keep (env' := [(4, _)]) ⟨rfl, trivial⟩ ?_
      refine t_then ?_
      refine t_retc ?_
      refine t_in_ret ?_
      refine t_then_ret ?_
      refine t_then_ret ?_
      refine t_in_ret ?_
      refine t_then_ret ?_
      refine t_ret1 rfl rfl (fun w hw => ?_)
      refine ⟨?_, hw⟩
      rw [idxOf_at p xs k x hx hc2 hp]
    · skip
      refine t_skip ?_
      refine t_in ?_
      refine t_then ?_
      refine t_region ?_
      refine t_val (r_addi rfl rfl (by omega)) rfl ?_
      refine t_val (r_move rfl) rfl ?_
      refine t_nil ?_
      refine Tr.keep (env' := [(0, _), (1, _), (7, _), (8, _)]) ⟨rfl, rfl, rfl, rfl, trivial⟩ ?_
      refine t_then ?_
      refine t_K (IH (k + 1) ⟨by omega, fun j hj y hy => ?_⟩ (by omega)) ⟨rfl, rfl, rfl, rfl, trivial⟩ (.refl _)
      rcases Nat.lt_or_ge j k with h | h
      · exact hp j h y hy
      · obtain rfl : j = k := by omega
        rw [hx] at hy; cases hy; exact hc2
  · have hge : ¬ k < n := by simpa using hc1
    refine t_exit ?_
    refine t_then_exit ?_
    refine t_then_exit ?_
    refine t_in_hit ?_
    refine t_then ?_
    refine t_seq ?_
    refine t_region ?_
    refine t_val (r_assign rfl) rfl ?_
    refine t_nil ?_
    refine Tr.keep (env' := [(4, _)]) ⟨rfl, trivial⟩ ?_
    refine t_then ?_
    refine t_retc ?_
    refine t_ret1 rfl rfl (fun w hw => ?_)
    refine ⟨?_, hw⟩
    rw [idxOf_neg p xs (fun y hy => ?_)]
    obtain ⟨j, hj, rfl⟩ := List.getElem_of_mem hy
    exact hp j (by have := hs.len; omega) _ (List.getElem?_eq_getElem hj)
theorem containsFunc_latest_c {A : Option Addr} {n c : Nat} {xs : List (List Value)} {F : FuncId} {fst cap : Array Value} (p : List Value → Bool) (he : Enters Tryz.prog F) (hs : SlRd w0 M 3 A n xs)
    (hf : ∀ x ∈ xs, ∀ w, Ok w0 M w → Calls Tryz.prog F (fst ++ #[.agg x.toArray] ++ cap) w (fun e w' => e = .returned (.bool (p x)) ∧ Ok w0 M w')) :
    ∀ w, Ok w0 M w → Calls Tryz.prog 101 #[.slice A n c, .func (.func F) fst cap] w (fun e w' => e = .returned (.bool (xs.any p)) ∧ Ok w0 M w') := by
  refine enter (vs := [_, _]) Tryz.func101 rfl Tryz.ntmps101 rfl ?_
  refine t_seq ?_
  refine t_region ?_
  refine t_val (r_assign rfl) rfl ?_
  refine t_nil ?_
  refine Tr.keep (env' := [(0, _), (1, _)]) ⟨rfl, rfl, trivial⟩ ?_
  refine t_then ?_
  refine t_seq ?_
  refine t_region ?_
  refine t_val (r_move rfl) rfl ?_
  refine t_val (r_move rfl) rfl ?_
  refine t_eff rfl (e_pcall en_183 rfl rfl rfl rfl (indexFunc_latest_c p he hs hf) ?_)
  refine t_val (r_ge rfl rfl) rfl ?_
  refine t_val (r_assign rfl) rfl ?_
  refine t_nil ?_
  refine Tr.keep (env' := [(4, _)]) ⟨rfl, trivial⟩ ?_
  refine t_then ?_
  refine t_retc ?_
  refine t_ret1 rfl rfl (fun w hw => ?_)
  refine ⟨?_, hw⟩
  rw [idxOf_any]
theorem indexFunc_gstate_c {A : Option Addr} {n c : Nat} {xs : List (List Value)} {F : FuncId} {fst cap : Array Value} (p : List Value → Bool) (he : Enters Tryz.prog F) (hs : SlRd w0 M 5 A n xs)
    (hf : ∀ x ∈ xs, ∀ w, Ok w0 M w → Calls Tryz.prog F (fst ++ #[.agg x.toArray] ++ cap) w (fun e w' => e = .returned (.bool (p x)) ∧ Ok w0 M w')) :
    ∀ w, Ok w0 M w → Calls Tryz.prog 185 #[.slice A n c, .func (.func F) fst cap] w (fun e w' => e = .returned (.int .i64 (idxOf p xs)) ∧ Ok w0 M w') := by
  have hbig := hs.big
  refine enter (vs := [_, _]) Tryz.func185 rfl Tryz.ntmps185 rfl ?_
  refine t_seq ?_
  refine t_region ?_
  refine t_val (r_assign rfl) rfl ?_
  refine t_nil ?_
  refine Tr.keep (env' := [(0, _), (1, _)]) ⟨rfl, rfl, trivial⟩ ?_
  refine t_then ?_
  refine t_seq ?_
  refine t_seq ?_
  refine t_region ?_
  refine t_val (r_move rfl) rfl ?_
  refine t_val (r_len_slice Tryz.underlying119 rfl) rfl ?_
  refine t_val (r_move rfl) rfl ?_
  refine t_nil ?_
  refine Tr.keep (env' := [(0, _), (1, _), (7, _), (8, _)]) ⟨rfl, rfl, rfl, rfl, trivial⟩ ?_
  refine t_then ?_
  refine t_block ?_
  refine t_loop (fun k : Nat => [(0, .slice A n c), (1, .func (.func F) fst cap), (7, .int .i64 (n : Int)), (8, .int .i64 (k : Int))]) (fun k : Nat => M) (fun k : Nat => k ≤ n ∧ (∀ j, j < k → ∀ y, xs[j]? = some y → p y = false)) (fun k : Nat => n - k) 0 ⟨by omega, by omega⟩ ⟨rfl, rfl, rfl, rfl, trivial⟩ (.refl _) ?_
  intro K k ⟨hk, hp⟩ IH
  refine t_seq ?_
  refine t_region ?_
  refine t_val (r_lt rfl rfl) rfl ?_
  refine t_nil ?_
  refine Tr.keep (env' := [(0, _), (1, _), (7, _), (8, _), (9, _)]) ⟨rfl, rfl, rfl, rfl, rfl, trivial⟩ ?_
  refine t_then ?_
  refine t_seq ?_
  refine t_cond rfl (fun hc1 => ?_) (fun hc1 => ?_)
  · have hlt : k < n := by simpa using hc1
    obtain ⟨b, o, hA, hrd⟩ := hs.at' (by omega)
    obtain ⟨x, hx⟩ : ∃ x, xs[k]? = some x := ⟨_, List.getElem?_eq_getElem (by rw [hs.len]; omega)⟩
    refine t_skip ?_
    refine t_then ?_
    refine t_seq ?_
    refine t_block ?_
    refine t_seq ?_
    refine t_region ?_
    refine t_val (r_move rfl) rfl ?_
    refine t_val (r_assign rfl) rfl ?_
    refine t_nil ?_
    refine Tr.keep (env' := [(0, _), (1, _), (5, _), (7, _), (8, _)]) ⟨rfl, rfl, rfl, rfl, rfl, trivial⟩ ?_
    refine t_then ?_
    refine t_seq ?_
    refine t_region ?_
    refine t_val (r_move rfl) rfl ?_
    refine t_val (r_move rfl) rfl ?_
    refine t_val (r_move rfl) rfl ?_
    refine t_val (r_ia_s k Tryz.underlying119 iz_218 hA rfl rfl rfl hlt) rfl ?_
    refine t_val (r_loads ca_218 rfl (fun j v hv => hrd k x hx j v hv) (hs.wide x (List.mem_of_getElem? hx))) rfl ?_
    refine t_eff rfl (e_pcall he rfl rfl rfl rfl (hf x (List.mem_of_getElem? hx)) ?_)
    refine t_nil ?_
    refine Tr.keep (env' := [(0, _), (1, _), (5, _), (7, _), (8, _), (16, _)]) ⟨rfl, rfl, rfl, rfl, rfl, rfl, trivial⟩ ?_
    refine t_then ?_
    refine t_cond rfl (fun hc2 => ?_) (fun hc2 => ?_)
    · skip
      refine t_seq ?_
      refine t_region ?_
      refine t_val (r_move rfl) rfl ?_
      refine t_val (r_assign rfl) rfl ?_
      refine t_nil ?_
      refine Tr.keep (env' := [(4, _)]) ⟨rfl, trivial⟩ ?_
      refine t_then ?_
      refine t_retc ?_
      refine t_in_ret ?_
      refine t_then_ret ?_
      refine t_then_ret ?_
      refine t_in_ret ?_
      refine t_then_ret ?_
      refine t_ret1 rfl rfl (fun w hw => ?_)
      refine ⟨?_, hw⟩
      rw [idxOf_at p xs k x hx hc2 hp]
    · skip
      refine t_skip ?_
      refine t_in ?_
      refine t_then ?_
      refine t_region ?_
      refine t_val (r_addi rfl rfl (by omega)) rfl ?_
      refine t_val (r_move rfl) rfl ?_
      refine t_nil ?_
      refine Tr.keep (env' := [(0, _), (1, _), (7, _), (8, _)]) ⟨rfl, rfl, rfl, rfl, trivial⟩ ?_
      refine t_then ?_
      refine t_K (IH (k + 1) ⟨by omega, fun j hj y hy => ?_⟩ (by omega)) ⟨rfl, rfl, rfl, rfl, trivial⟩ (.refl _)
      rcases Nat.lt_or_ge j k with h | h
      · exact hp j h y hy
      · obtain rfl : j = k := by omega
        rw [hx] at hy; cases hy; exact hc2
  · have hge : ¬ k < n := by simpa using hc1
    refine t_exit ?_
    refine t_then_exit ?_
    refine t_then_exit ?_
    refine t_in_hit ?_
    refine t_then ?_
    refine t_seq ?_
    refine t_region ?_
    refine t_val (r_assign rfl) rfl ?_
    refine t_nil ?_
    refine Tr.keep (env' := [(4, _)]) ⟨rfl, trivial⟩ ?_
    refine t_then ?_
    refine t_retc ?_
    refine t_ret1 rfl rfl (fun w hw => ?_)
    refine ⟨?_, hw⟩
    rw [idxOf_neg p xs (fun y hy => ?_)]
    obtain ⟨j, hj, rfl⟩ := List.getElem_of_mem hy
    exact hp j (by have := hs.len; omega) _ (List.getElem?_eq_getElem hj)
theorem containsFunc_gstate_c {A : Option Addr} {n c : Nat} {xs : List (List Value)} {F : FuncId} {fst cap : Array Value} (p : List Value → Bool) (he : Enters Tryz.prog F) (hs : SlRd w0 M 5 A n xs)
    (hf : ∀ x ∈ xs, ∀ w, Ok w0 M w → Calls Tryz.prog F (fst ++ #[.agg x.toArray] ++ cap) w (fun e w' => e = .returned (.bool (p x)) ∧ Ok w0 M w')) :
    ∀ w, Ok w0 M w → Calls Tryz.prog 108 #[.slice A n c, .func (.func F) fst cap] w (fun e w' => e = .returned (.bool (xs.any p)) ∧ Ok w0 M w') := by
  refine enter (vs := [_, _]) Tryz.func108 rfl Tryz.ntmps108 rfl ?_
  refine t_seq ?_
  refine t_region ?_
  refine t_val (r_assign rfl) rfl ?_
  refine t_nil ?_
  refine Tr.keep (env' := [(0, _), (1, _)]) ⟨rfl, rfl, trivial⟩ ?_
  refine t_then ?_
  refine t_seq ?_
  refine t_region ?_
  refine t_val (r_move rfl) rfl ?_
  refine t_val (r_move rfl) rfl ?_
  refine t_eff rfl (e_pcall en_185 rfl rfl rfl rfl (indexFunc_gstate_c p he hs hf) ?_)
  refine t_val (r_ge rfl rfl) rfl ?_
  refine t_val (r_assign rfl) rfl ?_
  refine t_nil ?_
  refine Tr.keep (env' := [(4, _)]) ⟨rfl, trivial⟩ ?_
  refine t_then ?_
  refine t_retc ?_
  refine t_ret1 rfl rfl (fun w hw => ?_)
  refine ⟨?_, hw⟩
  rw [idxOf_any]
end
end Go.Proofs.W
set_option linter.unusedVariables false
set_option linter.unusedSimpArgs false
set_option linter.unusedSectionVars false
set_option maxRecDepth 100000
namespace Go.Proofs.W
open Go Go.Sl Go.RowKit Go.Proofs
theorem ca_4 : cellsAs Tryz.prog 4 = some (none) := by kernel_rfl
theorem fo_116_0 : fieldOff Tryz.prog 116 0 = some 0 := by kernel_rfl
theorem fo_116_1 : fieldOff Tryz.prog 116 1 = some 1 := by kernel_rfl
theorem fo_116_2 : fieldOff Tryz.prog 116 2 = some 2 := by kernel_rfl
theorem iz_4 : (Tryz.prog.info? 4).map (·.size) = some 1 := by kernel_rfl
structure Latest where
  value : Bool
  second : Int
  heard : Bool
def Latest.cells (l : Latest) : List Value := [.bool l.value, .int .i64 l.second, .bool l.heard]
def Latest.hear (l : Latest) (v : Bool) (s : Int) (bad : Bool) : Latest :=
  ⟨bif (!l.heard || decide (l.second < s)) || ((s == l.second) && (v == bad)) then v else l.value, max l.second s, true⟩
section
variable {w0 : World} {M : List Ent}
theorem latest_hear_c (b : Nat) (T : TypeId) (A B : List Ent) (pre post : List Value) (x : Latest) (v bad : Bool) (s : Int) : ∀ w, Ok w0 (A ++ cel b T (pre ++ (x.cells ++ post)) :: B) w →
    Calls Tryz.prog 271 #[.pointer (some ⟨b, pre.length, none⟩), .bool v, .int .i64 s, .bool bad] w (fun e w' => e = .returned (.tuple #[]) ∧ Ok w0 (A ++ cel b T (pre ++ ((x.hear v s bad).cells ++ post)) :: B) w') := by
  refine enter (vs := [_, _, _, _]) Tryz.func271 rfl Tryz.ntmps271 rfl ?_
  refine t_seq ?_
  refine t_seq ?_
  refine t_region ?_
  refine t_val (r_move rfl) rfl ?_
  refine t_val (r_nilCheck rfl) rfl ?_
  refine t_val (r_fa fo_116_2 rfl) rfl ?_
  refine t_val (r_load ca_4 rfl (rd_m (List.mem_append_right _ (.head _)) (get_app rfl))) rfl ?_
  refine t_val (r_not rfl) rfl ?_
  refine t_val (r_move rfl) rfl ?_
  apply t_group_or 7 (s := 13) (d := 20) rfl
  · intro hg1 K hK
    refine g_val hg1 rfl rfl (r_move rfl) rfl ?_
    refine g_val hg1 rfl rfl (r_move rfl) rfl ?_
    refine g_val hg1 rfl rfl (r_nilCheck rfl) rfl ?_
    refine g_val hg1 rfl rfl (r_fa fo_116_1 rfl) rfl ?_
    refine g_val hg1 rfl rfl (r_load ca_3 rfl (rd_m (List.mem_append_right _ (.head _)) (get_app rfl))) rfl ?_
    refine g_val hg1 rfl rfl (r_gt rfl rfl) rfl ?_
    refine t_val (rp_f hg1 rfl rfl) rfl ?_
    iterate 6 refine Tr.weak2 rfl ?_
    exact hK _ (or_f hg1)
  · intro hg1 K hK
    refine g_skip hg1 rfl rfl rfl rfl ?_
    refine g_skip hg1 rfl rfl rfl rfl ?_
    refine g_skip hg1 rfl rfl rfl rfl ?_
    refine g_skip hg1 rfl rfl rfl rfl ?_
    refine g_skip hg1 rfl rfl rfl rfl ?_
    refine g_skip hg1 rfl rfl rfl rfl ?_
    refine t_val (rp_t hg1 rfl rfl) rfl ?_
    iterate 6 refine Tr.weak2 rfl ?_
    exact hK _ (or_t hg1)
  refine t_val (r_move rfl) rfl ?_
  apply t_group_or 12 (s := 21) (d := 33) rfl
  · intro hg2 K hK
    refine g_val hg2 rfl rfl (r_move rfl) rfl ?_
    refine g_val hg2 rfl rfl (r_move rfl) rfl ?_
    refine g_val hg2 rfl rfl (r_nilCheck rfl) rfl ?_
    refine g_val hg2 rfl rfl (r_fa fo_116_1 rfl) rfl ?_
    refine g_val hg2 rfl rfl (r_load ca_3 rfl (rd_m (List.mem_append_right _ (.head _)) (get_app rfl))) rfl ?_
    refine g_val hg2 rfl rfl (r_eq rfl rfl) rfl ?_
    refine g_val hg2 rfl rfl (r_move rfl) rfl ?_
    apply t_group_and 4 (s := 28) (d := 32) rfl
    · intro hg3 K hK
      refine g_val hg3 rfl rfl (r_move rfl) rfl ?_
      refine g_val hg3 rfl rfl (r_move rfl) rfl ?_
      refine g_val hg3 rfl rfl (r_eqb Tryz.underlying4 rfl rfl) rfl ?_
      refine g_val hg2 rfl rfl (rp_t hg3 rfl rfl) rfl ?_
      iterate 3 refine Tr.weak2 rfl ?_
      exact hK _ (and_t hg3)
    · intro hg3 K hK
      refine g_skip hg3 rfl rfl rfl rfl ?_
      refine g_skip hg3 rfl rfl rfl rfl ?_
      refine g_skip hg3 rfl rfl rfl rfl ?_
      refine g_val hg2 rfl rfl (rp_f hg3 rfl rfl) rfl ?_
      iterate 3 refine Tr.weak2 rfl ?_
      exact hK _ (and_f hg3)
    refine t_val (rp_f hg2 rfl rfl) rfl ?_
    iterate 8 refine Tr.weak2 rfl ?_
    exact hK _ (or_f hg2)
  · intro hg2 K hK
    refine g_skip hg2 rfl rfl rfl rfl ?_
    refine g_skip hg2 rfl rfl rfl rfl ?_
    refine g_skip hg2 rfl rfl rfl rfl ?_
    refine g_skip hg2 rfl rfl rfl rfl ?_
    refine g_skip hg2 rfl rfl rfl rfl ?_
    refine g_skip hg2 rfl rfl rfl rfl ?_
    refine g_skip hg2 rfl rfl rfl rfl ?_
    refine t_gskip0 rfl rfl rfl ?_
    refine t_gskip0 rfl rfl rfl ?_
    refine t_gskip0 rfl rfl rfl ?_
    refine g_skip hg2 rfl rfl rfl rfl ?_
    refine t_val (rp_t hg2 rfl rfl) rfl ?_
    iterate 11 refine Tr.weak2 rfl ?_
    exact hK _ (or_t hg2)
  refine t_nil ?_
  refine Tr.keep (env' := [(0, _), (1, _), (2, _), (33, _)]) ⟨rfl, rfl, rfl, rfl, trivial⟩ ?_
  refine t_then ?_
  refine t_cond rfl (fun hc => ?_) (fun hc => ?_)
  · skip
    refine t_region ?_
    refine t_val (r_move rfl) rfl ?_
    refine t_val (r_move rfl) rfl ?_
    refine t_val (r_nilCheck rfl) rfl ?_
    refine t_val (r_fa fo_116_0 rfl) rfl ?_
    refine t_eff rfl (e_store iz_4 rfl rfl rfl (.app .zero) (.right .here) ?_)
    refine t_nil ?_
    refine Tr.keep (env' := [(0, _), (2, _)]) ⟨rfl, rfl, trivial⟩ ?_
    refine t_then ?_
    refine t_seq ?_
    refine t_region ?_
    refine t_val (r_move rfl) rfl ?_
    refine t_val (r_move rfl) rfl ?_
    refine t_val (r_nilCheck rfl) rfl ?_
    refine t_val (r_fa fo_116_1 rfl) rfl ?_
    refine t_val (r_load ca_3 rfl (rd_m (List.mem_append_right _ (.head _)) (get_app rfl))) rfl ?_
    refine t_val (r_move rfl) rfl ?_
    refine t_val (r_max rfl rfl) rfl ?_
    refine t_val (r_nilCheck rfl) rfl ?_
    refine t_val (r_fa fo_116_1 rfl) rfl ?_
    refine t_eff rfl (e_store iz_3 rfl rfl rfl (.app (.succ .zero)) (.right .here) ?_)
    refine t_nil ?_
    refine Tr.keep (env' := [(0, _)]) ⟨rfl, trivial⟩ ?_
    refine t_then ?_
    refine t_region ?_
    refine t_val (r_move rfl) rfl ?_
    refine t_val (r_nilCheck rfl) rfl ?_
    refine t_val (r_fa fo_116_2 rfl) rfl ?_
    refine t_eff rfl (e_store iz_4 rfl rfl rfl (.app (.succ (.succ .zero))) (.right .here) ?_)
    refine t_nil ?_
    refine Tr.keep (env' := []) trivial ?_
    refine t_end0 rfl (fun w hw => ?_)
    refine ⟨rfl, ?_⟩
    simpa [Latest.hear, Latest.cells, hc] using hw
  · skip
    refine t_skip ?_
    refine t_then ?_
    refine t_seq ?_
    refine t_region ?_
    refine t_val (r_move rfl) rfl ?_
    refine t_val (r_move rfl) rfl ?_
    refine t_val (r_nilCheck rfl) rfl ?_
    refine t_val (r_fa fo_116_1 rfl) rfl ?_
    refine t_val (r_load ca_3 rfl (rd_m (List.mem_append_right _ (.head _)) (get_app rfl))) rfl ?_
    refine t_val (r_move rfl) rfl ?_
    refine t_val (r_max rfl rfl) rfl ?_
    refine t_val (r_nilCheck rfl) rfl ?_
    refine t_val (r_fa fo_116_1 rfl) rfl ?_
    refine t_eff rfl (e_store iz_3 rfl rfl rfl (.app (.succ .zero)) (.right .here) ?_)
    refine t_nil ?_
    refine Tr.keep (env' := [(0, _)]) ⟨rfl, trivial⟩ ?_
    refine t_then ?_
    refine t_region ?_
    refine t_val (r_move rfl) rfl ?_
    refine t_val (r_nilCheck rfl) rfl ?_
    refine t_val (r_fa fo_116_2 rfl) rfl ?_
    refine t_eff rfl (e_store iz_4 rfl rfl rfl (.app (.succ (.succ .zero))) (.right .here) ?_)
    refine t_nil ?_
    refine Tr.keep (env' := []) trivial ?_
    refine t_end0 rfl (fun w hw => ?_)
    refine ⟨rfl, ?_⟩
    simpa [Latest.hear, Latest.cells, hc] using hw
end
end Go.Proofs.W
set_option linter.unusedVariables false
set_option linter.unusedSimpArgs false
set_option linter.unusedSectionVars false
set_option maxRecDepth 100000
namespace Go.Proofs.W
open Go Go.Sl Go.RowKit Go.Proofs
theorem ca_118 : cellsAs Tryz.prog 118 = some (none) := by kernel_rfl
theorem ca_119 : cellsAs Tryz.prog 119 = some (none) := by kernel_rfl
theorem ca_311 : cellsAs Tryz.prog 311 = some (none) := by kernel_rfl
theorem ca_316 : cellsAs Tryz.prog 316 = some (some 4) := by kernel_rfl
theorem ca_51 : cellsAs Tryz.prog 51 = some (none) := by kernel_rfl
theorem en_269 : Enters Tryz.prog 269 := enters_of Tryz.func269 (by kernel_rfl) (by kernel_rfl)
theorem en_270 : Enters Tryz.prog 270 := enters_of Tryz.func270 (by kernel_rfl) (by kernel_rfl)
theorem en_271 : Enters Tryz.prog 271 := enters_of Tryz.func271 (by kernel_rfl) (by kernel_rfl)
theorem en_41 : Enters Tryz.prog 41 := enters_of Tryz.func41 (by kernel_rfl) (by kernel_rfl)
theorem en_42 : Enters Tryz.prog 42 := enters_of Tryz.func42 (by kernel_rfl) (by kernel_rfl)
theorem fo_121_0 : fieldOff Tryz.prog 121 0 = some 0 := by kernel_rfl
theorem fo_121_1 : fieldOff Tryz.prog 121 1 = some 6 := by kernel_rfl
theorem fo_121_2 : fieldOff Tryz.prog 121 2 = some 12 := by kernel_rfl
theorem fo_121_3 : fieldOff Tryz.prog 121 3 = some 13 := by kernel_rfl
theorem fo_121_4 : fieldOff Tryz.prog 121 4 = some 14 := by kernel_rfl
theorem fo_218_0 : fieldOff Tryz.prog 218 0 = some 0 := by kernel_rfl
theorem fo_218_2 : fieldOff Tryz.prog 218 2 = some 2 := by kernel_rfl
theorem fo_218_3 : fieldOff Tryz.prog 218 3 = some 3 := by kernel_rfl
theorem fo_218_4 : fieldOff Tryz.prog 218 4 = some 4 := by kernel_rfl
theorem fo_316_0 : fieldOff Tryz.prog 316 0 = some 0 := by kernel_rfl
theorem fo_316_1 : fieldOff Tryz.prog 316 1 = some 1 := by kernel_rfl
theorem fo_316_2 : fieldOff Tryz.prog 316 2 = some 2 := by kernel_rfl
theorem fo_316_3 : fieldOff Tryz.prog 316 3 = some 3 := by kernel_rfl
theorem fo_35_0 : fieldOff Tryz.prog 35 0 = some 0 := by kernel_rfl
theorem fo_35_5 : fieldOff Tryz.prog 35 5 = some 5 := by kernel_rfl
theorem mixed : Tryz.prog.follows .mixedOrders = true := by kernel_rfl
structure GPlan where
  posts : Int
  silence : Int
  clear : Int
  interval : Int
  missing : Int
  cars : Int
def GPlan.cells (p : GPlan) : List Value := [.int .i64 p.posts, .int .i64 p.silence, .int .i64 p.clear, .int .i64 p.interval, .int .i64 p.missing, .int .i64 p.cars]
structure GState where
  started : Bool
  second : Int
  post : Int
  safe : Bool
  found : Bool
def GState.cells (c : GState) : List Value := [.bool c.started, .int .i64 c.second, .int .i64 c.post, .bool c.safe, .bool c.found]
structure GuardSt where
  plan : GPlan
  opened : Latest
  covered : Latest
  red : List Latest
  posts : List Latest
  cars : List GState
structure GEvent where
  kind : Int
  second : Int
  post : Int
  car : Int
def GEvent.cells (e : GEvent) : List Value := [.int .i64 e.kind, .int .i64 e.second, .int .i64 e.post, .int .i64 e.car]
abbrev slv (b n : Nat) : Value := .slice (some ⟨b, 0, none⟩) n n
def GuardSt.cells (g : GuardSt) (rb pb cb : Nat) : List Value :=
  [.int .i64 g.plan.posts, .int .i64 g.plan.silence, .int .i64 g.plan.clear, .int .i64 g.plan.interval, .int .i64 g.plan.missing, .int .i64 g.plan.cars,
   .bool g.opened.value, .int .i64 g.opened.second, .bool g.opened.heard, .bool g.covered.value, .int .i64 g.covered.second, .bool g.covered.heard,
   slv rb g.red.length, slv pb g.posts.length, slv cb g.cars.length]
structure GAt where
  g : Nat
  r : Nat
  p : Nat
  c : Nat
abbrev GuardSt.eg (g : GuardSt) (l : GAt) : Ent := cel l.g 121 (g.cells l.r l.p l.c)
abbrev GuardSt.er (g : GuardSt) (l : GAt) : Ent := cel l.r 116 (flat (g.red.map Latest.cells))
abbrev GuardSt.ep (g : GuardSt) (l : GAt) : Ent := cel l.p 116 (flat (g.posts.map Latest.cells))
abbrev GuardSt.ec (g : GuardSt) (l : GAt) : Ent := cel l.c 218 (flat (g.cars.map GState.cells))
structure GuardSt.Fine (g : GuardSt) : Prop where
  posts : g.plan.posts = (g.posts.length : Int)
  reds : g.plan.posts = (g.red.length : Int)
  cars : g.plan.cars = (g.cars.length : Int)
  np : g.posts.length ≤ 60
  nc : 1 ≤ g.cars.length ∧ g.cars.length ≤ 200
  p1 : 1 ≤ g.posts.length
  sil : 1 ≤ g.plan.silence ∧ g.plan.silence ≤ 100000
  cle : 1 ≤ g.plan.clear ∧ g.plan.clear ≤ g.plan.posts
  int : 0 ≤ g.plan.interval ∧ g.plan.interval ≤ 100000
  mis : 1 ≤ g.plan.missing ∧ g.plan.missing ≤ 100000
def gvalid (pl : GPlan) (k s p c : Int) : Bool :=
  !(decide (k < 1) || decide (10 < k) || !(inB s 0 100000) || (!(k == 3 || k == 4 || k == 5 || k == 8) && (p != 0)) || (!(k == 8 || k == 9 || k == 10) && (c != 0))) && (inB p 0 (pl.posts - 1) && inB c 0 (pl.cars - 1))
def GuardSt.hear (g : GuardSt) (k s : Int) (p c : Nat) : GuardSt :=
  let rep : List Latest := match g.posts[p]? with | some x => g.posts.set p (x.hear true s true) | none => g.posts
  if k = 1 ∨ k = 2 then { g with opened := g.opened.hear (k == 1) s false }
  else if k = 6 ∨ k = 7 then { g with covered := g.covered.hear (k == 6) s false }
  else if k = 3 then { g with posts := rep }
  else if k = 4 ∨ k = 5 then { g with red := (match g.red[p]? with | some x => g.red.set p (x.hear (k == 4) s true) | none => g.red), posts := rep }
  else match g.cars[c]? with
    | none => g
    | some x =>
      if k = 8 then { g with posts := rep, cars := g.cars.set c { x with post := if x.started then max x.post p else x.post } }
      else if k = 9 then { g with cars := g.cars.set c { x with safe := x.safe || x.started } }
      else { g with cars := g.cars.set c { x with found := x.found || x.started } }
section
variable {w0 : World} {M : List Ent}
theorem guard_ready_c {g : GuardSt} {l : GAt} (hg : g.eg l ∈ M) : ∀ w, Ok w0 M w → Calls Tryz.prog 41 #[.pointer (some ⟨l.g, 0, none⟩)] w (fun e w' => e = .returned (.bool (decide (0 < (g.cars.length : Int)))) ∧ Ok w0 M w') := by
  refine enter (vs := [_]) Tryz.func41 rfl Tryz.ntmps41 rfl ?_
  refine t_seq ?_
  refine t_region ?_
  refine t_val (r_assign rfl) rfl ?_
  refine t_nil ?_
  refine Tr.keep (env' := [(0, _)]) ⟨rfl, trivial⟩ ?_
  refine t_then ?_
  refine t_seq ?_
  refine t_region ?_
  refine t_val (r_move rfl) rfl ?_
  refine t_val (r_nenil Tryz.underlying51 rfl rfl) rfl ?_
  refine t_val (r_move rfl) rfl ?_
  apply t_group_and 7 (s := 5) (d := 12) rfl
  · intro hg1 K hK
    refine g_val hg1 rfl rfl (r_move rfl) rfl ?_
    refine g_val hg1 rfl rfl (r_nilCheck rfl) rfl ?_
    refine g_val hg1 rfl rfl (r_fa fo_121_4 rfl) rfl ?_
    refine g_val hg1 rfl rfl (r_load ca_119 rfl (rd_m hg rfl)) rfl ?_
    refine g_val hg1 rfl rfl (r_len_slice Tryz.underlying119 rfl) rfl ?_
    refine g_val hg1 rfl rfl (r_gt rfl rfl) rfl ?_
    refine t_val (rp_t hg1 rfl rfl) rfl ?_
    iterate 6 refine Tr.weak2 rfl ?_
    exact hK _ (and_t hg1)
  · intro hg1 K hK
    refine g_skip hg1 rfl rfl rfl rfl ?_
    refine g_skip hg1 rfl rfl rfl rfl ?_
    refine g_skip hg1 rfl rfl rfl rfl ?_
    refine g_skip hg1 rfl rfl rfl rfl ?_
    refine g_skip hg1 rfl rfl rfl rfl ?_
    refine g_skip hg1 rfl rfl rfl rfl ?_
    refine t_val (rp_f hg1 rfl rfl) rfl ?_
    iterate 6 refine Tr.weak2 rfl ?_
    exact hK _ (and_f hg1)
  refine t_val (r_assign rfl) rfl ?_
  refine t_nil ?_
  refine Tr.keep (env' := [(2, _)]) ⟨rfl, trivial⟩ ?_
  refine t_then ?_
  refine t_retc ?_
  refine t_ret1 rfl rfl (fun w hw => ?_)
  exact ⟨by simp, hw⟩
theorem guard_valid_c {g : GuardSt} {l : GAt} (k s p c : Int) (hg : g.eg l ∈ M) (hf : g.Fine) : ∀ w, Ok w0 M w → Calls Tryz.prog 269 #[.pointer (some ⟨l.g, 0, none⟩), .agg #[.int .i64 k, .int .i64 s, .int .i64 p, .int .i64 c]] w
    (fun e w' => e = .returned (.bool (gvalid g.plan k s p c)) ∧ Ok w0 M w') := by
  have h1 := hf.posts; have h2 := hf.np; have h3 := hf.cars; have h4 := hf.nc; have h5 := hf.p1
  refine enter (vs := [_, _]) Tryz.func269 rfl Tryz.ntmps269 rfl ?_
  refine t_seq ?_
  refine t_region ?_
  refine t_eff rfl (e_box rfl rfl fun b3 => ?_)
  refine t_val (r_assign rfl) rfl ?_
  refine t_nil ?_
  refine Tr.keep (env' := [(0, _), (3, _)]) ⟨rfl, rfl, trivial⟩ ?_
  refine t_then ?_
  refine t_seq ?_
  refine t_region ?_
  refine t_val (r_fa fo_316_0 rfl) rfl ?_
  refine t_val (r_load ca_311 rfl (rd_m (.head _) rfl)) rfl ?_
  refine t_val (r_eq rfl rfl) rfl ?_
  refine t_val (r_move rfl) rfl ?_
  apply t_group_or 4 (s := 10) (d := 14) rfl
  · intro hg1 K hK
    refine g_val hg1 rfl rfl (r_fa fo_316_0 rfl) rfl ?_
    refine g_val hg1 rfl rfl (r_load ca_311 rfl (rd_m (.head _) rfl)) rfl ?_
    refine g_val hg1 rfl rfl (r_eq rfl rfl) rfl ?_
    refine t_val (rp_f hg1 rfl rfl) rfl ?_
    iterate 3 refine Tr.weak2 rfl ?_
    exact hK _ (or_f hg1)
  · intro hg1 K hK
    refine g_skip hg1 rfl rfl rfl rfl ?_
    refine g_skip hg1 rfl rfl rfl rfl ?_
    refine g_skip hg1 rfl rfl rfl rfl ?_
    refine t_val (rp_t hg1 rfl rfl) rfl ?_
    iterate 3 refine Tr.weak2 rfl ?_
    exact hK _ (or_t hg1)
  refine t_val (r_move rfl) rfl ?_
  apply t_group_or 4 (s := 15) (d := 19) rfl
  · intro hg2 K hK
    refine g_val hg2 rfl rfl (r_fa fo_316_0 rfl) rfl ?_
    refine g_val hg2 rfl rfl (r_load ca_311 rfl (rd_m (.head _) rfl)) rfl ?_
    refine g_val hg2 rfl rfl (r_eq rfl rfl) rfl ?_
    refine t_val (rp_f hg2 rfl rfl) rfl ?_
    iterate 3 refine Tr.weak2 rfl ?_
    exact hK _ (or_f hg2)
  · intro hg2 K hK
    refine g_skip hg2 rfl rfl rfl rfl ?_
    refine g_skip hg2 rfl rfl rfl rfl ?_
    refine g_skip hg2 rfl rfl rfl rfl ?_
    refine t_val (rp_t hg2 rfl rfl) rfl ?_
    iterate 3 refine Tr.weak2 rfl ?_
    exact hK _ (or_t hg2)
  refine t_val (r_move rfl) rfl ?_
  apply t_group_or 4 (s := 20) (d := 24) rfl
  · intro hg3 K hK
    refine g_val hg3 rfl rfl (r_fa fo_316_0 rfl) rfl ?_
    refine g_val hg3 rfl rfl (r_load ca_311 rfl (rd_m (.head _) rfl)) rfl ?_
    refine g_val hg3 rfl rfl (r_eq rfl rfl) rfl ?_
    refine t_val (rp_f hg3 rfl rfl) rfl ?_
    iterate 3 refine Tr.weak2 rfl ?_
    exact hK _ (or_f hg3)
  · intro hg3 K hK
    refine g_skip hg3 rfl rfl rfl rfl ?_
    refine g_skip hg3 rfl rfl rfl rfl ?_
    refine g_skip hg3 rfl rfl rfl rfl ?_
    refine t_val (rp_t hg3 rfl rfl) rfl ?_
    iterate 3 refine Tr.weak2 rfl ?_
    exact hK _ (or_t hg3)
  refine t_val (r_assign rfl) rfl ?_
  refine t_nil ?_
  refine Tr.keep (env' := [(0, _), (3, _), (5, _)]) ⟨rfl, rfl, rfl, trivial⟩ ?_
  refine t_then ?_
  refine t_seq ?_
  refine t_region ?_
  refine t_val (r_fa fo_316_0 rfl) rfl ?_
  refine t_val (r_load ca_311 rfl (rd_m (.head _) rfl)) rfl ?_
  refine t_val (r_eq rfl rfl) rfl ?_
  refine t_val (r_move rfl) rfl ?_
  apply t_group_or 4 (s := 28) (d := 32) rfl
  · intro hg4 K hK
    refine g_val hg4 rfl rfl (r_fa fo_316_0 rfl) rfl ?_
    refine g_val hg4 rfl rfl (r_load ca_311 rfl (rd_m (.head _) rfl)) rfl ?_
    refine g_val hg4 rfl rfl (r_eq rfl rfl) rfl ?_
    refine t_val (rp_f hg4 rfl rfl) rfl ?_
    iterate 3 refine Tr.weak2 rfl ?_
    exact hK _ (or_f hg4)
  · intro hg4 K hK
    refine g_skip hg4 rfl rfl rfl rfl ?_
    refine g_skip hg4 rfl rfl rfl rfl ?_
    refine g_skip hg4 rfl rfl rfl rfl ?_
    refine t_val (rp_t hg4 rfl rfl) rfl ?_
    iterate 3 refine Tr.weak2 rfl ?_
    exact hK _ (or_t hg4)
  refine t_val (r_move rfl) rfl ?_
  apply t_group_or 4 (s := 33) (d := 37) rfl
  · intro hg5 K hK
    refine g_val hg5 rfl rfl (r_fa fo_316_0 rfl) rfl ?_
    refine g_val hg5 rfl rfl (r_load ca_311 rfl (rd_m (.head _) rfl)) rfl ?_
    refine g_val hg5 rfl rfl (r_eq rfl rfl) rfl ?_
    refine t_val (rp_f hg5 rfl rfl) rfl ?_
    iterate 3 refine Tr.weak2 rfl ?_
    exact hK _ (or_f hg5)
  · intro hg5 K hK
    refine g_skip hg5 rfl rfl rfl rfl ?_
    refine g_skip hg5 rfl rfl rfl rfl ?_
    refine g_skip hg5 rfl rfl rfl rfl ?_
    refine t_val (rp_t hg5 rfl rfl) rfl ?_
    iterate 3 refine Tr.weak2 rfl ?_
    exact hK _ (or_t hg5)
  refine t_val (r_assign rfl) rfl ?_
  refine t_nil ?_
  refine Tr.keep (env' := [(0, _), (3, _), (5, _), (6, _)]) ⟨rfl, rfl, rfl, rfl, trivial⟩ ?_
  refine t_then ?_
  refine t_seq ?_
  refine t_seq ?_
  refine t_region ?_
  refine t_val (r_fa fo_316_0 rfl) rfl ?_
  refine t_val (r_load ca_311 rfl (rd_m (.head _) rfl)) rfl ?_
  refine t_val (r_lt rfl rfl) rfl ?_
  refine t_val (r_move rfl) rfl ?_
  apply t_group_or 4 (s := 41) (d := 45) rfl
  · intro hg6 K hK
    refine g_val hg6 rfl rfl (r_fa fo_316_0 rfl) rfl ?_
    refine g_val hg6 rfl rfl (r_load ca_311 rfl (rd_m (.head _) rfl)) rfl ?_
    refine g_val hg6 rfl rfl (r_gt rfl rfl) rfl ?_
    refine t_val (rp_f hg6 rfl rfl) rfl ?_
    iterate 3 refine Tr.weak2 rfl ?_
    exact hK _ (or_f hg6)
  · intro hg6 K hK
    refine g_skip hg6 rfl rfl rfl rfl ?_
    refine g_skip hg6 rfl rfl rfl rfl ?_
    refine g_skip hg6 rfl rfl rfl rfl ?_
    refine t_val (rp_t hg6 rfl rfl) rfl ?_
    iterate 3 refine Tr.weak2 rfl ?_
    exact hK _ (or_t hg6)
  refine t_val (r_move rfl) rfl ?_
  apply t_group_or 5 (s := 46) (d := 51) rfl
  · intro hg7 K hK
    refine g_val hg7 rfl rfl (r_fa fo_316_1 rfl) rfl ?_
    refine g_val hg7 rfl rfl (r_load ca_3 rfl (rd_m (.head _) rfl)) rfl ?_
    refine g_eff hg7 rfl rfl (e_pcall en_42 rfl rfl rfl rfl (rescue_within_c _ _ _) ?_)
    refine g_val hg7 rfl rfl (r_not rfl) rfl ?_
    refine t_val (rp_f hg7 rfl rfl) rfl ?_
    iterate 4 refine Tr.weak2 rfl ?_
    exact hK _ (or_f hg7)
  · intro hg7 K hK
    refine g_skip hg7 rfl rfl rfl rfl ?_
    refine g_skip hg7 rfl rfl rfl rfl ?_
    refine g_skip hg7 rfl rfl rfl rfl ?_
    refine g_skip hg7 rfl rfl rfl rfl ?_
    refine t_val (rp_t hg7 rfl rfl) rfl ?_
    iterate 4 refine Tr.weak2 rfl ?_
    exact hK _ (or_t hg7)
  refine t_val (r_move rfl) rfl ?_
  apply t_group_or 8 (s := 52) (d := 60) rfl
  · intro hg8 K hK
    refine g_val hg8 rfl rfl (r_move rfl) rfl ?_
    refine g_val hg8 rfl rfl (r_not rfl) rfl ?_
    refine g_val hg8 rfl rfl (r_move rfl) rfl ?_
    apply t_group_and 4 (s := 55) (d := 59) rfl
    · intro hg9 K hK
      refine g_val hg9 rfl rfl (r_fa fo_316_2 rfl) rfl ?_
      refine g_val hg9 rfl rfl (r_load ca_3 rfl (rd_m (.head _) rfl)) rfl ?_
      refine g_val hg9 rfl rfl (r_ne rfl rfl) rfl ?_
      refine g_val hg8 rfl rfl (rp_t hg9 rfl rfl) rfl ?_
      iterate 3 refine Tr.weak2 rfl ?_
      exact hK _ (and_t hg9)
    · intro hg9 K hK
      refine g_skip hg9 rfl rfl rfl rfl ?_
      refine g_skip hg9 rfl rfl rfl rfl ?_
      refine g_skip hg9 rfl rfl rfl rfl ?_
      refine g_val hg8 rfl rfl (rp_f hg9 rfl rfl) rfl ?_
      iterate 3 refine Tr.weak2 rfl ?_
      exact hK _ (and_f hg9)
    refine t_val (rp_f hg8 rfl rfl) rfl ?_
    iterate 4 refine Tr.weak2 rfl ?_
    exact hK _ (or_f hg8)
  · intro hg8 K hK
    refine g_skip hg8 rfl rfl rfl rfl ?_
    refine g_skip hg8 rfl rfl rfl rfl ?_
    refine g_skip hg8 rfl rfl rfl rfl ?_
    refine t_gskip0 rfl rfl rfl ?_
    refine t_gskip0 rfl rfl rfl ?_
    refine t_gskip0 rfl rfl rfl ?_
    refine g_skip hg8 rfl rfl rfl rfl ?_
    refine t_val (rp_t hg8 rfl rfl) rfl ?_
    iterate 7 refine Tr.weak2 rfl ?_
    exact hK _ (or_t hg8)
  refine t_val (r_move rfl) rfl ?_
  apply t_group_or 8 (s := 61) (d := 69) rfl
  · intro hg10 K hK
    refine g_val hg10 rfl rfl (r_move rfl) rfl ?_
    refine g_val hg10 rfl rfl (r_not rfl) rfl ?_
    refine g_val hg10 rfl rfl (r_move rfl) rfl ?_
    apply t_group_and 4 (s := 64) (d := 68) rfl
    · intro hg11 K hK
      refine g_val hg11 rfl rfl (r_fa fo_316_3 rfl) rfl ?_
      refine g_val hg11 rfl rfl (r_load ca_3 rfl (rd_m (.head _) rfl)) rfl ?_
      refine g_val hg11 rfl rfl (r_ne rfl rfl) rfl ?_
      refine g_val hg10 rfl rfl (rp_t hg11 rfl rfl) rfl ?_
      iterate 3 refine Tr.weak2 rfl ?_
      exact hK _ (and_t hg11)
    · intro hg11 K hK
      refine g_skip hg11 rfl rfl rfl rfl ?_
      refine g_skip hg11 rfl rfl rfl rfl ?_
      refine g_skip hg11 rfl rfl rfl rfl ?_
      refine g_val hg10 rfl rfl (rp_f hg11 rfl rfl) rfl ?_
      iterate 3 refine Tr.weak2 rfl ?_
      exact hK _ (and_f hg11)
    refine t_val (rp_f hg10 rfl rfl) rfl ?_
    iterate 4 refine Tr.weak2 rfl ?_
    exact hK _ (or_f hg10)
  · intro hg10 K hK
    refine g_skip hg10 rfl rfl rfl rfl ?_
    refine g_skip hg10 rfl rfl rfl rfl ?_
    refine g_skip hg10 rfl rfl rfl rfl ?_
    refine t_gskip0 rfl rfl rfl ?_
    refine t_gskip0 rfl rfl rfl ?_
    refine t_gskip0 rfl rfl rfl ?_
    refine g_skip hg10 rfl rfl rfl rfl ?_
    refine t_val (rp_t hg10 rfl rfl) rfl ?_
    iterate 7 refine Tr.weak2 rfl ?_
    exact hK _ (or_t hg10)
  refine t_nil ?_
  refine Tr.keep (env' := [(0, _), (3, _), (69, _)]) ⟨rfl, rfl, rfl, trivial⟩ ?_
  refine t_then ?_
  refine t_cond rfl (fun hv => ?_) (fun hv => ?_)
  · skip
    refine t_seq ?_
    refine t_region ?_
    refine t_val (r_assign rfl) rfl ?_
    refine t_nil ?_
    refine Tr.keep (env' := [(4, _)]) ⟨rfl, trivial⟩ ?_
    refine t_then ?_
    refine t_retc ?_
    refine t_then_ret ?_
    refine t_ret1 rfl rfl (fun w hw => ?_)
    refine ⟨?_, Ok.sub hw (List.sublist_cons_self _ _)⟩
    unfold gvalid; rw [hv]; rfl
  · skip
    refine t_skip ?_
    refine t_then ?_
    refine t_seq ?_
    refine Tr.keep (env' := [(0, _), (3, _)]) ⟨rfl, rfl, trivial⟩ ?_
    refine t_cutu [(4, .bool (inB p 0 (g.plan.posts - 1) && inB c 0 (g.plan.cars - 1)))] (fun K hK => ?_) ?_
    · skip
      refine d_begin mixed rfl ?_
      refine d_val 0 rfl (by kernel_rfl) (by kernel_rfl) (by kernel_rfl) (.then (.then .body)) (.refl _) rfl (r_fa fo_316_2 rfl) ?_
      refine d_val 1 rfl (by kernel_rfl) (by kernel_rfl) (by kernel_rfl) (.then (.then .body)) (.refl _) rfl (r_load ca_3 rfl (rd_m (.head _) rfl)) ?_
      refine d_val 2 rfl (by kernel_rfl) (by kernel_rfl) (by kernel_rfl) (.then (.then .body)) (.refl _) rfl (r_move rfl) ?_
      refine d_val 3 rfl (by kernel_rfl) (by kernel_rfl) (by kernel_rfl) (.then (.then .body)) (.refl _) rfl (r_nilCheck rfl) ?_
      refine d_val 4 rfl (by kernel_rfl) (by kernel_rfl) (by kernel_rfl) (.then (.then .body)) (.refl _) rfl (r_fa fo_121_0 rfl) ?_
      refine d_val 5 rfl (by kernel_rfl) (by kernel_rfl) (by kernel_rfl) (.then (.then .body)) (.refl _) rfl (r_fa fo_35_0 rfl) ?_
      refine d_val 6 rfl (by kernel_rfl) (by kernel_rfl) (by kernel_rfl) (.then (.then .body)) (.refl _) rfl (r_load ca_3 rfl (rd_m (.tail _ hg) rfl)) ?_
      refine d_val 7 rfl (by kernel_rfl) (by kernel_rfl) (by kernel_rfl) (.then (.then .body)) (.refl _) rfl (r_subi rfl rfl (by omega)) ?_
      refine d_eff 8 rfl rfl (by kernel_rfl) (e_pcall en_42 rfl rfl rfl rfl (rescue_within_c _ _ _) ?_)
      refine d_held (.refl _) ?_
      refine d_val 9 rfl (by kernel_rfl) (by kernel_rfl) (by kernel_rfl) (.then (.then .body)) (.refl _) rfl (r_move rfl) ?_
      refine t_cases_at (s := 79) rfl (fun hd13 => ?_) (fun hd13 => ?_)
      · skip
        refine dg_val 10 hd13 rfl (by kernel_rfl) (by kernel_rfl) (by kernel_rfl) (.then (.then .body)) (.refl _) rfl rfl rfl (r_fa fo_316_3 rfl) ?_
        refine dg_val 11 hd13 rfl (by kernel_rfl) (by kernel_rfl) (by kernel_rfl) (.then (.then .body)) (.refl _) rfl rfl rfl (r_load ca_3 rfl (rd_m (.head _) rfl)) ?_
        refine dg_val 12 hd13 rfl (by kernel_rfl) (by kernel_rfl) (by kernel_rfl) (.then (.then .body)) (.refl _) rfl rfl rfl (r_move rfl) ?_
        refine dg_val 13 hd13 rfl (by kernel_rfl) (by kernel_rfl) (by kernel_rfl) (.then (.then .body)) (.refl _) rfl rfl rfl (r_nilCheck rfl) ?_
        refine dg_val 14 hd13 rfl (by kernel_rfl) (by kernel_rfl) (by kernel_rfl) (.then (.then .body)) (.refl _) rfl rfl rfl (r_fa fo_121_0 rfl) ?_
        refine dg_val 15 hd13 rfl (by kernel_rfl) (by kernel_rfl) (by kernel_rfl) (.then (.then .body)) (.refl _) rfl rfl rfl (r_fa fo_35_5 rfl) ?_
        refine dg_val 16 hd13 rfl (by kernel_rfl) (by kernel_rfl) (by kernel_rfl) (.then (.then .body)) (.refl _) rfl rfl rfl (r_load ca_3 rfl (rd_m (.tail _ hg) rfl)) ?_
        refine dg_val 17 hd13 rfl (by kernel_rfl) (by kernel_rfl) (by kernel_rfl) (.then (.then .body)) (.refl _) rfl rfl rfl (r_subi rfl rfl (by omega)) ?_
        refine dg_eff 18 hd13 rfl (by kernel_rfl) rfl rfl (e_pcall en_42 rfl rfl rfl rfl (rescue_within_c _ _ _) ?_)
        refine d_held (.refl _) ?_
        refine d_val 19 rfl (by kernel_rfl) (by kernel_rfl) (by kernel_rfl) (.then (.then .body)) (.refl _) rfl (rp_t hd13 rfl rfl) ?_
        refine d_val 20 rfl (by kernel_rfl) (by kernel_rfl) (by kernel_rfl) (.then (.then .body)) (.refl _) rfl (r_assign rfl) ?_
        refine d_end (by kernel_rfl) ?_
        exact t_thenK hK ⟨(by first | (simp [Env.get, hd13]; done) | exact absurd hd13 (by decide) | (simp_all [Env.get]; done)), rfl, rfl, trivial⟩ (.refl _)
      · skip
        refine dg_skip 10 hd13 rfl (by kernel_rfl) (by kernel_rfl) (by kernel_rfl) (.then (.then .body)) (.refl _) rfl rfl rfl rfl ?_
        refine dg_skip 11 hd13 rfl (by kernel_rfl) (by kernel_rfl) (by kernel_rfl) (.then (.then .body)) (.refl _) rfl rfl rfl rfl ?_
        refine dg_skip 12 hd13 rfl (by kernel_rfl) (by kernel_rfl) (by kernel_rfl) (.then (.then .body)) (.refl _) rfl rfl rfl rfl ?_
        refine dg_skip 13 hd13 rfl (by kernel_rfl) (by kernel_rfl) (by kernel_rfl) (.then (.then .body)) (.refl _) rfl rfl rfl rfl ?_
        refine dg_skip 14 hd13 rfl (by kernel_rfl) (by kernel_rfl) (by kernel_rfl) (.then (.then .body)) (.refl _) rfl rfl rfl rfl ?_
        refine dg_skip 15 hd13 rfl (by kernel_rfl) (by kernel_rfl) (by kernel_rfl) (.then (.then .body)) (.refl _) rfl rfl rfl rfl ?_
        refine dg_skip 16 hd13 rfl (by kernel_rfl) (by kernel_rfl) (by kernel_rfl) (.then (.then .body)) (.refl _) rfl rfl rfl rfl ?_
        refine dg_skip 17 hd13 rfl (by kernel_rfl) (by kernel_rfl) (by kernel_rfl) (.then (.then .body)) (.refl _) rfl rfl rfl rfl ?_
        refine dg_skip 18 hd13 rfl (by kernel_rfl) (by kernel_rfl) (by kernel_rfl) (.then (.then .body)) (.refl _) rfl rfl rfl rfl ?_
        refine d_val 19 rfl (by kernel_rfl) (by kernel_rfl) (by kernel_rfl) (.then (.then .body)) (.refl _) rfl (rp_f hd13 rfl rfl) ?_
        refine d_val 20 rfl (by kernel_rfl) (by kernel_rfl) (by kernel_rfl) (.then (.then .body)) (.refl _) rfl (r_assign rfl) ?_
        refine d_end (by kernel_rfl) ?_
        exact t_thenK hK ⟨(by first | (simp [Env.get, hd13]; done) | exact absurd hd13 (by decide) | (simp_all [Env.get]; done)), rfl, rfl, trivial⟩ (.refl _)
    refine Tr.keep (env' := [(4, _)]) ⟨rfl, trivial⟩ ?_
    refine t_then ?_
    refine t_retc ?_
    refine t_ret1 rfl rfl (fun w hw => ?_)
    refine ⟨?_, Ok.sub hw (List.sublist_cons_self _ _)⟩
    unfold gvalid; rw [hv]; rfl
theorem cells3 (x : Latest) : x.cells.length = 3 := rfl
theorem cells5 (x : GState) : x.cells.length = 5 := rfl
theorem latest_hear_at (b : Nat) (T : TypeId) (A B : List Ent) (xs : List Latest) (j : Nat) (o : Nat) (ho : o = j * 3) (x : Latest) (hx : xs[j]? = some x) (v bad : Bool) (s : Int) : ∀ w, Ok w0 (A ++ cel b T (flat (xs.map Latest.cells)) :: B) w →
    Calls Tryz.prog 271 #[.pointer (some ⟨b, o, none⟩), .bool v, .int .i64 s, .bool bad] w (fun e w' => e = .returned (.tuple #[]) ∧ Ok w0 (A ++ cel b T (flat ((xs.set j (x.hear v s bad)).map Latest.cells)) :: B) w') := by
  have h1 := flat_split Latest.cells xs j x (x.hear v s bad) hx
  have hj := (List.getElem?_eq_some_iff.1 hx).1
  have h2 := flat_take_length Latest.cells 3 cells3 xs j (by omega)
  rw [h1.1, h1.2, ho, ← h2]
  exact latest_hear_c b T A B _ _ x v bad s
theorem inB_iff {n lo hi : Int} : inB n lo hi = true ↔ lo ≤ n ∧ n ≤ hi := by simp [inB]
theorem gvalid_bounds {g : GuardSt} {k s : Int} {p c : Nat} (hf : g.Fine) (h : gvalid g.plan k s p c = true) : p < g.posts.length ∧ c < g.cars.length := by
  unfold gvalid at h
  simp only [Bool.and_eq_true, inB_iff] at h
  have h1 := hf.posts; have h2 := hf.cars
  omega
theorem guard_report_c {g : GuardSt} {l : GAt} {b2 b3 : Nat} {X Y : Ent} {Fr : List Ent} (k s c : Int) (p : Nat) (x : Latest) (hx : g.posts[p]? = some x) : ∀ w, Ok w0 (cel b3 316 [.int .i64 k, .int .i64 s, .int .i64 (p : Int), .int .i64 c] :: cel b2 51 [.pointer (some ⟨l.g, 0, none⟩)] :: g.eg l :: X :: g.ep l :: Y :: Fr) w →
    Calls Tryz.prog 270 #[.pointer (some ⟨b2, 0, none⟩), .pointer (some ⟨b3, 0, none⟩)] w (fun e w' => e = .returned (.tuple #[]) ∧
      Ok w0 (cel b3 316 [.int .i64 k, .int .i64 s, .int .i64 (p : Int), .int .i64 c] :: cel b2 51 [.pointer (some ⟨l.g, 0, none⟩)] :: g.eg l :: X :: cel l.p 116 (flat ((g.posts.set p (x.hear true s true)).map Latest.cells)) :: Y :: Fr) w') := by
  have hp := (List.getElem?_eq_some_iff.1 hx).1
  refine enter (vs := [_, _]) Tryz.func270 rfl Tryz.ntmps270 rfl ?_
  refine d_beginS (.cons_cons _ (.cons_cons _ (.cons_cons _ (.cons_cons _ (.cons _ (.refl _)))))) mixed rfl ?_
  refine d_val 0 rfl (by kernel_rfl) (by kernel_rfl) (by kernel_rfl) .body (.cons_cons _ (.cons_cons _ (.cons_cons _ (.cons_cons _ (.cons _ (.refl _)))))) rfl (r_load ca_51 rfl (rd_m (.tail _ (.head _)) rfl)) ?_
  refine d_val 1 rfl (by kernel_rfl) (by kernel_rfl) (by kernel_rfl) .body (.cons_cons _ (.cons_cons _ (.cons_cons _ (.cons_cons _ (.cons _ (.refl _)))))) rfl (r_nilCheck rfl) ?_
  refine d_val 2 rfl (by kernel_rfl) (by kernel_rfl) (by kernel_rfl) .body (.cons_cons _ (.cons_cons _ (.cons_cons _ (.cons_cons _ (.cons _ (.refl _)))))) rfl (r_fa fo_121_3 rfl) ?_
  refine d_val 3 rfl (by kernel_rfl) (by kernel_rfl) (by kernel_rfl) .body (.cons_cons _ (.cons_cons _ (.cons_cons _ (.cons_cons _ (.cons _ (.refl _)))))) rfl (r_load ca_118 rfl (rd_m (.tail _ (.tail _ (.head _))) rfl)) ?_
  refine d_val 4 rfl (by kernel_rfl) (by kernel_rfl) (by kernel_rfl) .body (.cons_cons _ (.cons_cons _ (.cons_cons _ (.cons_cons _ (.cons _ (.refl _)))))) rfl (r_fa fo_316_2 rfl) ?_
  refine d_val 5 rfl (by kernel_rfl) (by kernel_rfl) (by kernel_rfl) .body (.cons_cons _ (.cons_cons _ (.cons_cons _ (.cons_cons _ (.cons _ (.refl _)))))) rfl (r_load ca_3 rfl (rd_m (.head _) rfl)) ?_
  refine d_val 6 rfl (by kernel_rfl) (by kernel_rfl) (by kernel_rfl) .body (.cons_cons _ (.cons_cons _ (.cons_cons _ (.cons_cons _ (.cons _ (.refl _)))))) rfl (r_ia_s p Tryz.underlying118 iz_116 rfl rfl rfl rfl hp) ?_
  refine d_val 7 rfl (by kernel_rfl) (by kernel_rfl) (by kernel_rfl) .body (.cons_cons _ (.cons_cons _ (.cons_cons _ (.cons_cons _ (.cons _ (.refl _)))))) rfl (r_fa fo_316_1 rfl) ?_
  refine d_val 8 rfl (by kernel_rfl) (by kernel_rfl) (by kernel_rfl) .body (.cons_cons _ (.cons_cons _ (.cons_cons _ (.cons_cons _ (.cons _ (.refl _)))))) rfl (r_load ca_3 rfl (rd_m (.head _) rfl)) ?_
  refine d_eff 9 rfl rfl (by kernel_rfl) (e_mcall en_271 rfl rfl rfl rfl (latest_hear_at _ _ [_, _, _, _] _ _ p _ (by omega) _ hx _ _ _) ?_)
  refine d_held (.cons_cons _ (.cons_cons _ (.cons_cons _ (.cons_cons _ (.cons _ (.refl _)))))) ?_
  refine d_end (by kernel_rfl) ?_
  refine Tr.keep (env' := []) trivial ?_
  refine t_end0 rfl (fun w hw => ?_)
  exact ⟨rfl, hw⟩
theorem guard_hear_1 {g : GuardSt} {l : GAt} {Fr : List Ent} (s : Int) (p c : Nat) (hf : g.Fine) (hval : gvalid g.plan 1 s p c = true) : ∀ w, Ok w0 (g.eg l :: g.er l :: g.ep l :: g.ec l :: Fr) w →
    Calls Tryz.prog 213 #[.pointer (some ⟨l.g, 0, none⟩), .agg #[.int .i64 1, .int .i64 s, .int .i64 p, .int .i64 c]] w (fun e w' => e = .returned (.int .i64 0) ∧ Ok w0 ((g.hear 1 s p c).eg l :: (g.hear 1 s p c).er l :: (g.hear 1 s p c).ep l :: (g.hear 1 s p c).ec l :: Fr) w') := by
  have h4 := hf.nc
  obtain ⟨hp0, hc0⟩ := gvalid_bounds hf hval
  have hp : p < g.posts.length := hp0
  have hp2 : p < g.red.length := by have e1 := hf.reds; have e2 := hf.posts; rw [e2] at e1; omega
  have hc : c < g.cars.length := hc0
  obtain ⟨x, hx⟩ : ∃ x, g.posts[p]? = some x := ⟨_, List.getElem?_eq_getElem hp⟩
  obtain ⟨y, hy⟩ : ∃ y, g.red[p]? = some y := ⟨_, List.getElem?_eq_getElem hp2⟩
  obtain ⟨z, hz⟩ : ∃ z, g.cars[c]? = some z := ⟨_, List.getElem?_eq_getElem hc⟩
  refine enter (vs := [_, _]) Tryz.func213 rfl Tryz.ntmps213 rfl ?_
  refine t_seq ?_
  refine t_region ?_
  refine t_eff rfl (e_box1 rfl rfl rfl fun b2 => ?_)
  refine t_eff rfl (e_box rfl rfl fun b3 => ?_)
  refine t_val (r_assign rfl) rfl ?_
  refine t_nil ?_
  refine Tr.keep (env' := [(2, _), (3, _)]) ⟨rfl, rfl, trivial⟩ ?_
  refine t_then ?_
  refine t_seq ?_
  refine t_seq ?_
  refine t_region ?_
  refine t_val (r_load ca_51 rfl (rd_m (.tail _ (.head _)) rfl)) rfl ?_
  refine t_eff rfl (e_pcall en_41 rfl rfl rfl rfl (guard_ready_c (.tail _ (.tail _ (.head _)))) ?_)
  refine t_val (r_not rfl) rfl ?_
  refine t_nil ?_
  refine Tr.keep (env' := [(2, _), (3, _), (9, _)]) ⟨rfl, rfl, rfl, trivial⟩ ?_
  refine t_then ?_
  refine t_cond rfl (fun hr => ?_) (fun hr => ?_)
  · have hr0 : decide (0 < (g.cars.length : Int)) = true := decide_eq_true (by omega)
    rw [hr0] at hr; cases hr
  · skip
    refine t_skip ?_
    refine t_then ?_
    refine t_seq ?_
    refine t_seq ?_
    refine t_region ?_
    refine t_val (r_load ca_51 rfl (rd_m (.tail _ (.head _)) rfl)) rfl ?_
    refine t_val (r_loads ca_316 rfl (rds_m (n := 4) (vs := [_, _, _, _]) (.head _) rfl) rfl) rfl ?_
    refine t_eff rfl (e_pcall en_269 rfl rfl rfl rfl (guard_valid_c 1 s p c (.tail _ (.tail _ (.head _))) hf) ?_)
    refine t_val (r_not rfl) rfl ?_
    refine t_nil ?_
    refine Tr.keep (env' := [(2, _), (3, _), (13, _)]) ⟨rfl, rfl, rfl, trivial⟩ ?_
    refine t_then ?_
    refine t_cond rfl (fun hv => ?_) (fun hv => ?_)
    · rw [hval] at hv; cases hv
    · skip
      refine t_skip ?_
      refine t_then ?_
      refine t_seq ?_
      refine d_begin mixed rfl ?_
      refine d_val 0 rfl (by kernel_rfl) (by kernel_rfl) (by kernel_rfl) (.then .body) (.refl _) rfl (r_load ca_51 rfl (rd_m (.tail _ (.head _)) rfl)) ?_
      refine d_val 1 rfl (by kernel_rfl) (by kernel_rfl) (by kernel_rfl) (.then .body) (.refl _) rfl (r_nilCheck rfl) ?_
      refine d_val 2 rfl (by kernel_rfl) (by kernel_rfl) (by kernel_rfl) (.then .body) (.refl _) rfl (r_fa fo_121_4 rfl) ?_
      refine d_val 3 rfl (by kernel_rfl) (by kernel_rfl) (by kernel_rfl) (.then .body) (.refl _) rfl (r_load ca_119 rfl (rd_m (.tail _ (.tail _ (.head _))) rfl)) ?_
      refine d_val 4 rfl (by kernel_rfl) (by kernel_rfl) (by kernel_rfl) (.then .body) (.refl _) rfl (r_fa fo_316_3 rfl) ?_
      refine d_val 5 rfl (by kernel_rfl) (by kernel_rfl) (by kernel_rfl) (.then .body) (.refl _) rfl (r_load ca_3 rfl (rd_m (.head _) rfl)) ?_
      refine d_val 6 rfl (by kernel_rfl) (by kernel_rfl) (by kernel_rfl) (.then .body) (.refl _) rfl (r_ia_s c Tryz.underlying119 iz_218 rfl rfl rfl rfl hc) ?_
      refine d_val 7 rfl (by kernel_rfl) (by kernel_rfl) (by kernel_rfl) (.then .body) (.refl _) rfl (r_assign rfl) ?_
      refine d_end (by kernel_rfl) ?_
      refine Tr.keep (env' := [(2, _), (3, _), (5, _)]) ⟨rfl, rfl, rfl, trivial⟩ ?_
      refine t_then ?_
      refine t_seq ?_
      refine t_region ?_
      refine t_val (r_makeFunc rfl rfl) rfl ?_
      refine t_val (r_assign rfl) rfl ?_
      refine t_nil ?_
      refine Tr.keep (env' := [(2, _), (3, _), (5, _), (6, _)]) ⟨rfl, rfl, rfl, rfl, trivial⟩ ?_
      refine t_then ?_
      refine t_seq ?_
      refine t_seq ?_
      refine t_region ?_
      refine t_val (r_fa fo_316_0 rfl) rfl ?_
      refine t_val (r_load ca_311 rfl (rd_m (.head _) rfl)) rfl ?_
      refine t_nil ?_
      refine Tr.keep (env' := [(2, _), (3, _), (5, _), (6, _), (23, _)]) ⟨rfl, rfl, rfl, rfl, rfl, trivial⟩ ?_
      refine t_then ?_
      refine t_block ?_
      refine t_seq ?_
      refine t_seq ?_
      refine t_region ?_
      refine t_val (r_eq rfl rfl) rfl ?_
      refine t_val (r_assign rfl) rfl ?_
      refine t_nil ?_
      refine Tr.keep (env' := [(2, _), (3, _), (5, _), (6, _), (23, _), (24, _)]) ⟨rfl, rfl, rfl, rfl, rfl, rfl, trivial⟩ ?_
      refine t_then ?_
      refine t_cond_t rfl ?_
      refine t_skip ?_
      refine t_then ?_
      refine t_cond_t rfl ?_
      refine d_beginS (.cons_cons _ (.cons_cons _ (.cons _ (.refl _)))) mixed rfl ?_
      refine d_val 0 rfl (by kernel_rfl) (by kernel_rfl) (by kernel_rfl) (.inBlock (.then .body)) (.cons_cons _ (.cons_cons _ (.cons _ (.refl _)))) rfl (r_load ca_51 rfl (rd_m (.tail _ (.head _)) rfl)) ?_
      refine d_val 1 rfl (by kernel_rfl) (by kernel_rfl) (by kernel_rfl) (.inBlock (.then .body)) (.cons_cons _ (.cons_cons _ (.cons _ (.refl _)))) rfl (r_nilCheck rfl) ?_
      refine d_val 2 rfl (by kernel_rfl) (by kernel_rfl) (by kernel_rfl) (.inBlock (.then .body)) (.cons_cons _ (.cons_cons _ (.cons _ (.refl _)))) rfl (r_fa fo_121_1 rfl) ?_
      refine d_val 3 rfl (by kernel_rfl) (by kernel_rfl) (by kernel_rfl) (.inBlock (.then .body)) (.cons_cons _ (.cons_cons _ (.cons _ (.refl _)))) rfl (r_iaa (j := 0) Tryz.underlying117 iz_116 rfl rfl rfl (by decide)) ?_
      refine d_val 4 rfl (by kernel_rfl) (by kernel_rfl) (by kernel_rfl) (.inBlock (.then .body)) (.cons_cons _ (.cons_cons _ (.cons _ (.refl _)))) rfl (r_fa fo_316_0 rfl) ?_
      refine d_val 5 rfl (by kernel_rfl) (by kernel_rfl) (by kernel_rfl) (.inBlock (.then .body)) (.cons_cons _ (.cons_cons _ (.cons _ (.refl _)))) rfl (r_load ca_311 rfl (rd_m (.head _) rfl)) ?_
      refine d_val 6 rfl (by kernel_rfl) (by kernel_rfl) (by kernel_rfl) (.inBlock (.then .body)) (.cons_cons _ (.cons_cons _ (.cons _ (.refl _)))) rfl (r_eq rfl rfl) ?_
      refine d_val 7 rfl (by kernel_rfl) (by kernel_rfl) (by kernel_rfl) (.inBlock (.then .body)) (.cons_cons _ (.cons_cons _ (.cons _ (.refl _)))) rfl (r_fa fo_316_1 rfl) ?_
      refine d_val 8 rfl (by kernel_rfl) (by kernel_rfl) (by kernel_rfl) (.inBlock (.then .body)) (.cons_cons _ (.cons_cons _ (.cons _ (.refl _)))) rfl (r_load ca_3 rfl (rd_m (.head _) rfl)) ?_
      refine d_eff 9 rfl rfl (by kernel_rfl) (e_mcall en_271 rfl rfl rfl rfl (latest_hear_c _ _ [_, _] _ [_, _, _, _, _, _] [_, _, _, _, _, _] g.opened true false s) ?_)
      refine d_held (.cons_cons _ (.cons_cons _ (.cons _ (.refl _)))) ?_
      refine d_end (by kernel_rfl) ?_
      refine Tr.keep (env' := []) trivial ?_
      refine t_in ?_
      refine t_then ?_
      refine t_seq ?_
      refine t_region ?_
      refine t_val (r_assign rfl) rfl ?_
      refine t_nil ?_
      refine Tr.keep (env' := [(4, _)]) ⟨rfl, trivial⟩ ?_
      refine t_then ?_
      refine t_retc ?_
      refine t_ret1 rfl rfl (fun w hw => ?_)
      refine ⟨rfl, ?_⟩
      have e1 : g.hear 1 s p c = { g with opened := g.opened.hear true s false } := by simp [GuardSt.hear, hx, hy, hz]
      rw [e1]
      have h := Ok.sub hw (.cons _ (.cons _ (List.Sublist.refl _)))
      first | exact h | (simp only [GuardSt.eg, GuardSt.er, GuardSt.ep, GuardSt.ec, GuardSt.cells, List.length_set] at h ⊢; exact h)
theorem guard_hear_3 {g : GuardSt} {l : GAt} {Fr : List Ent} (s : Int) (p c : Nat) (hf : g.Fine) (hval : gvalid g.plan 3 s p c = true) : ∀ w, Ok w0 (g.eg l :: g.er l :: g.ep l :: g.ec l :: Fr) w →
    Calls Tryz.prog 213 #[.pointer (some ⟨l.g, 0, none⟩), .agg #[.int .i64 3, .int .i64 s, .int .i64 p, .int .i64 c]] w (fun e w' => e = .returned (.int .i64 0) ∧ Ok w0 ((g.hear 3 s p c).eg l :: (g.hear 3 s p c).er l :: (g.hear 3 s p c).ep l :: (g.hear 3 s p c).ec l :: Fr) w') := by
  have h4 := hf.nc
  obtain ⟨hp0, hc0⟩ := gvalid_bounds hf hval
  have hp : p < g.posts.length := hp0
  have hp2 : p < g.red.length := by have e1 := hf.reds; have e2 := hf.posts; rw [e2] at e1; omega
  have hc : c < g.cars.length := hc0
  obtain ⟨x, hx⟩ : ∃ x, g.posts[p]? = some x := ⟨_, List.getElem?_eq_getElem hp⟩
  obtain ⟨y, hy⟩ : ∃ y, g.red[p]? = some y := ⟨_, List.getElem?_eq_getElem hp2⟩
  obtain ⟨z, hz⟩ : ∃ z, g.cars[c]? = some z := ⟨_, List.getElem?_eq_getElem hc⟩
  refine enter (vs := [_, _]) Tryz.func213 rfl Tryz.ntmps213 rfl ?_
  refine t_seq ?_
  refine t_region ?_
  refine t_eff rfl (e_box1 rfl rfl rfl fun b2 => ?_)
  refine t_eff rfl (e_box rfl rfl fun b3 => ?_)
  refine t_val (r_assign rfl) rfl ?_
  refine t_nil ?_
  refine Tr.keep (env' := [(2, _), (3, _)]) ⟨rfl, rfl, trivial⟩ ?_
  refine t_then ?_
  refine t_seq ?_
  refine t_seq ?_
  refine t_region ?_
  refine t_val (r_load ca_51 rfl (rd_m (.tail _ (.head _)) rfl)) rfl ?_
  refine t_eff rfl (e_pcall en_41 rfl rfl rfl rfl (guard_ready_c (.tail _ (.tail _ (.head _)))) ?_)
  refine t_val (r_not rfl) rfl ?_
  refine t_nil ?_
  refine Tr.keep (env' := [(2, _), (3, _), (9, _)]) ⟨rfl, rfl, rfl, trivial⟩ ?_
  refine t_then ?_
  refine t_cond rfl (fun hr => ?_) (fun hr => ?_)
  · have hr0 : decide (0 < (g.cars.length : Int)) = true := decide_eq_true (by omega)
    rw [hr0] at hr; cases hr
  · skip
    refine t_skip ?_
    refine t_then ?_
    refine t_seq ?_
    refine t_seq ?_
    refine t_region ?_
    refine t_val (r_load ca_51 rfl (rd_m (.tail _ (.head _)) rfl)) rfl ?_
    refine t_val (r_loads ca_316 rfl (rds_m (n := 4) (vs := [_, _, _, _]) (.head _) rfl) rfl) rfl ?_
    refine t_eff rfl (e_pcall en_269 rfl rfl rfl rfl (guard_valid_c 3 s p c (.tail _ (.tail _ (.head _))) hf) ?_)
    refine t_val (r_not rfl) rfl ?_
    refine t_nil ?_
    refine Tr.keep (env' := [(2, _), (3, _), (13, _)]) ⟨rfl, rfl, rfl, trivial⟩ ?_
    refine t_then ?_
    refine t_cond rfl (fun hv => ?_) (fun hv => ?_)
    · rw [hval] at hv; cases hv
    · skip
      refine t_skip ?_
      refine t_then ?_
      refine t_seq ?_
      refine d_begin mixed rfl ?_
      refine d_val 0 rfl (by kernel_rfl) (by kernel_rfl) (by kernel_rfl) (.then .body) (.refl _) rfl (r_load ca_51 rfl (rd_m (.tail _ (.head _)) rfl)) ?_
      refine d_val 1 rfl (by kernel_rfl) (by kernel_rfl) (by kernel_rfl) (.then .body) (.refl _) rfl (r_nilCheck rfl) ?_
      refine d_val 2 rfl (by kernel_rfl) (by kernel_rfl) (by kernel_rfl) (.then .body) (.refl _) rfl (r_fa fo_121_4 rfl) ?_
      refine d_val 3 rfl (by kernel_rfl) (by kernel_rfl) (by kernel_rfl) (.then .body) (.refl _) rfl (r_load ca_119 rfl (rd_m (.tail _ (.tail _ (.head _))) rfl)) ?_
      refine d_val 4 rfl (by kernel_rfl) (by kernel_rfl) (by kernel_rfl) (.then .body) (.refl _) rfl (r_fa fo_316_3 rfl) ?_
      refine d_val 5 rfl (by kernel_rfl) (by kernel_rfl) (by kernel_rfl) (.then .body) (.refl _) rfl (r_load ca_3 rfl (rd_m (.head _) rfl)) ?_
      refine d_val 6 rfl (by kernel_rfl) (by kernel_rfl) (by kernel_rfl) (.then .body) (.refl _) rfl (r_ia_s c Tryz.underlying119 iz_218 rfl rfl rfl rfl hc) ?_
      refine d_val 7 rfl (by kernel_rfl) (by kernel_rfl) (by kernel_rfl) (.then .body) (.refl _) rfl (r_assign rfl) ?_
      refine d_end (by kernel_rfl) ?_
      refine Tr.keep (env' := [(2, _), (3, _), (5, _)]) ⟨rfl, rfl, rfl, trivial⟩ ?_
      refine t_then ?_
      refine t_seq ?_
      refine t_region ?_
      refine t_val (r_makeFunc rfl rfl) rfl ?_
      refine t_val (r_assign rfl) rfl ?_
      refine t_nil ?_
      refine Tr.keep (env' := [(2, _), (3, _), (5, _), (6, _)]) ⟨rfl, rfl, rfl, rfl, trivial⟩ ?_
      refine t_then ?_
      refine t_seq ?_
      refine t_seq ?_
      refine t_region ?_
      refine t_val (r_fa fo_316_0 rfl) rfl ?_
      refine t_val (r_load ca_311 rfl (rd_m (.head _) rfl)) rfl ?_
      refine t_nil ?_
      refine Tr.keep (env' := [(2, _), (3, _), (5, _), (6, _), (23, _)]) ⟨rfl, rfl, rfl, rfl, rfl, trivial⟩ ?_
      refine t_then ?_
      refine t_block ?_
      refine t_seq ?_
      refine t_seq ?_
      refine t_region ?_
      refine t_val (r_eq rfl rfl) rfl ?_
      refine t_val (r_assign rfl) rfl ?_
      refine t_nil ?_
      refine Tr.keep (env' := [(2, _), (3, _), (5, _), (6, _), (23, _), (24, _)]) ⟨rfl, rfl, rfl, rfl, rfl, rfl, trivial⟩ ?_
      refine t_then ?_
      refine t_cond_f rfl ?_
      refine t_region ?_
      refine t_val (r_eq rfl rfl) rfl ?_
      refine t_val (r_assign rfl) rfl ?_
      refine t_nil ?_
      refine Tr.keep (env' := [(2, _), (3, _), (5, _), (6, _), (23, _), (24, _)]) ⟨rfl, rfl, rfl, rfl, rfl, rfl, trivial⟩ ?_
      refine t_then ?_
      refine t_cond_f rfl ?_
      refine t_seq ?_
      refine t_seq ?_
      refine t_region ?_
      refine t_val (r_eq rfl rfl) rfl ?_
      refine t_val (r_assign rfl) rfl ?_
      refine t_nil ?_
      refine Tr.keep (env' := [(2, _), (3, _), (5, _), (6, _), (23, _), (37, _)]) ⟨rfl, rfl, rfl, rfl, rfl, rfl, trivial⟩ ?_
      refine t_then ?_
      refine t_cond_f rfl ?_
      refine t_region ?_
      refine t_val (r_eq rfl rfl) rfl ?_
      refine t_val (r_assign rfl) rfl ?_
      refine t_nil ?_
      refine Tr.keep (env' := [(2, _), (3, _), (5, _), (6, _), (23, _), (37, _)]) ⟨rfl, rfl, rfl, rfl, rfl, rfl, trivial⟩ ?_
      refine t_then ?_
      refine t_cond_f rfl ?_
      refine t_seq ?_
      refine t_region ?_
      refine t_val (r_eq rfl rfl) rfl ?_
      refine t_val (r_assign rfl) rfl ?_
      refine t_nil ?_
      refine Tr.keep (env' := [(2, _), (3, _), (5, _), (6, _), (23, _), (50, _)]) ⟨rfl, rfl, rfl, rfl, rfl, rfl, trivial⟩ ?_
      refine t_then ?_
      refine t_cond_t rfl ?_
      refine t_region ?_
      refine t_val (r_move rfl) rfl ?_
      refine t_eff rfl (e_mcall en_270 rfl rfl rfl rfl (guard_report_c _ s _ p x hx) ?_)
      refine t_nil ?_
      refine Tr.keep (env' := []) trivial ?_
      refine t_in ?_
      refine t_then ?_
      refine t_seq ?_
      refine t_region ?_
      refine t_val (r_assign rfl) rfl ?_
      refine t_nil ?_
      refine Tr.keep (env' := [(4, _)]) ⟨rfl, trivial⟩ ?_
      refine t_then ?_
      refine t_retc ?_
      refine t_ret1 rfl rfl (fun w hw => ?_)
      refine ⟨rfl, ?_⟩
      have e1 : g.hear 3 s p c = { g with posts := g.posts.set p (x.hear true s true) } := by simp [GuardSt.hear, hx, hy, hz]
      rw [e1]
      have h := Ok.sub hw (.cons _ (.cons _ (List.Sublist.refl _)))
      first | exact h | (simp only [GuardSt.eg, GuardSt.er, GuardSt.ep, GuardSt.ec, GuardSt.cells, List.length_set] at h ⊢; exact h)
theorem guard_hear_6 {g : GuardSt} {l : GAt} {Fr : List Ent} (s : Int) (p c : Nat) (hf : g.Fine) (hval : gvalid g.plan 6 s p c = true) : ∀ w, Ok w0 (g.eg l :: g.er l :: g.ep l :: g.ec l :: Fr) w →
    Calls Tryz.prog 213 #[.pointer (some ⟨l.g, 0, none⟩), .agg #[.int .i64 6, .int .i64 s, .int .i64 p, .int .i64 c]] w (fun e w' => e = .returned (.int .i64 0) ∧ Ok w0 ((g.hear 6 s p c).eg l :: (g.hear 6 s p c).er l :: (g.hear 6 s p c).ep l :: (g.hear 6 s p c).ec l :: Fr) w') := by
  have h4 := hf.nc
  obtain ⟨hp0, hc0⟩ := gvalid_bounds hf hval
  have hp : p < g.posts.length := hp0
  have hp2 : p < g.red.length := by have e1 := hf.reds; have e2 := hf.posts; rw [e2] at e1; omega
  have hc : c < g.cars.length := hc0
  obtain ⟨x, hx⟩ : ∃ x, g.posts[p]? = some x := ⟨_, List.getElem?_eq_getElem hp⟩
  obtain ⟨y, hy⟩ : ∃ y, g.red[p]? = some y := ⟨_, List.getElem?_eq_getElem hp2⟩
  obtain ⟨z, hz⟩ : ∃ z, g.cars[c]? = some z := ⟨_, List.getElem?_eq_getElem hc⟩
  refine enter (vs := [_, _]) Tryz.func213 rfl Tryz.ntmps213 rfl ?_
  refine t_seq ?_
  refine t_region ?_
  refine t_eff rfl (e_box1 rfl rfl rfl fun b2 => ?_)
  refine t_eff rfl (e_box rfl rfl fun b3 => ?_)
  refine t_val (r_assign rfl) rfl ?_
  refine t_nil ?_
  refine Tr.keep (env' := [(2, _), (3, _)]) ⟨rfl, rfl, trivial⟩ ?_
  refine t_then ?_
  refine t_seq ?_
  refine t_seq ?_
  refine t_region ?_
  refine t_val (r_load ca_51 rfl (rd_m (.tail _ (.head _)) rfl)) rfl ?_
  refine t_eff rfl (e_pcall en_41 rfl rfl rfl rfl (guard_ready_c (.tail _ (.tail _ (.head _)))) ?_)
  refine t_val (r_not rfl) rfl ?_
  refine t_nil ?_
  refine Tr.keep (env' := [(2, _), (3, _), (9, _)]) ⟨rfl, rfl, rfl, trivial⟩ ?_
  refine t_then ?_
  refine t_cond rfl (fun hr => ?_) (fun hr => ?_)
  · have hr0 : decide (0 < (g.cars.length : Int)) = true := decide_eq_true (by omega)
    rw [hr0] at hr; cases hr
  · skip
    refine t_skip ?_
    refine t_then ?_
    refine t_seq ?_
    refine t_seq ?_
    refine t_region ?_
    refine t_val (r_load ca_51 rfl (rd_m (.tail _ (.head _)) rfl)) rfl ?_
    refine t_val (r_loads ca_316 rfl (rds_m (n := 4) (vs := [_, _, _, _]) (.head _) rfl) rfl) rfl ?_
    refine t_eff rfl (e_pcall en_269 rfl rfl rfl rfl (guard_valid_c 6 s p c (.tail _ (.tail _ (.head _))) hf) ?_)
    refine t_val (r_not rfl) rfl ?_
    refine t_nil ?_
    refine Tr.keep (env' := [(2, _), (3, _), (13, _)]) ⟨rfl, rfl, rfl, trivial⟩ ?_
    refine t_then ?_
    refine t_cond rfl (fun hv => ?_) (fun hv => ?_)
    · rw [hval] at hv; cases hv
    · skip
      refine t_skip ?_
      refine t_then ?_
      refine t_seq ?_
      refine d_begin mixed rfl ?_
      refine d_val 0 rfl (by kernel_rfl) (by kernel_rfl) (by kernel_rfl) (.then .body) (.refl _) rfl (r_load ca_51 rfl (rd_m (.tail _ (.head _)) rfl)) ?_
      refine d_val 1 rfl (by kernel_rfl) (by kernel_rfl) (by kernel_rfl) (.then .body) (.refl _) rfl (r_nilCheck rfl) ?_
      refine d_val 2 rfl (by kernel_rfl) (by kernel_rfl) (by kernel_rfl) (.then .body) (.refl _) rfl (r_fa fo_121_4 rfl) ?_
      refine d_val 3 rfl (by kernel_rfl) (by kernel_rfl) (by kernel_rfl) (.then .body) (.refl _) rfl (r_load ca_119 rfl (rd_m (.tail _ (.tail _ (.head _))) rfl)) ?_
      refine d_val 4 rfl (by kernel_rfl) (by kernel_rfl) (by kernel_rfl) (.then .body) (.refl _) rfl (r_fa fo_316_3 rfl) ?_
      refine d_val 5 rfl (by kernel_rfl) (by kernel_rfl) (by kernel_rfl) (.then .body) (.refl _) rfl (r_load ca_3 rfl (rd_m (.head _) rfl)) ?_
      refine d_val 6 rfl (by kernel_rfl) (by kernel_rfl) (by kernel_rfl) (.then .body) (.refl _) rfl (r_ia_s c Tryz.underlying119 iz_218 rfl rfl rfl rfl hc) ?_
      refine d_val 7 rfl (by kernel_rfl) (by kernel_rfl) (by kernel_rfl) (.then .body) (.refl _) rfl (r_assign rfl) ?_
      refine d_end (by kernel_rfl) ?_
      refine Tr.keep (env' := [(2, _), (3, _), (5, _)]) ⟨rfl, rfl, rfl, trivial⟩ ?_
      refine t_then ?_
      refine t_seq ?_
      refine t_region ?_
      refine t_val (r_makeFunc rfl rfl) rfl ?_
      refine t_val (r_assign rfl) rfl ?_
      refine t_nil ?_
      refine Tr.keep (env' := [(2, _), (3, _), (5, _), (6, _)]) ⟨rfl, rfl, rfl, rfl, trivial⟩ ?_
      refine t_then ?_
      refine t_seq ?_
      refine t_seq ?_
      refine t_region ?_
      refine t_val (r_fa fo_316_0 rfl) rfl ?_
      refine t_val (r_load ca_311 rfl (rd_m (.head _) rfl)) rfl ?_
      refine t_nil ?_
      refine Tr.keep (env' := [(2, _), (3, _), (5, _), (6, _), (23, _)]) ⟨rfl, rfl, rfl, rfl, rfl, trivial⟩ ?_
      refine t_then ?_
      refine t_block ?_
      refine t_seq ?_
      refine t_seq ?_
      refine t_region ?_
      refine t_val (r_eq rfl rfl) rfl ?_
      refine t_val (r_assign rfl) rfl ?_
      refine t_nil ?_
      refine Tr.keep (env' := [(2, _), (3, _), (5, _), (6, _), (23, _), (24, _)]) ⟨rfl, rfl, rfl, rfl, rfl, rfl, trivial⟩ ?_
      refine t_then ?_
      refine t_cond_f rfl ?_
      refine t_region ?_
      refine t_val (r_eq rfl rfl) rfl ?_
      refine t_val (r_assign rfl) rfl ?_
      refine t_nil ?_
      refine Tr.keep (env' := [(2, _), (3, _), (5, _), (6, _), (23, _), (24, _)]) ⟨rfl, rfl, rfl, rfl, rfl, rfl, trivial⟩ ?_
      refine t_then ?_
      refine t_cond_f rfl ?_
      refine t_seq ?_
      refine t_seq ?_
      refine t_region ?_
      refine t_val (r_eq rfl rfl) rfl ?_
      refine t_val (r_assign rfl) rfl ?_
      refine t_nil ?_
      refine Tr.keep (env' := [(2, _), (3, _), (5, _), (6, _), (23, _), (37, _)]) ⟨rfl, rfl, rfl, rfl, rfl, rfl, trivial⟩ ?_
      refine t_then ?_
      refine t_cond_t rfl ?_
      refine t_skip ?_
      refine t_then ?_
      refine t_cond_t rfl ?_
      refine d_beginS (.cons_cons _ (.cons_cons _ (.cons _ (.refl _)))) mixed rfl ?_
      refine d_val 0 rfl (by kernel_rfl) (by kernel_rfl) (by kernel_rfl) (.inBlock (.then .body)) (.cons_cons _ (.cons_cons _ (.cons _ (.refl _)))) rfl (r_load ca_51 rfl (rd_m (.tail _ (.head _)) rfl)) ?_
      refine d_val 1 rfl (by kernel_rfl) (by kernel_rfl) (by kernel_rfl) (.inBlock (.then .body)) (.cons_cons _ (.cons_cons _ (.cons _ (.refl _)))) rfl (r_nilCheck rfl) ?_
      refine d_val 2 rfl (by kernel_rfl) (by kernel_rfl) (by kernel_rfl) (.inBlock (.then .body)) (.cons_cons _ (.cons_cons _ (.cons _ (.refl _)))) rfl (r_fa fo_121_1 rfl) ?_
      refine d_val 3 rfl (by kernel_rfl) (by kernel_rfl) (by kernel_rfl) (.inBlock (.then .body)) (.cons_cons _ (.cons_cons _ (.cons _ (.refl _)))) rfl (r_iaa (j := 1) Tryz.underlying117 iz_116 rfl rfl rfl (by decide)) ?_
      refine d_val 4 rfl (by kernel_rfl) (by kernel_rfl) (by kernel_rfl) (.inBlock (.then .body)) (.cons_cons _ (.cons_cons _ (.cons _ (.refl _)))) rfl (r_fa fo_316_0 rfl) ?_
      refine d_val 5 rfl (by kernel_rfl) (by kernel_rfl) (by kernel_rfl) (.inBlock (.then .body)) (.cons_cons _ (.cons_cons _ (.cons _ (.refl _)))) rfl (r_load ca_311 rfl (rd_m (.head _) rfl)) ?_
      refine d_val 6 rfl (by kernel_rfl) (by kernel_rfl) (by kernel_rfl) (.inBlock (.then .body)) (.cons_cons _ (.cons_cons _ (.cons _ (.refl _)))) rfl (r_eq rfl rfl) ?_
      refine d_val 7 rfl (by kernel_rfl) (by kernel_rfl) (by kernel_rfl) (.inBlock (.then .body)) (.cons_cons _ (.cons_cons _ (.cons _ (.refl _)))) rfl (r_fa fo_316_1 rfl) ?_
      refine d_val 8 rfl (by kernel_rfl) (by kernel_rfl) (by kernel_rfl) (.inBlock (.then .body)) (.cons_cons _ (.cons_cons _ (.cons _ (.refl _)))) rfl (r_load ca_3 rfl (rd_m (.head _) rfl)) ?_
      refine d_eff 9 rfl rfl (by kernel_rfl) (e_mcall en_271 rfl rfl rfl rfl (latest_hear_c _ _ [_, _] _ [_, _, _, _, _, _, _, _, _] [_, _, _] g.covered true false s) ?_)
      refine d_held (.cons_cons _ (.cons_cons _ (.cons _ (.refl _)))) ?_
      refine d_end (by kernel_rfl) ?_
      refine Tr.keep (env' := []) trivial ?_
      refine t_in ?_
      refine t_then ?_
      refine t_seq ?_
      refine t_region ?_
      refine t_val (r_assign rfl) rfl ?_
      refine t_nil ?_
      refine Tr.keep (env' := [(4, _)]) ⟨rfl, trivial⟩ ?_
      refine t_then ?_
      refine t_retc ?_
      refine t_ret1 rfl rfl (fun w hw => ?_)
      refine ⟨rfl, ?_⟩
      have e1 : g.hear 6 s p c = { g with covered := g.covered.hear true s false } := by simp [GuardSt.hear, hx, hy, hz]
      rw [e1]
      have h := Ok.sub hw (.cons _ (.cons _ (List.Sublist.refl _)))
      first | exact h | (simp only [GuardSt.eg, GuardSt.er, GuardSt.ep, GuardSt.ec, GuardSt.cells, List.length_set] at h ⊢; exact h)
theorem guard_hear_8 {g : GuardSt} {l : GAt} {Fr : List Ent} (s : Int) (p c : Nat) (hf : g.Fine) (hval : gvalid g.plan 8 s p c = true) : ∀ w, Ok w0 (g.eg l :: g.er l :: g.ep l :: g.ec l :: Fr) w →
    Calls Tryz.prog 213 #[.pointer (some ⟨l.g, 0, none⟩), .agg #[.int .i64 8, .int .i64 s, .int .i64 p, .int .i64 c]] w (fun e w' => e = .returned (.int .i64 0) ∧ Ok w0 ((g.hear 8 s p c).eg l :: (g.hear 8 s p c).er l :: (g.hear 8 s p c).ep l :: (g.hear 8 s p c).ec l :: Fr) w') := by
  have h4 := hf.nc
  obtain ⟨hp0, hc0⟩ := gvalid_bounds hf hval
  have hp : p < g.posts.length := hp0
  have hp2 : p < g.red.length := by have e1 := hf.reds; have e2 := hf.posts; rw [e2] at e1; omega
  have hc : c < g.cars.length := hc0
  obtain ⟨x, hx⟩ : ∃ x, g.posts[p]? = some x := ⟨_, List.getElem?_eq_getElem hp⟩
  obtain ⟨y, hy⟩ : ∃ y, g.red[p]? = some y := ⟨_, List.getElem?_eq_getElem hp2⟩
  obtain ⟨z, hz⟩ : ∃ z, g.cars[c]? = some z := ⟨_, List.getElem?_eq_getElem hc⟩
  have hsp := fun z' => flat_split GState.cells g.cars c z z' hz
  have hpl := flat_take_length GState.cells 5 cells5 g.cars c (by omega)
  generalize flat ((g.cars.take c).map GState.cells) = pre at hsp hpl
  generalize flat ((g.cars.drop (c + 1)).map GState.cells) = post at hsp
  show ∀ w, Ok w0 (g.eg l :: g.er l :: g.ep l :: cel l.c 218 (flat (g.cars.map GState.cells)) :: Fr) w → _
  rw [(hsp z).1]
  refine enter (vs := [_, _]) Tryz.func213 rfl Tryz.ntmps213 rfl ?_
  refine t_seq ?_
  refine t_region ?_
  refine t_eff rfl (e_box1 rfl rfl rfl fun b2 => ?_)
  refine t_eff rfl (e_box rfl rfl fun b3 => ?_)
  refine t_val (r_assign rfl) rfl ?_
  refine t_nil ?_
  refine Tr.keep (env' := [(2, _), (3, _)]) ⟨rfl, rfl, trivial⟩ ?_
  refine t_then ?_
  refine t_seq ?_
  refine t_seq ?_
  refine t_region ?_
  refine t_val (r_load ca_51 rfl (rd_m (.tail _ (.head _)) rfl)) rfl ?_
  refine t_eff rfl (e_pcall en_41 rfl rfl rfl rfl (guard_ready_c (.tail _ (.tail _ (.head _)))) ?_)
  refine t_val (r_not rfl) rfl ?_
  refine t_nil ?_
  refine Tr.keep (env' := [(2, _), (3, _), (9, _)]) ⟨rfl, rfl, rfl, trivial⟩ ?_
  refine t_then ?_
  refine t_cond rfl (fun hr => ?_) (fun hr => ?_)
  · have hr0 : decide (0 < (g.cars.length : Int)) = true := decide_eq_true (by omega)
    rw [hr0] at hr; cases hr
  · skip
    refine t_skip ?_
    refine t_then ?_
    refine t_seq ?_
    refine t_seq ?_
    refine t_region ?_
    refine t_val (r_load ca_51 rfl (rd_m (.tail _ (.head _)) rfl)) rfl ?_
    refine t_val (r_loads ca_316 rfl (rds_m (n := 4) (vs := [_, _, _, _]) (.head _) rfl) rfl) rfl ?_
    refine t_eff rfl (e_pcall en_269 rfl rfl rfl rfl (guard_valid_c 8 s p c (.tail _ (.tail _ (.head _))) hf) ?_)
    refine t_val (r_not rfl) rfl ?_
    refine t_nil ?_
    refine Tr.keep (env' := [(2, _), (3, _), (13, _)]) ⟨rfl, rfl, rfl, trivial⟩ ?_
    refine t_then ?_
    refine t_cond rfl (fun hv => ?_) (fun hv => ?_)
    · rw [hval] at hv; cases hv
    · skip
      refine t_skip ?_
      refine t_then ?_
      refine t_seq ?_
      refine d_begin mixed rfl ?_
      refine d_val 0 rfl (by kernel_rfl) (by kernel_rfl) (by kernel_rfl) (.then .body) (.refl _) rfl (r_load ca_51 rfl (rd_m (.tail _ (.head _)) rfl)) ?_
      refine d_val 1 rfl (by kernel_rfl) (by kernel_rfl) (by kernel_rfl) (.then .body) (.refl _) rfl (r_nilCheck rfl) ?_
      refine d_val 2 rfl (by kernel_rfl) (by kernel_rfl) (by kernel_rfl) (.then .body) (.refl _) rfl (r_fa fo_121_4 rfl) ?_
      refine d_val 3 rfl (by kernel_rfl) (by kernel_rfl) (by kernel_rfl) (.then .body) (.refl _) rfl (r_load ca_119 rfl (rd_m (.tail _ (.tail _ (.head _))) rfl)) ?_
      refine d_val 4 rfl (by kernel_rfl) (by kernel_rfl) (by kernel_rfl) (.then .body) (.refl _) rfl (r_fa fo_316_3 rfl) ?_
      refine d_val 5 rfl (by kernel_rfl) (by kernel_rfl) (by kernel_rfl) (.then .body) (.refl _) rfl (r_load ca_3 rfl (rd_m (.head _) rfl)) ?_
      refine d_val 6 rfl (by kernel_rfl) (by kernel_rfl) (by kernel_rfl) (.then .body) (.refl _) rfl (r_ia_at c pre.length Tryz.underlying119 iz_218 rfl rfl rfl rfl hc (by rw [Nat.zero_add, hpl])) ?_
      refine d_val 7 rfl (by kernel_rfl) (by kernel_rfl) (by kernel_rfl) (.then .body) (.refl _) rfl (r_assign rfl) ?_
      refine d_end (by kernel_rfl) ?_
      refine Tr.keep (env' := [(2, _), (3, _), (5, _)]) ⟨rfl, rfl, rfl, trivial⟩ ?_
      refine t_then ?_
      refine t_seq ?_
      refine t_region ?_
      refine t_val (r_makeFunc rfl rfl) rfl ?_
      refine t_val (r_assign rfl) rfl ?_
      refine t_nil ?_
      refine Tr.keep (env' := [(2, _), (3, _), (5, _), (6, _)]) ⟨rfl, rfl, rfl, rfl, trivial⟩ ?_
      refine t_then ?_
      refine t_seq ?_
      refine t_seq ?_
      refine t_region ?_
      refine t_val (r_fa fo_316_0 rfl) rfl ?_
      refine t_val (r_load ca_311 rfl (rd_m (.head _) rfl)) rfl ?_
      refine t_nil ?_
      refine Tr.keep (env' := [(2, _), (3, _), (5, _), (6, _), (23, _)]) ⟨rfl, rfl, rfl, rfl, rfl, trivial⟩ ?_
      refine t_then ?_
      refine t_block ?_
      refine t_seq ?_
      refine t_seq ?_
      refine t_region ?_
      refine t_val (r_eq rfl rfl) rfl ?_
      refine t_val (r_assign rfl) rfl ?_
      refine t_nil ?_
      refine Tr.keep (env' := [(2, _), (3, _), (5, _), (6, _), (23, _), (24, _)]) ⟨rfl, rfl, rfl, rfl, rfl, rfl, trivial⟩ ?_
      refine t_then ?_
      refine t_cond_f rfl ?_
      refine t_region ?_
      refine t_val (r_eq rfl rfl) rfl ?_
      refine t_val (r_assign rfl) rfl ?_
      refine t_nil ?_
      refine Tr.keep (env' := [(2, _), (3, _), (5, _), (6, _), (23, _), (24, _)]) ⟨rfl, rfl, rfl, rfl, rfl, rfl, trivial⟩ ?_
      refine t_then ?_
      refine t_cond_f rfl ?_
      refine t_seq ?_
      refine t_seq ?_
      refine t_region ?_
      refine t_val (r_eq rfl rfl) rfl ?_
      refine t_val (r_assign rfl) rfl ?_
      refine t_nil ?_
      refine Tr.keep (env' := [(2, _), (3, _), (5, _), (6, _), (23, _), (37, _)]) ⟨rfl, rfl, rfl, rfl, rfl, rfl, trivial⟩ ?_
      refine t_then ?_
      refine t_cond_f rfl ?_
      refine t_region ?_
      refine t_val (r_eq rfl rfl) rfl ?_
      refine t_val (r_assign rfl) rfl ?_
      refine t_nil ?_
      refine Tr.keep (env' := [(2, _), (3, _), (5, _), (6, _), (23, _), (37, _)]) ⟨rfl, rfl, rfl, rfl, rfl, rfl, trivial⟩ ?_
      refine t_then ?_
      refine t_cond_f rfl ?_
      refine t_seq ?_
      refine t_region ?_
      refine t_val (r_eq rfl rfl) rfl ?_
      refine t_val (r_assign rfl) rfl ?_
      refine t_nil ?_
      refine Tr.keep (env' := [(2, _), (3, _), (5, _), (6, _), (23, _), (50, _)]) ⟨rfl, rfl, rfl, rfl, rfl, rfl, trivial⟩ ?_
      refine t_then ?_
      refine t_cond_f rfl ?_
      refine t_seq ?_
      refine t_seq ?_
      refine t_region ?_
      refine t_val (r_eq rfl rfl) rfl ?_
      refine t_val (r_assign rfl) rfl ?_
      refine t_nil ?_
      refine Tr.keep (env' := [(2, _), (3, _), (5, _), (6, _), (23, _), (54, _)]) ⟨rfl, rfl, rfl, rfl, rfl, rfl, trivial⟩ ?_
      refine t_then ?_
      refine t_cond_f rfl ?_
      refine t_region ?_
      refine t_val (r_eq rfl rfl) rfl ?_
      refine t_val (r_assign rfl) rfl ?_
      refine t_nil ?_
      refine Tr.keep (env' := [(2, _), (3, _), (5, _), (6, _), (23, _), (54, _)]) ⟨rfl, rfl, rfl, rfl, rfl, rfl, trivial⟩ ?_
      refine t_then ?_
      refine t_cond_f rfl ?_
      refine t_seq ?_
      refine t_region ?_
      refine t_val (r_eq rfl rfl) rfl ?_
      refine t_val (r_assign rfl) rfl ?_
      refine t_nil ?_
      refine Tr.keep (env' := [(3, _), (5, _), (6, _), (23, _), (72, _)]) ⟨rfl, rfl, rfl, rfl, rfl, trivial⟩ ?_
      refine t_then ?_
      refine t_cond_t rfl ?_
      refine t_seq ?_
      refine t_seq ?_
      refine t_region ?_
      refine t_val (r_move rfl) rfl ?_
      refine t_val (r_nilCheck rfl) rfl ?_
      refine t_val (r_fa fo_218_0 rfl) rfl ?_
      refine t_val (r_load ca_4 rfl (rd_m (.tail _ (.tail _ (.tail _ (.tail _ (.tail _ (.head _)))))) (get_app rfl))) rfl ?_
      refine t_nil ?_
      refine Tr.keep (env' := [(3, _), (5, _), (6, _), (77, _)]) ⟨rfl, rfl, rfl, rfl, trivial⟩ ?_
      refine t_then ?_
      refine t_cond rfl (fun hst => ?_) (fun hst => ?_)
      · skip
        refine d_beginS (.cons_cons _ (.cons_cons _ (.cons_cons _ (.cons_cons _ (.cons_cons _ (.cons _ (.refl _))))))) mixed rfl ?_
        refine d_val 0 rfl (by kernel_rfl) (by kernel_rfl) (by kernel_rfl) (.then (.inBlock (.then .body))) (.cons_cons _ (.cons_cons _ (.cons_cons _ (.cons_cons _ (.cons_cons _ (.cons _ (.refl _))))))) rfl (r_move rfl) ?_
        refine d_val 1 rfl (by kernel_rfl) (by kernel_rfl) (by kernel_rfl) (.then (.inBlock (.then .body))) (.cons_cons _ (.cons_cons _ (.cons_cons _ (.cons_cons _ (.cons_cons _ (.cons _ (.refl _))))))) rfl (r_move rfl) ?_
        refine d_val 2 rfl (by kernel_rfl) (by kernel_rfl) (by kernel_rfl) (.then (.inBlock (.then .body))) (.cons_cons _ (.cons_cons _ (.cons_cons _ (.cons_cons _ (.cons_cons _ (.cons _ (.refl _))))))) rfl (r_nilCheck rfl) ?_
        refine d_val 3 rfl (by kernel_rfl) (by kernel_rfl) (by kernel_rfl) (.then (.inBlock (.then .body))) (.cons_cons _ (.cons_cons _ (.cons_cons _ (.cons_cons _ (.cons_cons _ (.cons _ (.refl _))))))) rfl (r_fa fo_218_2 rfl) ?_
        refine d_val 5 rfl (by kernel_rfl) (by kernel_rfl) (by kernel_rfl) (.then (.inBlock (.then .body))) (.cons_cons _ (.cons_cons _ (.cons_cons _ (.cons_cons _ (.cons_cons _ (.cons _ (.refl _))))))) rfl (r_fa fo_316_2 rfl) ?_
        refine d_val 6 rfl (by kernel_rfl) (by kernel_rfl) (by kernel_rfl) (.then (.inBlock (.then .body))) (.cons_cons _ (.cons_cons _ (.cons_cons _ (.cons_cons _ (.cons_cons _ (.cons _ (.refl _))))))) rfl (r_load ca_3 rfl (rd_m (.head _) rfl)) ?_
        refine d_eff 4 rfl rfl (by kernel_rfl) (e_val (r_load ca_3 rfl (rd_m (.tail _ (.tail _ (.tail _ (.tail _ (.tail _ (.head _)))))) (get_app rfl))) rfl ?_)
        refine d_held (.cons_cons _ (.cons_cons _ (.cons_cons _ (.cons_cons _ (.cons_cons _ (.cons _ (.refl _))))))) ?_
        refine d_val 7 rfl (by kernel_rfl) (by kernel_rfl) (by kernel_rfl) (.then (.inBlock (.then .body))) (.cons_cons _ (.cons_cons _ (.cons_cons _ (.cons_cons _ (.cons_cons _ (.cons _ (.refl _))))))) rfl (r_max rfl rfl) ?_
        refine d_val 8 rfl (by kernel_rfl) (by kernel_rfl) (by kernel_rfl) (.then (.inBlock (.then .body))) (.cons_cons _ (.cons_cons _ (.cons_cons _ (.cons_cons _ (.cons_cons _ (.cons _ (.refl _))))))) rfl (r_nilCheck rfl) ?_
        refine d_val 9 rfl (by kernel_rfl) (by kernel_rfl) (by kernel_rfl) (.then (.inBlock (.then .body))) (.cons_cons _ (.cons_cons _ (.cons_cons _ (.cons_cons _ (.cons_cons _ (.cons _ (.refl _))))))) rfl (r_fa fo_218_2 rfl) ?_
        refine d_eff 10 rfl rfl (by kernel_rfl) (e_store iz_3 rfl rfl rfl (.app (.succ (.succ .zero))) (.there (.there (.there (.there (.there .here))))) ?_)
        refine d_held (.cons_cons _ (.cons_cons _ (.cons_cons _ (.cons_cons _ (.cons_cons _ (.cons _ (.refl _))))))) ?_
        refine d_end (by kernel_rfl) ?_
        refine Tr.keep (env' := [(6, _)]) ⟨rfl, trivial⟩ ?_
        refine t_then ?_
        refine t_region ?_
        refine t_val (r_move rfl) rfl ?_
        refine t_eff rfl (e_mcall en_270 rfl rfl rfl rfl (guard_report_c _ s _ p x hx) ?_)
        refine t_nil ?_
        refine Tr.keep (env' := []) trivial ?_
        refine t_in ?_
        refine t_then ?_
        refine t_seq ?_
        refine t_region ?_
        refine t_val (r_assign rfl) rfl ?_
        refine t_nil ?_
        refine Tr.keep (env' := [(4, _)]) ⟨rfl, trivial⟩ ?_
        refine t_then ?_
        refine t_retc ?_
        refine t_ret1 rfl rfl (fun w hw => ?_)
        refine ⟨rfl, ?_⟩
        have e1 : g.hear 8 s p c = { g with posts := g.posts.set p (x.hear true s true), cars := g.cars.set c { z with post := if z.started then max z.post p else z.post } } := by simp [GuardSt.hear, hx, hy, hz]
        rw [e1]
        have h := Ok.sub hw (.cons _ (.cons _ (List.Sublist.refl _)))
        simp only [GuardSt.eg, GuardSt.er, GuardSt.ep, GuardSt.ec, GuardSt.cells, List.length_set] at h ⊢
        rw [(hsp _).2]
        simpa [GState.cells, hst] using h
      · skip
        refine t_skip ?_
        refine t_then ?_
        refine t_region ?_
        refine t_val (r_move rfl) rfl ?_
        refine t_eff rfl (e_mcall en_270 rfl rfl rfl rfl (guard_report_c _ s _ p x hx) ?_)
        refine t_nil ?_
        refine Tr.keep (env' := []) trivial ?_
        refine t_in ?_
        refine t_then ?_
        refine t_seq ?_
        refine t_region ?_
        refine t_val (r_assign rfl) rfl ?_
        refine t_nil ?_
        refine Tr.keep (env' := [(4, _)]) ⟨rfl, trivial⟩ ?_
        refine t_then ?_
        refine t_retc ?_
        refine t_ret1 rfl rfl (fun w hw => ?_)
        refine ⟨rfl, ?_⟩
        have e1 : g.hear 8 s p c = { g with posts := g.posts.set p (x.hear true s true), cars := g.cars.set c { z with post := if z.started then max z.post p else z.post } } := by simp [GuardSt.hear, hx, hy, hz]
        rw [e1]
        have h := Ok.sub hw (.cons _ (.cons _ (List.Sublist.refl _)))
        simp only [GuardSt.eg, GuardSt.er, GuardSt.ep, GuardSt.ec, GuardSt.cells, List.length_set] at h ⊢
        rw [(hsp _).2]
        simpa [GState.cells, hst] using h
end
end Go.Proofs.W
