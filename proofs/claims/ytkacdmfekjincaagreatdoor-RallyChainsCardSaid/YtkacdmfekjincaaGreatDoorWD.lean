/-
  What functions of the program that RallyChains reaches do, one contract each, part 4.
-/
import Derived.Test.YtkacdmfekjincaaGreatDoorWC
set_option linter.unusedVariables false
set_option linter.unusedSimpArgs false
set_option linter.unusedSectionVars false
set_option maxRecDepth 100000
namespace Go.Proofs.W
open Go Go.Sl Go.RowKit Go.Proofs
theorem en_135 : Enters Tryz.prog 135 := enters_of Tryz.func135 (by kernel_rfl) (by kernel_rfl)
theorem en_187 : Enters Tryz.prog 187 := enters_of Tryz.func187 (by kernel_rfl) (by kernel_rfl)
theorem en_207 : Enters Tryz.prog 207 := enters_of Tryz.func207 (by kernel_rfl) (by kernel_rfl)
theorem en_246 : Enters Tryz.prog 246 := enters_of Tryz.func246 (by kernel_rfl) (by kernel_rfl)
theorem en_287 : Enters Tryz.prog 287 := enters_of Tryz.func287 (by kernel_rfl) (by kernel_rfl)
section
variable {w0 : World} {M : List Ent}
theorem len64_two : ∀ w, Ok w0 M w → Calls Tryz.prog 207 #[.int .u64 2] w (fun e w' => e = .returned (.int .i64 2) ∧ Ok w0 M w') := by
  refine enter (vs := [_]) Tryz.func207 rfl Tryz.ntmps207 rfl ?_
  refine t_seq ?_
  refine t_region ?_
  refine t_val (r_assign rfl) rfl ?_
  refine t_nil ?_
  refine Tr.keep (env' := [(0, _), (2, _)]) ⟨rfl, rfl, trivial⟩ ?_
  refine t_then ?_
  refine t_seq ?_
  refine t_seq ?_
  refine t_region ?_
  refine t_val (r_move rfl) rfl ?_
  refine t_val (r_ge rfl rfl) rfl ?_
  refine t_nil ?_
  refine Tr.keep (env' := [(0, _), (2, _), (4, _)]) ⟨rfl, rfl, rfl, trivial⟩ ?_
  refine t_then ?_
  refine t_cond_f rfl ?_
  refine t_skip ?_
  refine t_then ?_
  refine t_seq ?_
  refine t_seq ?_
  refine t_region ?_
  refine t_val (r_move rfl) rfl ?_
  refine t_val (r_ge rfl rfl) rfl ?_
  refine t_nil ?_
  refine Tr.keep (env' := [(0, _), (2, _), (8, _)]) ⟨rfl, rfl, rfl, trivial⟩ ?_
  refine t_then ?_
  refine t_cond_f rfl ?_
  refine t_skip ?_
  refine t_then ?_
  refine t_seq ?_
  refine t_seq ?_
  refine t_region ?_
  refine t_val (r_move rfl) rfl ?_
  refine t_val (r_ge rfl rfl) rfl ?_
  refine t_nil ?_
  refine Tr.keep (env' := [(0, _), (2, _), (14, _)]) ⟨rfl, rfl, rfl, trivial⟩ ?_
  refine t_then ?_
  refine t_cond_f rfl ?_
  refine t_skip ?_
  refine t_then ?_
  refine t_seq ?_
  refine t_region ?_
  refine t_val (r_move rfl) rfl ?_
  refine t_val (r_move rfl) rfl ?_
  refine t_val (r_convI Tryz.underlying82 Tryz.underlying5 rfl (by decide : IntKind.u8.wrap 2 = 2)) rfl ?_
  refine t_val (r_sidx (b := 2) 2 Tryz.underlying9 rfl rfl rfl (by kernel_rfl)) rfl ?_
  refine t_val (r_convI Tryz.underlying5 Tryz.underlying3 rfl (by decide : IntKind.i64.wrap ((2 : UInt8).toNat : Int) = 2)) rfl ?_
  refine t_val (r_addi rfl rfl (by omega)) rfl ?_
  refine t_val (r_assign rfl) rfl ?_
  refine t_nil ?_
  refine Tr.keep (env' := [(2, _)]) ⟨rfl, trivial⟩ ?_
  refine t_then ?_
  refine t_retc ?_
  refine t_ret1 rfl rfl (fun w hw => ?_)
  exact ⟨rfl, hw⟩
theorem len_two : ∀ w, Ok w0 M w → Calls Tryz.prog 135 #[.int .u64 2] w (fun e w' => e = .returned (.int .i64 2) ∧ Ok w0 M w') := by
  refine enter (vs := [_]) Tryz.func135 rfl Tryz.ntmps135 rfl ?_
  refine t_seq ?_
  refine t_region ?_
  refine t_val (r_assign rfl) rfl ?_
  refine t_nil ?_
  refine Tr.keep (env' := [(0, _)]) ⟨rfl, trivial⟩ ?_
  refine t_then ?_
  refine t_seq ?_
  refine t_cond_f rfl ?_
  refine t_skip ?_
  refine t_then ?_
  refine t_seq ?_
  refine t_region ?_
  refine t_val (r_move rfl) rfl ?_
  refine t_eff rfl (e_pcall en_207 rfl rfl rfl rfl len64_two ?_)
  refine t_val (r_assign rfl) rfl ?_
  refine t_nil ?_
  refine Tr.keep (env' := [(2, _)]) ⟨rfl, trivial⟩ ?_
  refine t_then ?_
  refine t_retc ?_
  refine t_ret1 rfl rfl (fun w hw => ?_)
  exact ⟨rfl, hw⟩
theorem insertion2_sorted {b c : Nat} {r s : Rep} {a d : Int} {sp : List Value} (ho : ¬ ordR s r < 0) : ∀ w, Ok w0 (cel b 228 (.int .i64 r.source :: .int .i64 r.number :: .int .i64 r.kind :: .int .i64 r.car :: .int .i64 r.place :: .int .i64 r.time :: .int .i64 a :: .int .i64 s.source :: .int .i64 s.number :: .int .i64 s.kind :: .int .i64 s.car :: .int .i64 s.place :: .int .i64 s.time :: .int .i64 d :: sp) :: M) w → Calls Tryz.prog 287 #[.slice (some ⟨b, 0, none⟩) 2 c, .int .i64 0, .int .i64 2, .func (.func 187) #[] #[]] w (fun e w' => e = .returned (.tuple #[]) ∧ Ok w0 (cel b 228 (.int .i64 r.source :: .int .i64 r.number :: .int .i64 r.kind :: .int .i64 r.car :: .int .i64 r.place :: .int .i64 r.time :: .int .i64 a :: .int .i64 s.source :: .int .i64 s.number :: .int .i64 s.kind :: .int .i64 s.car :: .int .i64 s.place :: .int .i64 s.time :: .int .i64 d :: sp) :: M) w') := by
  refine enter (vs := [_, _, _, _]) Tryz.func287 rfl Tryz.ntmps287 rfl ?_
  refine t_seq ?_
  refine t_region ?_
  refine t_val (r_move rfl) rfl ?_
  refine t_val (r_addi rfl rfl (by omega)) rfl ?_
  refine t_val (r_assign rfl) rfl ?_
  refine t_nil ?_
  refine Tr.keep (env' := [(0, _), (1, _), (2, _), (3, _), (8, _)]) ⟨rfl, rfl, rfl, rfl, rfl, trivial⟩ ?_
  refine t_then ?_
  refine t_block ?_
  refine t_unroll0 ?_
  refine t_unroll ?_
  refine t_seq ?_
  refine t_seq ?_
  refine t_region ?_
  refine t_val (r_move rfl) rfl ?_
  refine t_val (r_move rfl) rfl ?_
  refine t_val (r_lt rfl rfl) rfl ?_
  refine t_nil ?_
  refine Tr.keep (env' := [(0, _), (1, _), (2, _), (3, _), (8, _), (14, _)]) ⟨rfl, rfl, rfl, rfl, rfl, rfl, trivial⟩ ?_
  refine t_then ?_
  refine t_cond_t rfl ?_
  refine t_skip ?_
  refine t_then ?_
  refine t_seq ?_
  refine t_block ?_
  refine t_seq ?_
  refine t_region ?_
  refine t_val (r_move rfl) rfl ?_
  refine t_val (r_assign rfl) rfl ?_
  refine t_nil ?_
  refine Tr.keep (env' := [(0, _), (1, _), (2, _), (3, _), (8, _), (9, _)]) ⟨rfl, rfl, rfl, rfl, rfl, rfl, trivial⟩ ?_
  refine t_then ?_
  refine t_block ?_
  refine t_unroll0 ?_
  refine t_unroll ?_
  refine t_seq ?_
  refine t_seq ?_
  refine d_begin mixed rfl ?_
  refine d_val 0 rfl (by kernel_rfl) (by kernel_rfl) (by kernel_rfl) (.then (.then (.then (.inBlock (.inBlock (.then (.then (.inBlock .body)))))))) (.refl _) rfl (r_move rfl) ?_
  refine d_val 1 rfl (by kernel_rfl) (by kernel_rfl) (by kernel_rfl) (.then (.then (.then (.inBlock (.inBlock (.then (.then (.inBlock .body)))))))) (.refl _) rfl (r_move rfl) ?_
  refine d_val 2 rfl (by kernel_rfl) (by kernel_rfl) (by kernel_rfl) (.then (.then (.then (.inBlock (.inBlock (.then (.then (.inBlock .body)))))))) (.refl _) rfl (r_gt rfl rfl) ?_
  refine d_val 3 rfl (by kernel_rfl) (by kernel_rfl) (by kernel_rfl) (.then (.then (.then (.inBlock (.inBlock (.then (.then (.inBlock .body)))))))) (.refl _) rfl (r_move rfl) ?_
  refine d_gval 4 rfl (by kernel_rfl) (by kernel_rfl) (by kernel_rfl) (.then (.then (.then (.inBlock (.inBlock (.then (.then (.inBlock .body)))))))) (.refl _) rfl rfl rfl (r_move rfl) ?_
  refine d_gval 5 rfl (by kernel_rfl) (by kernel_rfl) (by kernel_rfl) (.then (.then (.then (.inBlock (.inBlock (.then (.then (.inBlock .body)))))))) (.refl _) rfl rfl rfl (r_move rfl) ?_
  refine d_gval 6 rfl (by kernel_rfl) (by kernel_rfl) (by kernel_rfl) (.then (.then (.then (.inBlock (.inBlock (.then (.then (.inBlock .body)))))))) (.refl _) rfl rfl rfl (r_move rfl) ?_
  refine d_gval 7 rfl (by kernel_rfl) (by kernel_rfl) (by kernel_rfl) (.then (.then (.then (.inBlock (.inBlock (.then (.then (.inBlock .body)))))))) (.refl _) rfl rfl rfl (r_ia (j := 1) Tryz.underlying221 iz_228 rfl rfl rfl (by decide)) ?_
  refine d_gval 8 rfl (by kernel_rfl) (by kernel_rfl) (by kernel_rfl) (.then (.then (.then (.inBlock (.inBlock (.then (.then (.inBlock .body)))))))) (.refl _) rfl rfl rfl (r_loads ca_228 rfl (rds_m (n := 7) (vs := [_, _, _, _, _, _, _]) (.head _) rfl) rfl) ?_
  refine d_gval 9 rfl (by kernel_rfl) (by kernel_rfl) (by kernel_rfl) (.then (.then (.then (.inBlock (.inBlock (.then (.then (.inBlock .body)))))))) (.refl _) rfl rfl rfl (r_move rfl) ?_
  refine d_gval 10 rfl (by kernel_rfl) (by kernel_rfl) (by kernel_rfl) (.then (.then (.then (.inBlock (.inBlock (.then (.then (.inBlock .body)))))))) (.refl _) rfl rfl rfl (r_move rfl) ?_
  refine d_gval 11 rfl (by kernel_rfl) (by kernel_rfl) (by kernel_rfl) (.then (.then (.then (.inBlock (.inBlock (.then (.then (.inBlock .body)))))))) (.refl _) rfl rfl rfl (r_subi rfl rfl (by omega)) ?_
  refine d_gval 12 rfl (by kernel_rfl) (by kernel_rfl) (by kernel_rfl) (.then (.then (.then (.inBlock (.inBlock (.then (.then (.inBlock .body)))))))) (.refl _) rfl rfl rfl (r_ia (j := 0) Tryz.underlying221 iz_228 rfl rfl rfl (by decide)) ?_
  refine d_gval 13 rfl (by kernel_rfl) (by kernel_rfl) (by kernel_rfl) (.then (.then (.then (.inBlock (.inBlock (.then (.then (.inBlock .body)))))))) (.refl _) rfl rfl rfl (r_loads ca_228 rfl (rds_m (n := 7) (vs := [_, _, _, _, _, _, _]) (.head _) rfl) rfl) ?_
  refine d_geff 14 rfl (by kernel_rfl) rfl rfl (e_pcall en_187 rfl rfl rfl rfl (order_c s r d a) ?_)
  refine d_held (.refl _) ?_
  refine d_gval 15 rfl (by kernel_rfl) (by kernel_rfl) (by kernel_rfl) (.then (.then (.then (.inBlock (.inBlock (.then (.then (.inBlock .body)))))))) (.refl _) rfl rfl rfl (r_lt rfl rfl) ?_
  refine d_val 16 rfl (by kernel_rfl) (by kernel_rfl) (by kernel_rfl) (.then (.then (.then (.inBlock (.inBlock (.then (.then (.inBlock .body)))))))) (.refl _) rfl (r_pick_t rfl rfl) ?_
  refine d_end (by kernel_rfl) ?_
  refine Tr.keep (env' := [(0, _), (1, _), (2, _), (3, _), (8, _), (9, _), (34, _)]) ⟨rfl, rfl, rfl, rfl, rfl, rfl, rfl, trivial⟩ ?_
  refine t_then ?_
  refine t_cond rfl (fun hs => ?_) (fun hs => ?_)
  · exact absurd (of_decide_eq_true hs) ho
  · skip
    refine t_exit ?_
    refine t_then_exit ?_
    refine t_then_exit ?_
    refine t_in_hit ?_
    refine t_in ?_
    refine t_then ?_
    refine t_region ?_
    refine t_val (r_move rfl) rfl ?_
    refine t_val (r_addi rfl rfl (by omega)) rfl ?_
    refine t_val (r_assign rfl) rfl ?_
    refine t_nil ?_
    refine Tr.keep (env' := [(0, _), (1, _), (2, _), (3, _), (8, _)]) ⟨rfl, rfl, rfl, rfl, rfl, trivial⟩ ?_
    refine t_then ?_
    refine t_unroll ?_
    refine t_seq ?_
    refine t_seq ?_
    refine t_region ?_
    refine t_val (r_move rfl) rfl ?_
    refine t_val (r_move rfl) rfl ?_
    refine t_val (r_lt rfl rfl) rfl ?_
    refine t_nil ?_
    refine Tr.keep (env' := [(0, _), (1, _), (2, _), (3, _), (8, _), (14, _)]) ⟨rfl, rfl, rfl, rfl, rfl, rfl, trivial⟩ ?_
    refine t_then ?_
    refine t_cond_f rfl ?_
    refine t_exit ?_
    refine t_then_exit ?_
    refine t_then_exit ?_
    refine t_in_hit ?_
    refine t_end0 rfl (fun w hw => ?_)
    exact ⟨rfl, hw⟩
theorem insertion2_swapped {b c : Nat} {r s : Rep} {a d : Int} {sp : List Value} (ho : ordR s r < 0) : ∀ w, Ok w0 (cel b 228 (.int .i64 r.source :: .int .i64 r.number :: .int .i64 r.kind :: .int .i64 r.car :: .int .i64 r.place :: .int .i64 r.time :: .int .i64 a :: .int .i64 s.source :: .int .i64 s.number :: .int .i64 s.kind :: .int .i64 s.car :: .int .i64 s.place :: .int .i64 s.time :: .int .i64 d :: sp) :: M) w → Calls Tryz.prog 287 #[.slice (some ⟨b, 0, none⟩) 2 c, .int .i64 0, .int .i64 2, .func (.func 187) #[] #[]] w (fun e w' => e = .returned (.tuple #[]) ∧ Ok w0 (cel b 228 (.int .i64 s.source :: .int .i64 s.number :: .int .i64 s.kind :: .int .i64 s.car :: .int .i64 s.place :: .int .i64 s.time :: .int .i64 d :: .int .i64 r.source :: .int .i64 r.number :: .int .i64 r.kind :: .int .i64 r.car :: .int .i64 r.place :: .int .i64 r.time :: .int .i64 a :: sp) :: M) w') := by
  refine enter (vs := [_, _, _, _]) Tryz.func287 rfl Tryz.ntmps287 rfl ?_
  refine t_seq ?_
  refine t_region ?_
  refine t_val (r_move rfl) rfl ?_
  refine t_val (r_addi rfl rfl (by omega)) rfl ?_
  refine t_val (r_assign rfl) rfl ?_
  refine t_nil ?_
  refine Tr.keep (env' := [(0, _), (1, _), (2, _), (3, _), (8, _)]) ⟨rfl, rfl, rfl, rfl, rfl, trivial⟩ ?_
  refine t_then ?_
  refine t_block ?_
  refine t_unroll0 ?_
  refine t_unroll ?_
  refine t_seq ?_
  refine t_seq ?_
  refine t_region ?_
  refine t_val (r_move rfl) rfl ?_
  refine t_val (r_move rfl) rfl ?_
  refine t_val (r_lt rfl rfl) rfl ?_
  refine t_nil ?_
  refine Tr.keep (env' := [(0, _), (1, _), (2, _), (3, _), (8, _), (14, _)]) ⟨rfl, rfl, rfl, rfl, rfl, rfl, trivial⟩ ?_
  refine t_then ?_
  refine t_cond_t rfl ?_
  refine t_skip ?_
  refine t_then ?_
  refine t_seq ?_
  refine t_block ?_
  refine t_seq ?_
  refine t_region ?_
  refine t_val (r_move rfl) rfl ?_
  refine t_val (r_assign rfl) rfl ?_
  refine t_nil ?_
  refine Tr.keep (env' := [(0, _), (1, _), (2, _), (3, _), (8, _), (9, _)]) ⟨rfl, rfl, rfl, rfl, rfl, rfl, trivial⟩ ?_
  refine t_then ?_
  refine t_block ?_
  refine t_unroll0 ?_
  refine t_unroll ?_
  refine t_seq ?_
  refine t_seq ?_
  refine d_begin mixed rfl ?_
  refine d_val 0 rfl (by kernel_rfl) (by kernel_rfl) (by kernel_rfl) (.then (.then (.then (.inBlock (.inBlock (.then (.then (.inBlock .body)))))))) (.refl _) rfl (r_move rfl) ?_
  refine d_val 1 rfl (by kernel_rfl) (by kernel_rfl) (by kernel_rfl) (.then (.then (.then (.inBlock (.inBlock (.then (.then (.inBlock .body)))))))) (.refl _) rfl (r_move rfl) ?_
  refine d_val 2 rfl (by kernel_rfl) (by kernel_rfl) (by kernel_rfl) (.then (.then (.then (.inBlock (.inBlock (.then (.then (.inBlock .body)))))))) (.refl _) rfl (r_gt rfl rfl) ?_
  refine d_val 3 rfl (by kernel_rfl) (by kernel_rfl) (by kernel_rfl) (.then (.then (.then (.inBlock (.inBlock (.then (.then (.inBlock .body)))))))) (.refl _) rfl (r_move rfl) ?_
  refine d_gval 4 rfl (by kernel_rfl) (by kernel_rfl) (by kernel_rfl) (.then (.then (.then (.inBlock (.inBlock (.then (.then (.inBlock .body)))))))) (.refl _) rfl rfl rfl (r_move rfl) ?_
  refine d_gval 5 rfl (by kernel_rfl) (by kernel_rfl) (by kernel_rfl) (.then (.then (.then (.inBlock (.inBlock (.then (.then (.inBlock .body)))))))) (.refl _) rfl rfl rfl (r_move rfl) ?_
  refine d_gval 6 rfl (by kernel_rfl) (by kernel_rfl) (by kernel_rfl) (.then (.then (.then (.inBlock (.inBlock (.then (.then (.inBlock .body)))))))) (.refl _) rfl rfl rfl (r_move rfl) ?_
  refine d_gval 7 rfl (by kernel_rfl) (by kernel_rfl) (by kernel_rfl) (.then (.then (.then (.inBlock (.inBlock (.then (.then (.inBlock .body)))))))) (.refl _) rfl rfl rfl (r_ia (j := 1) Tryz.underlying221 iz_228 rfl rfl rfl (by decide)) ?_
  refine d_gval 8 rfl (by kernel_rfl) (by kernel_rfl) (by kernel_rfl) (.then (.then (.then (.inBlock (.inBlock (.then (.then (.inBlock .body)))))))) (.refl _) rfl rfl rfl (r_loads ca_228 rfl (rds_m (n := 7) (vs := [_, _, _, _, _, _, _]) (.head _) rfl) rfl) ?_
  refine d_gval 9 rfl (by kernel_rfl) (by kernel_rfl) (by kernel_rfl) (.then (.then (.then (.inBlock (.inBlock (.then (.then (.inBlock .body)))))))) (.refl _) rfl rfl rfl (r_move rfl) ?_
  refine d_gval 10 rfl (by kernel_rfl) (by kernel_rfl) (by kernel_rfl) (.then (.then (.then (.inBlock (.inBlock (.then (.then (.inBlock .body)))))))) (.refl _) rfl rfl rfl (r_move rfl) ?_
  refine d_gval 11 rfl (by kernel_rfl) (by kernel_rfl) (by kernel_rfl) (.then (.then (.then (.inBlock (.inBlock (.then (.then (.inBlock .body)))))))) (.refl _) rfl rfl rfl (r_subi rfl rfl (by omega)) ?_
  refine d_gval 12 rfl (by kernel_rfl) (by kernel_rfl) (by kernel_rfl) (.then (.then (.then (.inBlock (.inBlock (.then (.then (.inBlock .body)))))))) (.refl _) rfl rfl rfl (r_ia (j := 0) Tryz.underlying221 iz_228 rfl rfl rfl (by decide)) ?_
  refine d_gval 13 rfl (by kernel_rfl) (by kernel_rfl) (by kernel_rfl) (.then (.then (.then (.inBlock (.inBlock (.then (.then (.inBlock .body)))))))) (.refl _) rfl rfl rfl (r_loads ca_228 rfl (rds_m (n := 7) (vs := [_, _, _, _, _, _, _]) (.head _) rfl) rfl) ?_
  refine d_geff 14 rfl (by kernel_rfl) rfl rfl (e_pcall en_187 rfl rfl rfl rfl (order_c s r d a) ?_)
  refine d_held (.refl _) ?_
  refine d_gval 15 rfl (by kernel_rfl) (by kernel_rfl) (by kernel_rfl) (.then (.then (.then (.inBlock (.inBlock (.then (.then (.inBlock .body)))))))) (.refl _) rfl rfl rfl (r_lt rfl rfl) ?_
  refine d_val 16 rfl (by kernel_rfl) (by kernel_rfl) (by kernel_rfl) (.then (.then (.then (.inBlock (.inBlock (.then (.then (.inBlock .body)))))))) (.refl _) rfl (r_pick_t rfl rfl) ?_
  refine d_end (by kernel_rfl) ?_
  refine Tr.keep (env' := [(0, _), (1, _), (2, _), (3, _), (8, _), (9, _), (34, _)]) ⟨rfl, rfl, rfl, rfl, rfl, rfl, rfl, trivial⟩ ?_
  refine t_then ?_
  refine t_cond rfl (fun hs => ?_) (fun hs => ?_)
  · skip
    refine t_skip ?_
    refine t_then ?_
    refine t_seq ?_
    refine t_block ?_
    refine Tr.keep (env' := [(0, _), (1, _), (2, _), (3, _), (8, _), (9, _)]) ⟨rfl, rfl, rfl, rfl, rfl, rfl, trivial⟩ ?_
    refine Tr.keep (env' := [(0, _), (1, _), (2, _), (3, _), (8, _), (9, _)]) ⟨rfl, rfl, rfl, rfl, rfl, rfl, trivial⟩ ?_
    refine t_cutm [] (cel b 228 (.int .i64 s.source :: .int .i64 s.number :: .int .i64 s.kind :: .int .i64 s.car :: .int .i64 s.place :: .int .i64 s.time :: .int .i64 d :: .int .i64 r.source :: .int .i64 r.number :: .int .i64 r.kind :: .int .i64 r.car :: .int .i64 r.place :: .int .i64 r.time :: .int .i64 a :: sp) :: M) ?_ ?_
    · intro K hK
      refine d_beginS (.cons _ (.refl _)) mixed rfl ?_
      refine d_val 0 rfl (by kernel_rfl) (by kernel_rfl) (by kernel_rfl) (.then (.inBlock (.then (.then (.inBlock (.inBlock (.then (.then (.inBlock .body))))))))) (.cons _ (.refl _)) rfl (r_move rfl) ?_
      refine d_val 1 rfl (by kernel_rfl) (by kernel_rfl) (by kernel_rfl) (.then (.inBlock (.then (.then (.inBlock (.inBlock (.then (.then (.inBlock .body))))))))) (.cons _ (.refl _)) rfl (r_move rfl) ?_
      refine d_val 2 rfl (by kernel_rfl) (by kernel_rfl) (by kernel_rfl) (.then (.inBlock (.then (.then (.inBlock (.inBlock (.then (.then (.inBlock .body))))))))) (.cons _ (.refl _)) rfl (r_move rfl) ?_
      refine d_val 3 rfl (by kernel_rfl) (by kernel_rfl) (by kernel_rfl) (.then (.inBlock (.then (.then (.inBlock (.inBlock (.then (.then (.inBlock .body))))))))) (.cons _ (.refl _)) rfl (r_move rfl) ?_
      refine d_val 4 rfl (by kernel_rfl) (by kernel_rfl) (by kernel_rfl) (.then (.inBlock (.then (.then (.inBlock (.inBlock (.then (.then (.inBlock .body))))))))) (.cons _ (.refl _)) rfl (r_subi rfl rfl (by omega)) ?_
      refine d_val 5 rfl (by kernel_rfl) (by kernel_rfl) (by kernel_rfl) (.then (.inBlock (.then (.then (.inBlock (.inBlock (.then (.then (.inBlock .body))))))))) (.cons _ (.refl _)) rfl (r_move rfl) ?_
      refine d_val 6 rfl (by kernel_rfl) (by kernel_rfl) (by kernel_rfl) (.then (.inBlock (.then (.then (.inBlock (.inBlock (.then (.then (.inBlock .body))))))))) (.cons _ (.refl _)) rfl (r_move rfl) ?_
      refine d_val 7 rfl (by kernel_rfl) (by kernel_rfl) (by kernel_rfl) (.then (.inBlock (.then (.then (.inBlock (.inBlock (.then (.then (.inBlock .body))))))))) (.cons _ (.refl _)) rfl (r_subi rfl rfl (by omega)) ?_
      refine d_val 8 rfl (by kernel_rfl) (by kernel_rfl) (by kernel_rfl) (.then (.inBlock (.then (.then (.inBlock (.inBlock (.then (.then (.inBlock .body))))))))) (.cons _ (.refl _)) rfl (r_ia (j := 0) Tryz.underlying221 iz_228 rfl rfl rfl (by decide)) ?_
      refine d_val 10 rfl (by kernel_rfl) (by kernel_rfl) (by kernel_rfl) (.then (.inBlock (.then (.then (.inBlock (.inBlock (.then (.then (.inBlock .body))))))))) (.cons _ (.refl _)) rfl (r_move rfl) ?_
      refine d_val 11 rfl (by kernel_rfl) (by kernel_rfl) (by kernel_rfl) (.then (.inBlock (.then (.then (.inBlock (.inBlock (.then (.then (.inBlock .body))))))))) (.cons _ (.refl _)) rfl (r_move rfl) ?_
      refine d_val 12 rfl (by kernel_rfl) (by kernel_rfl) (by kernel_rfl) (.then (.inBlock (.then (.then (.inBlock (.inBlock (.then (.then (.inBlock .body))))))))) (.cons _ (.refl _)) rfl (r_ia (j := 1) Tryz.underlying221 iz_228 rfl rfl rfl (by decide)) ?_
      refine d_eff2 9 13 rfl rfl  rfl rfl  (by kernel_rfl) ?_ ?_
      · refine (e_val (r_loads ca_228 rfl (rds_m (n := 7) (vs := [_, _, _, _, _, _, _]) (.head _) rfl) rfl) rfl ?_)
        refine d_held (.cons _ (.refl _)) ?_
        refine d_eff 13 rfl rfl (by kernel_rfl) (e_val (r_loads ca_228 rfl (rds_m (n := 7) (vs := [_, _, _, _, _, _, _]) (.head _) rfl) rfl) rfl ?_)
        refine d_held (.cons _ (.refl _)) ?_
        refine d_val 14 rfl (by kernel_rfl) (by kernel_rfl) (by kernel_rfl) (.then (.inBlock (.then (.then (.inBlock (.inBlock (.then (.then (.inBlock .body))))))))) (.cons _ (.refl _)) rfl (r_ia (j := 1) Tryz.underlying221 iz_228 rfl rfl rfl (by decide)) ?_
        refine d_eff 15 rfl rfl (by kernel_rfl) (e_stores iz_228 rfl rfl (vs := [_, _, _, _, _, _, _]) rfl rfl (by simp [Value.oneCell']) (.cons (.succ (.succ (.succ (.succ (.succ (.succ (.succ .zero))))))) (.cons (.succ (.succ (.succ (.succ (.succ (.succ (.succ (.succ .zero)))))))) (.cons (.succ (.succ (.succ (.succ (.succ (.succ (.succ (.succ (.succ .zero))))))))) (.cons (.succ (.succ (.succ (.succ (.succ (.succ (.succ (.succ (.succ (.succ .zero)))))))))) (.cons (.succ (.succ (.succ (.succ (.succ (.succ (.succ (.succ (.succ (.succ (.succ .zero))))))))))) (.cons (.succ (.succ (.succ (.succ (.succ (.succ (.succ (.succ (.succ (.succ (.succ (.succ .zero)))))))))))) (.cons (.succ (.succ (.succ (.succ (.succ (.succ (.succ (.succ (.succ (.succ (.succ (.succ (.succ .zero))))))))))))) .nil))))))) .here ?_)
        refine d_held (.cons _ (.refl _)) ?_
        refine d_val 16 rfl (by kernel_rfl) (by kernel_rfl) (by kernel_rfl) (.then (.inBlock (.then (.then (.inBlock (.inBlock (.then (.then (.inBlock .body))))))))) (.cons _ (.refl _)) rfl (r_ia (j := 0) Tryz.underlying221 iz_228 rfl rfl rfl (by decide)) ?_
        refine d_eff 17 rfl rfl (by kernel_rfl) (e_stores iz_228 rfl rfl (vs := [_, _, _, _, _, _, _]) rfl rfl (by simp [Value.oneCell']) (.cons .zero (.cons (.succ .zero) (.cons (.succ (.succ .zero)) (.cons (.succ (.succ (.succ .zero))) (.cons (.succ (.succ (.succ (.succ .zero)))) (.cons (.succ (.succ (.succ (.succ (.succ .zero))))) (.cons (.succ (.succ (.succ (.succ (.succ (.succ .zero)))))) .nil))))))) .here ?_)
        refine d_held (.cons _ (.refl _)) ?_
        refine d_end (by kernel_rfl) ?_
        exact t_thenK hK ⟨rfl, rfl, rfl, rfl, rfl, rfl, trivial⟩ (.refl _)
      · refine (e_val (r_loads ca_228 rfl (rds_m (n := 7) (vs := [_, _, _, _, _, _, _]) (.head _) rfl) rfl) rfl ?_)
        refine d_held (.cons _ (.refl _)) ?_
        refine d_eff 9 rfl rfl (by kernel_rfl) (e_val (r_loads ca_228 rfl (rds_m (n := 7) (vs := [_, _, _, _, _, _, _]) (.head _) rfl) rfl) rfl ?_)
        refine d_held (.cons _ (.refl _)) ?_
        refine d_val 14 rfl (by kernel_rfl) (by kernel_rfl) (by kernel_rfl) (.then (.inBlock (.then (.then (.inBlock (.inBlock (.then (.then (.inBlock .body))))))))) (.cons _ (.refl _)) rfl (r_ia (j := 1) Tryz.underlying221 iz_228 rfl rfl rfl (by decide)) ?_
        refine d_eff 15 rfl rfl (by kernel_rfl) (e_stores iz_228 rfl rfl (vs := [_, _, _, _, _, _, _]) rfl rfl (by simp [Value.oneCell']) (.cons (.succ (.succ (.succ (.succ (.succ (.succ (.succ .zero))))))) (.cons (.succ (.succ (.succ (.succ (.succ (.succ (.succ (.succ .zero)))))))) (.cons (.succ (.succ (.succ (.succ (.succ (.succ (.succ (.succ (.succ .zero))))))))) (.cons (.succ (.succ (.succ (.succ (.succ (.succ (.succ (.succ (.succ (.succ .zero)))))))))) (.cons (.succ (.succ (.succ (.succ (.succ (.succ (.succ (.succ (.succ (.succ (.succ .zero))))))))))) (.cons (.succ (.succ (.succ (.succ (.succ (.succ (.succ (.succ (.succ (.succ (.succ (.succ .zero)))))))))))) (.cons (.succ (.succ (.succ (.succ (.succ (.succ (.succ (.succ (.succ (.succ (.succ (.succ (.succ .zero))))))))))))) .nil))))))) .here ?_)
        refine d_held (.cons _ (.refl _)) ?_
        refine d_val 16 rfl (by kernel_rfl) (by kernel_rfl) (by kernel_rfl) (.then (.inBlock (.then (.then (.inBlock (.inBlock (.then (.then (.inBlock .body))))))))) (.cons _ (.refl _)) rfl (r_ia (j := 0) Tryz.underlying221 iz_228 rfl rfl rfl (by decide)) ?_
        refine d_eff 17 rfl rfl (by kernel_rfl) (e_stores iz_228 rfl rfl (vs := [_, _, _, _, _, _, _]) rfl rfl (by simp [Value.oneCell']) (.cons .zero (.cons (.succ .zero) (.cons (.succ (.succ .zero)) (.cons (.succ (.succ (.succ .zero))) (.cons (.succ (.succ (.succ (.succ .zero)))) (.cons (.succ (.succ (.succ (.succ (.succ .zero))))) (.cons (.succ (.succ (.succ (.succ (.succ (.succ .zero)))))) .nil))))))) .here ?_)
        refine d_held (.cons _ (.refl _)) ?_
        refine d_end (by kernel_rfl) ?_
        exact t_thenK hK ⟨rfl, rfl, rfl, rfl, rfl, rfl, trivial⟩ (.refl _)
    skip
    refine Tr.keep (env' := [(0, _), (1, _), (2, _), (3, _), (8, _), (9, _)]) ⟨rfl, rfl, rfl, rfl, rfl, rfl, trivial⟩ ?_
    refine t_in ?_
    refine t_then ?_
    refine t_region ?_
    refine t_val (r_move rfl) rfl ?_
    refine t_val (r_subi rfl rfl (by omega)) rfl ?_
    refine t_val (r_assign rfl) rfl ?_
    refine t_nil ?_
    refine Tr.keep (env' := [(0, _), (1, _), (2, _), (3, _), (8, _), (9, _)]) ⟨rfl, rfl, rfl, rfl, rfl, rfl, trivial⟩ ?_
    refine t_then ?_
    refine t_unroll ?_
    refine t_seq ?_
    refine t_seq ?_
    refine d_begin mixed rfl ?_
    refine d_val 0 rfl (by kernel_rfl) (by kernel_rfl) (by kernel_rfl) (.then (.then (.then (.inBlock (.inBlock (.then (.then (.inBlock .body)))))))) (.refl _) rfl (r_move rfl) ?_
    refine d_val 1 rfl (by kernel_rfl) (by kernel_rfl) (by kernel_rfl) (.then (.then (.then (.inBlock (.inBlock (.then (.then (.inBlock .body)))))))) (.refl _) rfl (r_move rfl) ?_
    refine d_val 2 rfl (by kernel_rfl) (by kernel_rfl) (by kernel_rfl) (.then (.then (.then (.inBlock (.inBlock (.then (.then (.inBlock .body)))))))) (.refl _) rfl (r_gt rfl rfl) ?_
    refine d_val 3 rfl (by kernel_rfl) (by kernel_rfl) (by kernel_rfl) (.then (.then (.then (.inBlock (.inBlock (.then (.then (.inBlock .body)))))))) (.refl _) rfl (r_move rfl) ?_
    refine d_gskip 4 rfl (by kernel_rfl) (by kernel_rfl) (by kernel_rfl) (.then (.then (.then (.inBlock (.inBlock (.then (.then (.inBlock .body)))))))) (.refl _) rfl rfl rfl rfl ?_
    refine d_gskip 5 rfl (by kernel_rfl) (by kernel_rfl) (by kernel_rfl) (.then (.then (.then (.inBlock (.inBlock (.then (.then (.inBlock .body)))))))) (.refl _) rfl rfl rfl rfl ?_
    refine d_gskip 6 rfl (by kernel_rfl) (by kernel_rfl) (by kernel_rfl) (.then (.then (.then (.inBlock (.inBlock (.then (.then (.inBlock .body)))))))) (.refl _) rfl rfl rfl rfl ?_
    refine d_gskip 7 rfl (by kernel_rfl) (by kernel_rfl) (by kernel_rfl) (.then (.then (.then (.inBlock (.inBlock (.then (.then (.inBlock .body)))))))) (.refl _) rfl rfl rfl rfl ?_
    refine d_gskip 8 rfl (by kernel_rfl) (by kernel_rfl) (by kernel_rfl) (.then (.then (.then (.inBlock (.inBlock (.then (.then (.inBlock .body)))))))) (.refl _) rfl rfl rfl rfl ?_
    refine d_gskip 9 rfl (by kernel_rfl) (by kernel_rfl) (by kernel_rfl) (.then (.then (.then (.inBlock (.inBlock (.then (.then (.inBlock .body)))))))) (.refl _) rfl rfl rfl rfl ?_
    refine d_gskip 10 rfl (by kernel_rfl) (by kernel_rfl) (by kernel_rfl) (.then (.then (.then (.inBlock (.inBlock (.then (.then (.inBlock .body)))))))) (.refl _) rfl rfl rfl rfl ?_
    refine d_gskip 11 rfl (by kernel_rfl) (by kernel_rfl) (by kernel_rfl) (.then (.then (.then (.inBlock (.inBlock (.then (.then (.inBlock .body)))))))) (.refl _) rfl rfl rfl rfl ?_
    refine d_gskip 12 rfl (by kernel_rfl) (by kernel_rfl) (by kernel_rfl) (.then (.then (.then (.inBlock (.inBlock (.then (.then (.inBlock .body)))))))) (.refl _) rfl rfl rfl rfl ?_
    refine d_gskip 13 rfl (by kernel_rfl) (by kernel_rfl) (by kernel_rfl) (.then (.then (.then (.inBlock (.inBlock (.then (.then (.inBlock .body)))))))) (.refl _) rfl rfl rfl rfl ?_
    refine d_gskip 14 rfl (by kernel_rfl) (by kernel_rfl) (by kernel_rfl) (.then (.then (.then (.inBlock (.inBlock (.then (.then (.inBlock .body)))))))) (.refl _) rfl rfl rfl rfl ?_
    refine d_gskip 15 rfl (by kernel_rfl) (by kernel_rfl) (by kernel_rfl) (.then (.then (.then (.inBlock (.inBlock (.then (.then (.inBlock .body)))))))) (.refl _) rfl rfl rfl rfl ?_
    refine d_val 16 rfl (by kernel_rfl) (by kernel_rfl) (by kernel_rfl) (.then (.then (.then (.inBlock (.inBlock (.then (.then (.inBlock .body)))))))) (.refl _) rfl (r_pick_f rfl rfl) ?_
    refine d_end (by kernel_rfl) ?_
    refine Tr.keep (env' := [(0, _), (1, _), (2, _), (3, _), (8, _), (9, _), (34, _)]) ⟨rfl, rfl, rfl, rfl, rfl, rfl, rfl, trivial⟩ ?_
    refine t_then ?_
    refine t_cond_f rfl ?_
    refine t_exit ?_
    refine t_then_exit ?_
    refine t_then_exit ?_
    refine t_in_hit ?_
    refine t_in ?_
    refine t_then ?_
    refine t_region ?_
    refine t_val (r_move rfl) rfl ?_
    refine t_val (r_addi rfl rfl (by omega)) rfl ?_
    refine t_val (r_assign rfl) rfl ?_
    refine t_nil ?_
    refine Tr.keep (env' := [(0, _), (1, _), (2, _), (3, _), (8, _)]) ⟨rfl, rfl, rfl, rfl, rfl, trivial⟩ ?_
    refine t_then ?_
    refine t_unroll ?_
    refine t_seq ?_
    refine t_seq ?_
    refine t_region ?_
    refine t_val (r_move rfl) rfl ?_
    refine t_val (r_move rfl) rfl ?_
    refine t_val (r_lt rfl rfl) rfl ?_
    refine t_nil ?_
    refine Tr.keep (env' := [(0, _), (1, _), (2, _), (3, _), (8, _), (14, _)]) ⟨rfl, rfl, rfl, rfl, rfl, rfl, trivial⟩ ?_
    refine t_then ?_
    refine t_cond_f rfl ?_
    refine t_exit ?_
    refine t_then_exit ?_
    refine t_then_exit ?_
    refine t_in_hit ?_
    refine t_end0 rfl (fun w hw => ?_)
    exact ⟨rfl, hw⟩
  · exact absurd ho (of_decide_eq_false hs)
theorem pdq2_sorted {b c : Nat} {r s : Rep} {a d k : Int} {sp : List Value} (ho : ¬ ordR s r < 0) : ∀ w, Ok w0 (cel b 228 (.int .i64 r.source :: .int .i64 r.number :: .int .i64 r.kind :: .int .i64 r.car :: .int .i64 r.place :: .int .i64 r.time :: .int .i64 a :: .int .i64 s.source :: .int .i64 s.number :: .int .i64 s.kind :: .int .i64 s.car :: .int .i64 s.place :: .int .i64 s.time :: .int .i64 d :: sp) :: M) w → Calls Tryz.prog 246 #[.slice (some ⟨b, 0, none⟩) 2 c, .int .i64 0, .int .i64 2, .int .i64 k, .func (.func 187) #[] #[]] w (fun e w' => e = .returned (.tuple #[]) ∧ Ok w0 (cel b 228 (.int .i64 r.source :: .int .i64 r.number :: .int .i64 r.kind :: .int .i64 r.car :: .int .i64 r.place :: .int .i64 r.time :: .int .i64 a :: .int .i64 s.source :: .int .i64 s.number :: .int .i64 s.kind :: .int .i64 s.car :: .int .i64 s.place :: .int .i64 s.time :: .int .i64 d :: sp) :: M) w') := by
  refine enter (vs := [_, _, _, _, _]) Tryz.func246 rfl Tryz.ntmps246 rfl ?_
  refine t_seq ?_
  refine t_region ?_
  refine t_val (r_assign rfl) rfl ?_
  refine t_nil ?_
  refine Tr.keep (env' := [(0, _), (1, _), (2, _), (3, _), (4, _), (10, _)]) ⟨rfl, rfl, rfl, rfl, rfl, rfl, trivial⟩ ?_
  refine t_then ?_
  refine t_seq ?_
  refine t_region ?_
  refine t_val (r_assign rfl) rfl ?_
  refine t_nil ?_
  refine Tr.keep (env' := [(0, _), (1, _), (2, _), (3, _), (4, _), (10, _), (11, _)]) ⟨rfl, rfl, rfl, rfl, rfl, rfl, rfl, trivial⟩ ?_
  refine t_then ?_
  refine t_block ?_
  refine t_unroll0 ?_
  refine t_unroll ?_
  refine t_block ?_
  refine t_seq ?_
  refine t_region ?_
  refine t_val (r_move rfl) rfl ?_
  refine t_val (r_move rfl) rfl ?_
  refine t_val (r_subi rfl rfl (by omega)) rfl ?_
  refine t_val (r_assign rfl) rfl ?_
  refine t_nil ?_
  refine Tr.keep (env' := [(0, _), (1, _), (2, _), (3, _), (4, _), (10, _), (11, _), (12, _)]) ⟨rfl, rfl, rfl, rfl, rfl, rfl, rfl, rfl, trivial⟩ ?_
  refine t_then ?_
  refine t_seq ?_
  refine t_seq ?_
  refine t_region ?_
  refine t_val (r_move rfl) rfl ?_
  refine t_val (r_le rfl rfl) rfl ?_
  refine t_nil ?_
  refine Tr.keep (env' := [(0, _), (1, _), (2, _), (3, _), (4, _), (10, _), (11, _), (12, _), (25, _)]) ⟨rfl, rfl, rfl, rfl, rfl, rfl, rfl, rfl, rfl, trivial⟩ ?_
  refine t_then ?_
  refine t_cond_t rfl ?_
  refine t_seq ?_
  refine t_region ?_
  refine t_val (r_move rfl) rfl ?_
  refine t_val (r_move rfl) rfl ?_
  refine t_val (r_move rfl) rfl ?_
  refine t_val (r_move rfl) rfl ?_
  refine t_eff rfl (e_mcall en_287 rfl rfl rfl rfl (insertion2_sorted ho) ?_)
  refine t_nil ?_
  refine Tr.keep (env' := []) trivial ?_
  refine t_then ?_
  refine t_retc ?_
  refine t_then_ret ?_
  refine t_in_ret ?_
  refine t_then_ret ?_
  refine t_in_ret ?_
  refine t_ret0 rfl (fun w hw => ?_)
  exact ⟨rfl, hw⟩
theorem sort2_sorted {b c : Nat} {r s : Rep} {a d : Int} {sp : List Value} (ho : ¬ ordR s r < 0) : ∀ w, Ok w0 (cel b 228 (.int .i64 r.source :: .int .i64 r.number :: .int .i64 r.kind :: .int .i64 r.car :: .int .i64 r.place :: .int .i64 r.time :: .int .i64 a :: .int .i64 s.source :: .int .i64 s.number :: .int .i64 s.kind :: .int .i64 s.car :: .int .i64 s.place :: .int .i64 s.time :: .int .i64 d :: sp) :: M) w → Calls Tryz.prog 186 #[.slice (some ⟨b, 0, none⟩) 2 c, .func (.func 187) #[] #[]] w (fun e w' => e = .returned (.tuple #[]) ∧ Ok w0 (cel b 228 (.int .i64 r.source :: .int .i64 r.number :: .int .i64 r.kind :: .int .i64 r.car :: .int .i64 r.place :: .int .i64 r.time :: .int .i64 a :: .int .i64 s.source :: .int .i64 s.number :: .int .i64 s.kind :: .int .i64 s.car :: .int .i64 s.place :: .int .i64 s.time :: .int .i64 d :: sp) :: M) w') := by
  refine enter (vs := [_, _]) Tryz.func186 rfl Tryz.ntmps186 rfl ?_
  refine t_seq ?_
  refine t_region ?_
  refine t_val (r_move rfl) rfl ?_
  refine t_val (r_len_slice Tryz.underlying221 rfl) rfl ?_
  refine t_val (r_assign rfl) rfl ?_
  refine t_nil ?_
  refine Tr.keep (env' := [(0, _), (1, _), (4, _)]) ⟨rfl, rfl, rfl, trivial⟩ ?_
  refine t_then ?_
  refine t_region ?_
  refine t_val (r_move rfl) rfl ?_
  refine t_val (r_move rfl) rfl ?_
  refine t_val (r_move rfl) rfl ?_
  refine t_val (r_convI Tryz.underlying3 Tryz.underlying208 rfl (by decide : IntKind.u64.wrap 2 = 2)) rfl ?_
  refine t_eff rfl (e_pcall en_135 rfl rfl rfl rfl len_two ?_)
  refine t_val (r_move rfl) rfl ?_
  refine t_eff rfl (e_mcall en_246 rfl rfl rfl rfl (pdq2_sorted ho) ?_)
  refine t_nil ?_
  refine Tr.keep (env' := []) trivial ?_
  refine t_end0 rfl (fun w hw => ?_)
  exact ⟨rfl, hw⟩
theorem pdq2_swapped {b c : Nat} {r s : Rep} {a d k : Int} {sp : List Value} (ho : ordR s r < 0) : ∀ w, Ok w0 (cel b 228 (.int .i64 r.source :: .int .i64 r.number :: .int .i64 r.kind :: .int .i64 r.car :: .int .i64 r.place :: .int .i64 r.time :: .int .i64 a :: .int .i64 s.source :: .int .i64 s.number :: .int .i64 s.kind :: .int .i64 s.car :: .int .i64 s.place :: .int .i64 s.time :: .int .i64 d :: sp) :: M) w → Calls Tryz.prog 246 #[.slice (some ⟨b, 0, none⟩) 2 c, .int .i64 0, .int .i64 2, .int .i64 k, .func (.func 187) #[] #[]] w (fun e w' => e = .returned (.tuple #[]) ∧ Ok w0 (cel b 228 (.int .i64 s.source :: .int .i64 s.number :: .int .i64 s.kind :: .int .i64 s.car :: .int .i64 s.place :: .int .i64 s.time :: .int .i64 d :: .int .i64 r.source :: .int .i64 r.number :: .int .i64 r.kind :: .int .i64 r.car :: .int .i64 r.place :: .int .i64 r.time :: .int .i64 a :: sp) :: M) w') := by
  refine enter (vs := [_, _, _, _, _]) Tryz.func246 rfl Tryz.ntmps246 rfl ?_
  refine t_seq ?_
  refine t_region ?_
  refine t_val (r_assign rfl) rfl ?_
  refine t_nil ?_
  refine Tr.keep (env' := [(0, _), (1, _), (2, _), (3, _), (4, _), (10, _)]) ⟨rfl, rfl, rfl, rfl, rfl, rfl, trivial⟩ ?_
  refine t_then ?_
  refine t_seq ?_
  refine t_region ?_
  refine t_val (r_assign rfl) rfl ?_
  refine t_nil ?_
  refine Tr.keep (env' := [(0, _), (1, _), (2, _), (3, _), (4, _), (10, _), (11, _)]) ⟨rfl, rfl, rfl, rfl, rfl, rfl, rfl, trivial⟩ ?_
  refine t_then ?_
  refine t_block ?_
  refine t_unroll0 ?_
  refine t_unroll ?_
  refine t_block ?_
  refine t_seq ?_
  refine t_region ?_
  refine t_val (r_move rfl) rfl ?_
  refine t_val (r_move rfl) rfl ?_
  refine t_val (r_subi rfl rfl (by omega)) rfl ?_
  refine t_val (r_assign rfl) rfl ?_
  refine t_nil ?_
  refine Tr.keep (env' := [(0, _), (1, _), (2, _), (3, _), (4, _), (10, _), (11, _), (12, _)]) ⟨rfl, rfl, rfl, rfl, rfl, rfl, rfl, rfl, trivial⟩ ?_
  refine t_then ?_
  refine t_seq ?_
  refine t_seq ?_
  refine t_region ?_
  refine t_val (r_move rfl) rfl ?_
  refine t_val (r_le rfl rfl) rfl ?_
  refine t_nil ?_
  refine Tr.keep (env' := [(0, _), (1, _), (2, _), (3, _), (4, _), (10, _), (11, _), (12, _), (25, _)]) ⟨rfl, rfl, rfl, rfl, rfl, rfl, rfl, rfl, rfl, trivial⟩ ?_
  refine t_then ?_
  refine t_cond_t rfl ?_
  refine t_seq ?_
  refine t_region ?_
  refine t_val (r_move rfl) rfl ?_
  refine t_val (r_move rfl) rfl ?_
  refine t_val (r_move rfl) rfl ?_
  refine t_val (r_move rfl) rfl ?_
  refine t_eff rfl (e_mcall en_287 rfl rfl rfl rfl (insertion2_swapped ho) ?_)
  refine t_nil ?_
  refine Tr.keep (env' := []) trivial ?_
  refine t_then ?_
  refine t_retc ?_
  refine t_then_ret ?_
  refine t_in_ret ?_
  refine t_then_ret ?_
  refine t_in_ret ?_
  refine t_ret0 rfl (fun w hw => ?_)
  exact ⟨rfl, hw⟩
theorem sort2_swapped {b c : Nat} {r s : Rep} {a d : Int} {sp : List Value} (ho : ordR s r < 0) : ∀ w, Ok w0 (cel b 228 (.int .i64 r.source :: .int .i64 r.number :: .int .i64 r.kind :: .int .i64 r.car :: .int .i64 r.place :: .int .i64 r.time :: .int .i64 a :: .int .i64 s.source :: .int .i64 s.number :: .int .i64 s.kind :: .int .i64 s.car :: .int .i64 s.place :: .int .i64 s.time :: .int .i64 d :: sp) :: M) w → Calls Tryz.prog 186 #[.slice (some ⟨b, 0, none⟩) 2 c, .func (.func 187) #[] #[]] w (fun e w' => e = .returned (.tuple #[]) ∧ Ok w0 (cel b 228 (.int .i64 s.source :: .int .i64 s.number :: .int .i64 s.kind :: .int .i64 s.car :: .int .i64 s.place :: .int .i64 s.time :: .int .i64 d :: .int .i64 r.source :: .int .i64 r.number :: .int .i64 r.kind :: .int .i64 r.car :: .int .i64 r.place :: .int .i64 r.time :: .int .i64 a :: sp) :: M) w') := by
  refine enter (vs := [_, _]) Tryz.func186 rfl Tryz.ntmps186 rfl ?_
  refine t_seq ?_
  refine t_region ?_
  refine t_val (r_move rfl) rfl ?_
  refine t_val (r_len_slice Tryz.underlying221 rfl) rfl ?_
  refine t_val (r_assign rfl) rfl ?_
  refine t_nil ?_
  refine Tr.keep (env' := [(0, _), (1, _), (4, _)]) ⟨rfl, rfl, rfl, trivial⟩ ?_
  refine t_then ?_
  refine t_region ?_
  refine t_val (r_move rfl) rfl ?_
  refine t_val (r_move rfl) rfl ?_
  refine t_val (r_move rfl) rfl ?_
  refine t_val (r_convI Tryz.underlying3 Tryz.underlying208 rfl (by decide : IntKind.u64.wrap 2 = 2)) rfl ?_
  refine t_eff rfl (e_pcall en_135 rfl rfl rfl rfl len_two ?_)
  refine t_val (r_move rfl) rfl ?_
  refine t_eff rfl (e_mcall en_246 rfl rfl rfl rfl (pdq2_swapped ho) ?_)
  refine t_nil ?_
  refine Tr.keep (env' := []) trivial ?_
  refine t_end0 rfl (fun w hw => ?_)
  exact ⟨rfl, hw⟩
end
end Go.Proofs.W
set_option linter.unusedVariables false
set_option linter.unusedSimpArgs false
set_option linter.unusedSectionVars false
set_option maxRecDepth 100000
namespace Go.Proofs.W
open Go Go.Sl Go.RowKit Go.Proofs
theorem en_186 : Enters Tryz.prog 186 := enters_of Tryz.func186 (by kernel_rfl) (by kernel_rfl)
abbrev repAt (kv : List (Rep × Int)) (j : Nat) : List Value := match kv[j]? with | some x => x.1.cellsAt x.2 | none => []
theorem repAt_some {kv : List (Rep × Int)} {j : Nat} {x : Rep × Int} (h : kv[j]? = some x) : repAt kv j = x.1.cellsAt x.2 := by simp [repAt, h]
theorem two_seen {l : List Nat} (hn : l.Nodup) (hl : ∀ j ∈ l, j < 2) (ha : ∀ j, j < 2 → j ∈ l) : l = [0, 1] ∨ l = [1, 0] := by
  have h0 := ha 0 (by decide)
  have h1 := ha 1 (by decide)
  match l, hn, hl with
  | [], _, _ => simp at h0
  | [x], _, _ => simp at h0 h1; omega
  | [x, y], _, hl =>
    have hx := hl x (by simp); have hy := hl y (by simp)
    simp at h0 h1
    rcases h0 with rfl | rfl <;> rcases h1 with h | h <;> simp_all
  | x :: y :: z :: r, hn, hl =>
    have hx := hl x (by simp); have hy := hl y (by simp); have hz := hl z (by simp)
    simp at hn
    omega
theorem two_len {l : List Nat} (hn : l.Nodup) (hl : ∀ j ∈ l, j < 2) : l.length ≤ 2 := by
  match l, hn, hl with
  | [], _, _ => simp
  | [x], _, _ => simp
  | [x, y], _, _ => simp
  | x :: y :: z :: r, hn, hl =>
    have hx := hl x (by simp); have hy := hl y (by simp); have hz := hl z (by simp)
    simp at hn
    omega
section
variable {w0 : World} {M : List Ent}
theorem own_two {v : Value} {E : List Ent} {x y : List Value} (h : Own 228 7 v [x, y] E) : ∃ b c sp, v = .slice (some ⟨b, 0, none⟩) 2 c ∧ E = [cel b 228 (x ++ (y ++ sp))] ∧
    ∀ x' y' : List Value, x'.length = 7 → y'.length = 7 → Own 228 7 v [x', y'] [cel b 228 (x' ++ (y' ++ sp))] := by
  have hx := h.wide x (by simp); have hy := h.wide y (by simp)
  rcases h.sh with ⟨_, h0, _⟩ | ⟨b, c, l, rfl, rfl, h2, h3, h4, h5⟩
  · simp at h0
  · simp at h3 h5
    have hl : l = x ++ (y ++ l.drop 14) := by
      conv => lhs; rw [← List.take_append_drop 14 l, h5]
      simp [flat]
    refine ⟨b, c, l.drop 14, rfl, by rw [← hl], fun x' y' hx' hy' => ⟨by simp [hx', hy'], .inr ⟨b, c, _, rfl, rfl, ?_, by simpa using h3, h4, ?_⟩⟩⟩
    · simp [hx', hy', h2]; omega
    · simp [flat, List.take_append, hx', hy']
      rw [List.take_of_length_le (by omega)]
theorem sort_own {v : Value} {E Fr : List Ent} {r s : Rep} {a d : Int} {xs : List (List Value)} (hO : Own 228 7 v xs E) (hxs : xs = [r.cellsAt a, s.cellsAt d] ∨ xs = [s.cellsAt d, r.cellsAt a]) (h1 : ordR r s < 0) (h2 : ¬ ordR s r < 0) :
    ∀ w, Ok w0 (E ++ Fr) w → Calls Tryz.prog 186 #[v, .func (.func 187) #[] #[]] w (fun e w' => ∃ E', e = .returned (.tuple #[]) ∧ Own 228 7 v [r.cellsAt a, s.cellsAt d] E' ∧ Ok w0 (E' ++ Fr) w') := by
  intro w hw
  rcases hxs with rfl | rfl
  · obtain ⟨b, c, sp, rfl, rfl, hk⟩ := own_two hO
    exact (sort2_sorted (sp := sp) h2 w hw).mono fun e w' ⟨h, h'⟩ => ⟨_, h, hk _ _ rfl rfl, h'⟩
  · obtain ⟨b, c, sp, rfl, rfl, hk⟩ := own_two hO
    exact (sort2_swapped (sp := sp) h1 w hw).mono fun e w' ⟨h, h'⟩ => ⟨_, h, hk _ _ rfl rfl, h'⟩
theorem reports_two {g : WLog} {l : WAt} (r s : Rep) (a d : Int) (hb : g.eb l ∈ M) (hm : g.em l ∈ M) (hkv : g.kv = [(r, a), (s, d)]) (h1 : ordR r s < 0) (h2 : ¬ ordR s r < 0) :
   ∀ w, Ok w0 M w → Calls Tryz.prog 112 #[.pointer (some ⟨l.b, 0, none⟩)] w (fun e w' => ∃ x : Value × List Ent, e = .returned x.1 ∧ Own 228 7 x.1 [r.cellsAt a, s.cellsAt d] x.2 ∧ Ok w0 (x.2 ++ M) w') := by
  refine enter (vs := [_]) Tryz.func112 rfl Tryz.ntmps112 rfl ?_
  refine t_seq ?_
  refine t_region ?_
  refine t_val (r_assign rfl) rfl ?_
  refine t_nil ?_
  refine Tr.keep (env' := [(0, _)]) ⟨rfl, trivial⟩ ?_
  refine t_then ?_
  refine t_seq ?_
  refine t_seq ?_
  refine t_region ?_
  refine t_val (r_move rfl) rfl ?_
  refine t_eff rfl (e_pcall en_110 rfl rfl rfl rfl (wire_ready_c hb) ?_)
  refine t_val (r_not rfl) rfl ?_
  refine t_nil ?_
  refine Tr.keep (env' := [(0, _), (8, _)]) ⟨rfl, rfl, trivial⟩ ?_
  refine t_then ?_
  refine t_cond rfl (fun hr => ?_) (fun hr => ?_)
  · exact absurd hr (by decide)
  · skip
    refine t_skip ?_
    refine t_then ?_
    refine t_seq ?_
    refine t_region ?_
    refine t_val (r_assign rfl) rfl ?_
    refine t_nil ?_
    refine Tr.keep (env' := [(0, _), (3, _)]) ⟨rfl, rfl, trivial⟩ ?_
    refine t_then ?_
    refine t_seq ?_
    refine t_seq ?_
    refine t_region ?_
    refine t_val (r_move rfl) rfl ?_
    refine t_val (r_nilCheck rfl) rfl ?_
    refine t_val (r_fa fo_128_2 rfl) rfl ?_
    refine t_val (r_load ca_126 rfl (rd_m hb rfl)) rfl ?_
    refine t_eff rfl (e_range Tryz.underlying126 rfl hm rfl fun b13 => ?_)
    refine t_nil ?_
    refine Tr.keep (env' := [(3, _), (13, _)]) ⟨rfl, rfl, trivial⟩ ?_
    refine t_then ?_
    refine t_block ?_
    refine t_loop (fun z : List Nat × Value × List Ent => [(3, z.2.1), (13, .pointer (some ⟨b13, 0, none⟩))]) (fun z : List Nat × Value × List Ent => z.2.2 ++ (itE b13 l.mb (kvs g.kv).length z.1 :: M)) (fun z : List Nat × Value × List Ent => z.1.Nodup ∧ (∀ j ∈ z.1, j < 2) ∧ Own 228 7 z.2.1 (z.1.map (repAt g.kv)) z.2.2) (fun z : List Nat × Value × List Ent => 2 - z.1.length) ([], .slice none 0 0, []) ⟨by simp, by simp, Own.nil _ _⟩ ⟨rfl, rfl, trivial⟩ (.refl _) ?_
    intro K ⟨sn, v, E⟩ ⟨hnd, hlt, hO⟩ IH
    dsimp only at hnd hlt hO IH ⊢
    have hle := two_len hnd hlt
    refine t_seq ?_
    refine t_region ?_
    refine t_eff rfl (e_next rfl (List.mem_append_right _ (.tail _ hm)) rfl (fun j => (.right .here)) (fun hall => ?_) (fun j p hj hns => ?_))
    · have hsn := two_seen hnd hlt (fun i hi => hall i (by simp [hkv]; exact hi))
      have hxs : sn.map (repAt g.kv) = [r.cellsAt a, s.cellsAt d] ∨ sn.map (repAt g.kv) = [s.cellsAt d, r.cellsAt a] := by rcases hsn with rfl | rfl <;> simp [repAt, hkv]
      refine t_val (r_extract rfl rfl) rfl ?_
      refine t_nil ?_
      refine Tr.keep (env' := [(3, _), (13, _), (15, _)]) ⟨rfl, rfl, rfl, trivial⟩ ?_
      refine t_then ?_
      refine t_seq ?_
      refine t_cond_f rfl ?_
      refine t_exit ?_
      refine t_then_exit ?_
      refine t_then_exit ?_
      refine t_in_hit ?_
      refine t_then ?_
      refine t_seq ?_
      refine t_region ?_
      refine t_val (r_move rfl) rfl ?_
      refine t_eff rfl (e_call en_186 rfl rfl rfl rfl (sort_own hO hxs h1 h2) fun E3 hO3 => ?_)
      refine t_nil ?_
      refine Tr.keep (env' := [(3, _)]) ⟨rfl, trivial⟩ ?_
      refine t_then ?_
      refine t_seq ?_
      refine t_region ?_
      refine t_val (r_move rfl) rfl ?_
      refine t_val (r_assign rfl) rfl ?_
      refine t_nil ?_
      refine Tr.keep (env' := [(2, _)]) ⟨rfl, trivial⟩ ?_
      refine t_then ?_
      refine t_retc ?_
      refine t_ret1 rfl rfl (fun w hw => ?_)
      exact ⟨(v, E3), rfl, hO3, Ok.sub hw (List.Sublist.append (.refl _) (.cons _ (.refl _)))⟩
    · rw [List.getElem?_map] at hj
      obtain ⟨x, hx, rfl⟩ := Option.map_eq_some_iff.1 hj
      have hj2 : j < 2 := by have := (List.getElem?_eq_some_iff.1 hx).1; rw [hkv] at this; simpa using this
      have hnd2 : (sn ++ [j]).Nodup := by rw [List.nodup_append]; exact ⟨hnd, by simp, by intro a ha b hb; simp at hb; rintro rfl; exact hns (hb ▸ ha)⟩
      have hlt2 : ∀ i ∈ sn ++ [j], i < 2 := by intro i hi; simp at hi; rcases hi with hi | rfl; exact hlt i hi; exact hj2
      refine t_val (r_extract rfl rfl) rfl ?_
      refine t_nil ?_
      refine Tr.keep (env' := [(3, _), (13, _), (15, _)]) ⟨rfl, rfl, rfl, trivial⟩ ?_
      refine t_then ?_
      refine t_seq ?_
      refine t_cond_t rfl ?_
      refine t_skip ?_
      refine t_then ?_
      refine t_block ?_
      refine t_seq ?_
      refine t_region ?_
      refine t_val (r_entry rfl (List.mem_append_right _ (.tail _ hm)) (List.mem_append_right _ (.head _)) (by rw [List.getElem?_map, hx]; rfl)) rfl ?_
      refine t_val (r_extract rfl rfl) rfl ?_
      refine t_val (r_extract rfl rfl) rfl ?_
      refine t_eff rfl (e_alloc inf_228 (l := [.int .i64 0, .int .i64 0, .int .i64 0, .int .i64 0, .int .i64 0, .int .i64 0, .int .i64 0]) rfl rfl fun b4 => ?_)
      refine t_eff rfl (e_stores iz_228 rfl rfl (vs := [_, _, _, _, _, _, _]) rfl rfl (by simp [Value.oneCell']) (.cons .zero (.cons (.succ .zero) (.cons (.succ (.succ .zero)) (.cons (.succ (.succ (.succ .zero))) (.cons (.succ (.succ (.succ (.succ .zero)))) (.cons (.succ (.succ (.succ (.succ (.succ .zero))))) (.cons (.succ (.succ (.succ (.succ (.succ (.succ .zero)))))) .nil))))))) .here ?_)
      refine t_val (r_assign rfl) rfl ?_
      refine t_nil ?_
      refine Tr.keep (env' := [(3, _), (4, _), (5, _), (13, _)]) ⟨rfl, rfl, rfl, rfl, trivial⟩ ?_
      refine t_then ?_
      refine t_seq ?_
      refine t_region ?_
      refine t_val (r_move rfl) rfl ?_
      refine t_val (r_fa fo_228_6 rfl) rfl ?_
      refine t_eff rfl (e_store iz_3 rfl rfl rfl (.succ (.succ (.succ (.succ (.succ (.succ .zero)))))) .here ?_)
      refine t_nil ?_
      refine Tr.keep (env' := [(3, _), (4, _), (13, _)]) ⟨rfl, rfl, rfl, trivial⟩ ?_
      refine t_then ?_
      refine t_region ?_
      refine t_val (r_move rfl) rfl ?_
      refine t_val (r_loads ca_228 rfl (rds_m (n := 7) (vs := [_, _, _, _, _, _, _]) (.head _) rfl) rfl) rfl ?_
      refine t_eff rfl (e_buildSlice (E := 228) (l := x.1.cellsAt x.2) rfl (fun w => by kernel_rfl) rfl fun b23 => ?_)
      refine t_eff rfl (e_append Tryz.underlying221 inf_228 rfl (by decide) rfl rfl hO (pk .here (pkb (.there .here) (.refl _))) rfl (by simp [Rep.cellsAt, Value.oneCell']) (by simp; omega) (by simp [maxLen]; omega) rfl fun v2 E2 hO2 => ?_)
      refine t_val (r_assign rfl) rfl ?_
      refine t_nil ?_
      refine Tr.keep (env' := [(3, _), (13, _)]) ⟨rfl, rfl, trivial⟩ ?_
      refine t_in ?_
      refine t_then ?_
      refine t_K (IH (sn ++ [j], v2, E2) ⟨hnd2, hlt2, by simp only [List.map_append, List.map_cons, List.map_nil]; rw [repAt_some hx]; exact hO2⟩ (by have := two_len hnd2 hlt2; simp at this ⊢; omega)) ⟨rfl, rfl, trivial⟩ (List.Sublist.append (.refl _) (.cons _ (.refl _)))
end
end Go.Proofs.W
set_option linter.unusedVariables false
set_option linter.unusedSimpArgs false
set_option linter.unusedSectionVars false
set_option maxRecDepth 100000
namespace Go.Proofs.W
open Go Go.Sl Go.RowKit Go.Proofs
theorem ca_129 : cellsAs Tryz.prog 129 = some (none) := by kernel_rfl
theorem ca_221 : cellsAs Tryz.prog 221 = some (none) := by kernel_rfl
theorem fo_224_1 : fieldOff Tryz.prog 224 1 = some 1 := by kernel_rfl
theorem fo_224_2 : fieldOff Tryz.prog 224 2 = some 2 := by kernel_rfl
abbrev IxRep := Int × Rep × Int
abbrev encX (x : IxRep) : List Value := [.int .i64 x.1, .agg (x.2.1.cellsAt x.2.2).toArray]
abbrev R1 : Rep := ⟨0, 0, 1, 1, 0, 1000⟩
abbrev R2 : Rep := ⟨0, 1, 1, 1, 1, 301000⟩
abbrev row2 (sp : List Value) : List Value := .int .i64 0 :: .int .i64 0 :: .int .i64 1 :: .int .i64 1 :: .int .i64 0 :: .int .i64 1000 :: .int .i64 2000 :: .int .i64 0 :: .int .i64 1 :: .int .i64 1 :: .int .i64 1 :: .int .i64 1 :: .int .i64 301000 :: .int .i64 302000 :: sp
section
variable {w0 : World} {M : List Ent}
theorem backward_two {σ : Type} {inv : List IxRep → σ → Prop} {Me : σ → List Ent} {bb db c : Nat} {sp : List Value} (hbb : ∀ s, cel bb 221 [.slice (some ⟨db, 0, none⟩) 2 c] ∈ Me s) (hd : ∀ s, cel db 228 (row2 sp) ∈ Me s) {l : Nat} {rr : Loop} {Fr : List Ent} (hy : Sl.Yields Tryz.prog w0 encX inv Me [(1, R2, 302000), (0, R1, 2000)] l rr) (s0 : σ) (h0 : inv [] s0) :
   ∀ w, Ok w0 (recE l rr :: (Fr ++ Me s0)) w → Calls Tryz.prog 188 #[.func (.yield l) #[] #[], .pointer (some ⟨bb, 0, none⟩)] w (fun e w' => (∃ v, e = .returned v) ∧ ∃ s, inv [(1, R2, 302000), (0, R1, 2000)] s ∧ Ok w0 (recE l rr :: (Fr ++ Me s)) w') := by
  refine enter (vs := [_, _]) Tryz.func188 rfl Tryz.ntmps188 rfl ?_
  refine t_seq ?_
  refine t_region ?_
  refine t_val (r_load ca_221 rfl (rd_m (.tail _ (List.mem_append_right _ (hbb s0))) rfl)) rfl ?_
  refine t_val (r_len_slice Tryz.underlying221 rfl) rfl ?_
  refine t_val (r_subi rfl rfl (by omega)) rfl ?_
  refine t_val (r_assign rfl) rfl ?_
  refine t_nil ?_
  refine Tr.keep (env' := [(0, _), (1, _), (3, _)]) ⟨rfl, rfl, rfl, trivial⟩ ?_
  refine t_then ?_
  refine t_block ?_
  refine t_unroll0 ?_
  refine t_unroll ?_
  refine t_seq ?_
  refine t_seq ?_
  refine t_region ?_
  refine t_val (r_move rfl) rfl ?_
  refine t_val (r_ge rfl rfl) rfl ?_
  refine t_nil ?_
  refine Tr.keep (env' := [(0, _), (1, _), (3, _), (8, _)]) ⟨rfl, rfl, rfl, rfl, trivial⟩ ?_
  refine t_then ?_
  refine t_cond_t rfl ?_
  refine t_skip ?_
  refine t_then ?_
  refine t_seq ?_
  refine t_block ?_
  refine t_seq ?_
  refine t_regionI ?_
  refine i_val (r_move rfl) rfl ?_
  refine i_val (r_move rfl) rfl ?_
  refine i_val (r_load ca_221 rfl (rd_m (.tail _ (List.mem_append_right _ (hbb s0))) rfl)) rfl ?_
  refine i_val (r_move rfl) rfl ?_
  refine i_val (r_ia (j := 1) Tryz.underlying221 iz_228 rfl rfl rfl (by decide)) rfl ?_
  refine i_val (r_loads ca_228 rfl (rds_m (n := 7) (vs := [_, _, _, _, _, _, _]) (.tail _ (List.mem_append_right _ (hd s0))) rfl) rfl) rfl ?_
  refine i_effI rfl (e_yield rfl rfl rfl (fun w hw => hy Fr [] ((1, R2, 302000)) [(0, R1, 2000)] rfl s0 h0 w (hw.perm (pk .here (.refl _)))) (fun s1 h1 => ?_))
  refine i_val (r_not rfl) rfl ?_
  refine i_nil ?_
  refine Tr.keep (env' := [(0, _), (1, _), (3, _), (18, _)]) ⟨rfl, rfl, rfl, rfl, trivial⟩ ?_
  refine t_then ?_
  refine t_cond_f rfl ?_
  refine t_skip ?_
  refine t_in ?_
  refine t_then ?_
  refine t_region ?_
  refine t_val (r_move rfl) rfl ?_
  refine t_val (r_subi rfl rfl (by omega)) rfl ?_
  refine t_val (r_assign rfl) rfl ?_
  refine t_nil ?_
  refine Tr.keep (env' := [(0, _), (1, _), (3, _)]) ⟨rfl, rfl, rfl, trivial⟩ ?_
  refine t_then ?_
  refine t_unroll ?_
  refine t_seq ?_
  refine t_seq ?_
  refine t_region ?_
  refine t_val (r_move rfl) rfl ?_
  refine t_val (r_ge rfl rfl) rfl ?_
  refine t_nil ?_
  refine Tr.keep (env' := [(0, _), (1, _), (3, _), (8, _)]) ⟨rfl, rfl, rfl, rfl, trivial⟩ ?_
  refine t_then ?_
  refine t_cond_t rfl ?_
  refine t_skip ?_
  refine t_then ?_
  refine t_seq ?_
  refine t_block ?_
  refine t_seq ?_
  refine t_regionI ?_
  refine i_val (r_move rfl) rfl ?_
  refine i_val (r_move rfl) rfl ?_
  refine i_val (r_load ca_221 rfl (rd_m (.tail _ (List.mem_append_right _ (hbb s1))) rfl)) rfl ?_
  refine i_val (r_move rfl) rfl ?_
  refine i_val (r_ia (j := 0) Tryz.underlying221 iz_228 rfl rfl rfl (by decide)) rfl ?_
  refine i_val (r_loads ca_228 rfl (rds_m (n := 7) (vs := [_, _, _, _, _, _, _]) (.tail _ (List.mem_append_right _ (hd s1))) rfl) rfl) rfl ?_
  refine i_effI rfl (e_yield rfl rfl rfl (fun w hw => hy Fr [(1, R2, 302000)] ((0, R1, 2000)) [] rfl s1 h1 w (hw.perm (pk .here (.refl _)))) (fun s2 h2 => ?_))
  refine i_val (r_not rfl) rfl ?_
  refine i_nil ?_
  refine Tr.keep (env' := [(0, _), (1, _), (3, _), (18, _)]) ⟨rfl, rfl, rfl, rfl, trivial⟩ ?_
  refine t_then ?_
  refine t_cond_f rfl ?_
  refine t_skip ?_
  refine t_in ?_
  refine t_then ?_
  refine t_region ?_
  refine t_val (r_move rfl) rfl ?_
  refine t_val (r_subi rfl rfl (by omega)) rfl ?_
  refine t_val (r_assign rfl) rfl ?_
  refine t_nil ?_
  refine Tr.keep (env' := [(0, _), (1, _), (3, _)]) ⟨rfl, rfl, rfl, trivial⟩ ?_
  refine t_then ?_
  refine t_unroll ?_
  refine t_seq ?_
  refine t_seq ?_
  refine t_region ?_
  refine t_val (r_move rfl) rfl ?_
  refine t_val (r_ge rfl rfl) rfl ?_
  refine t_nil ?_
  refine Tr.keep (env' := [(0, _), (1, _), (3, _), (8, _)]) ⟨rfl, rfl, rfl, rfl, trivial⟩ ?_
  refine t_then ?_
  refine t_cond_f rfl ?_
  refine t_exit ?_
  refine t_then_exit ?_
  refine t_then_exit ?_
  refine t_in_hit ?_
  refine t_end0 rfl (fun w hw => ?_)
  exact ⟨⟨_, rfl⟩, s2, h2, hw⟩
theorem backward_c (v : Value) (h1 : v.oneCell' = true) : ∀ w, Ok w0 M w → Calls Tryz.prog 113 #[v] w (fun e w' => ∃ b, e = .returned (.func (.func 188) #[] #[.pointer (some ⟨b, 0, none⟩)]) ∧ True ∧ Ok w0 (cel b 221 [v] :: M) w') := by
  refine enter (vs := [_]) Tryz.func113 rfl Tryz.ntmps113 rfl ?_
  refine t_seq ?_
  refine t_region ?_
  refine t_eff rfl (e_box1 rfl h1 rfl fun b1 => ?_)
  refine t_val (r_assign rfl) rfl ?_
  refine t_nil ?_
  refine Tr.keep (env' := [(1, _)]) ⟨rfl, trivial⟩ ?_
  refine t_then ?_
  refine t_seq ?_
  refine t_region ?_
  refine t_val (r_makeFunc rfl rfl) rfl ?_
  refine t_val (r_assign rfl) rfl ?_
  refine t_nil ?_
  refine Tr.keep (env' := [(2, _)]) ⟨rfl, trivial⟩ ?_
  refine t_then ?_
  refine t_retc ?_
  refine t_ret1 rfl rfl (fun w hw => ?_)
  exact ⟨b1, rfl, trivial, hw⟩
theorem of_two {σ : Type} {inv : List IxRep → σ → Prop} {Me : σ → List Ent} {pv pc vb db ib c c2 : Nat} {lg : Value} {sp si : List Value} (hpv : ∀ s, cel pv 129 [.pointer (some ⟨vb, 0, none⟩)] ∈ Me s) (hpc : ∀ s, cel pc 3 [.int .i64 1] ∈ Me s) (hv : ∀ s, cel vb 224 [lg, .slice (some ⟨db, 0, none⟩) 2 c, .slice (some ⟨ib, 0, none⟩) 2 c2] ∈ Me s)
   (hd : ∀ s, cel db 228 (row2 sp) ∈ Me s) (hi : ∀ s, cel ib 3 (.int .i64 0 :: .int .i64 1 :: si) ∈ Me s) {l : Nat} {rr : Loop} {Fr : List Ent} (hy : Sl.Yields Tryz.prog w0 encX inv Me [(0, R1, 2000), (1, R2, 302000)] l rr) (s0 : σ) (h0 : inv [] s0) :
   ∀ w, Ok w0 (recE l rr :: (Fr ++ Me s0)) w → Calls Tryz.prog 189 #[.func (.yield l) #[] #[], .pointer (some ⟨pv, 0, none⟩), .pointer (some ⟨pc, 0, none⟩)] w (fun e w' => (∃ v, e = .returned v) ∧ ∃ s, inv [(0, R1, 2000), (1, R2, 302000)] s ∧ Ok w0 (recE l rr :: (Fr ++ Me s)) w') := by
  refine enter (vs := [_, _, _]) Tryz.func189 rfl Tryz.ntmps189 rfl ?_
  refine t_seq ?_
  refine t_region ?_
  refine t_val (r_load ca_129 rfl (rd_m (.tail _ (List.mem_append_right _ (hpv s0))) rfl)) rfl ?_
  refine t_val (r_nilCheck rfl) rfl ?_
  refine t_val (r_fa fo_224_2 rfl) rfl ?_
  refine t_val (r_load ca_36 rfl (rd_m (.tail _ (List.mem_append_right _ (hv s0))) rfl)) rfl ?_
  refine t_val (r_len_slice Tryz.underlying36 rfl) rfl ?_
  refine t_val (r_move rfl) rfl ?_
  refine t_nil ?_
  refine Tr.keep (env' := [(0, _), (1, _), (2, _), (10, _), (11, _), (12, _)]) ⟨rfl, rfl, rfl, rfl, rfl, rfl, trivial⟩ ?_
  refine t_then ?_
  refine t_block ?_
  refine t_unroll0 ?_
  refine t_unroll ?_
  refine t_seq ?_
  refine t_region ?_
  refine t_val (r_lt rfl rfl) rfl ?_
  refine t_nil ?_
  refine Tr.keep (env' := [(0, _), (1, _), (2, _), (10, _), (11, _), (12, _), (13, _)]) ⟨rfl, rfl, rfl, rfl, rfl, rfl, rfl, trivial⟩ ?_
  refine t_then ?_
  refine t_seq ?_
  refine t_cond_t rfl ?_
  refine t_skip ?_
  refine t_then ?_
  refine t_seq ?_
  refine t_block ?_
  refine t_seq ?_
  refine t_region ?_
  refine t_val (r_ia (j := 0) Tryz.underlying36 iz_3 rfl rfl rfl (by decide)) rfl ?_
  refine t_val (r_load ca_3 rfl (rd_m (.tail _ (List.mem_append_right _ (hi s0))) rfl)) rfl ?_
  refine t_val (r_assign rfl) rfl ?_
  refine t_nil ?_
  refine Tr.keep (env' := [(0, _), (1, _), (2, _), (5, _), (10, _), (11, _), (12, _)]) ⟨rfl, rfl, rfl, rfl, rfl, rfl, rfl, trivial⟩ ?_
  refine t_then ?_
  refine t_seq ?_
  refine t_region ?_
  refine t_val (r_load ca_129 rfl (rd_m (.tail _ (List.mem_append_right _ (hpv s0))) rfl)) rfl ?_
  refine t_val (r_nilCheck rfl) rfl ?_
  refine t_val (r_fa fo_224_1 rfl) rfl ?_
  refine t_val (r_load ca_221 rfl (rd_m (.tail _ (List.mem_append_right _ (hv s0))) rfl)) rfl ?_
  refine t_val (r_move rfl) rfl ?_
  refine t_val (r_ia (j := 0) Tryz.underlying221 iz_228 rfl rfl rfl (by decide)) rfl ?_
  refine t_val (r_loads ca_228 rfl (rds_m (n := 7) (vs := [_, _, _, _, _, _, _]) (.tail _ (List.mem_append_right _ (hd s0))) rfl) rfl) rfl ?_
  refine t_eff rfl (e_alloc inf_228 (l := [.int .i64 0, .int .i64 0, .int .i64 0, .int .i64 0, .int .i64 0, .int .i64 0, .int .i64 0]) rfl rfl fun b6 => ?_)
  refine t_eff rfl (e_stores iz_228 rfl rfl (vs := [_, _, _, _, _, _, _]) rfl rfl (by simp [Value.oneCell']) (.cons .zero (.cons (.succ .zero) (.cons (.succ (.succ .zero)) (.cons (.succ (.succ (.succ .zero))) (.cons (.succ (.succ (.succ (.succ .zero)))) (.cons (.succ (.succ (.succ (.succ (.succ .zero))))) (.cons (.succ (.succ (.succ (.succ (.succ (.succ .zero)))))) .nil))))))) .here ?_)
  refine t_nil ?_
  refine Tr.keep (env' := [(0, _), (1, _), (2, _), (5, _), (6, _), (10, _), (11, _), (12, _)]) ⟨rfl, rfl, rfl, rfl, rfl, rfl, rfl, rfl, trivial⟩ ?_
  refine t_then ?_
  refine t_seq ?_
  refine t_regionI ?_
  refine i_val (r_fa fo_228_2 rfl) rfl ?_
  refine i_val (r_load ca_226 rfl (rd_m (.head _) rfl)) rfl ?_
  refine i_val (r_ne rfl rfl) rfl ?_
  refine i_val (r_move rfl) rfl ?_
  refine i_gval rfl rfl (r_fa fo_228_3 rfl) rfl ?_
  refine i_gval rfl rfl (r_load ca_3 rfl (rd_m (.head _) rfl)) rfl ?_
  refine i_gval rfl rfl (r_load ca_3 rfl (rd_m (.tail _ (.tail _ (List.mem_append_right _ (hpc s0)))) rfl)) rfl ?_
  refine i_gval rfl rfl (r_eq rfl rfl) rfl ?_
  refine i_val (r_pick_t rfl rfl) rfl ?_
  refine i_val (r_move rfl) rfl ?_
  refine i_gval rfl rfl (r_move rfl) rfl ?_
  refine i_gval rfl rfl (r_move rfl) rfl ?_
  refine i_gval rfl rfl (r_loads ca_228 rfl (rds_m (n := 7) (vs := [_, _, _, _, _, _, _]) (.head _) rfl) rfl) rfl ?_
  refine ig_effI rfl rfl rfl (e_yield rfl rfl rfl (fun w hw => hy (_ :: Fr) [] ((0, R1, 2000)) [(1, R2, 302000)] rfl s0 h0 w (hw.perm (pk (.there .here) (.refl _)))) (fun s1 h1 => ?_))
  refine i_gval rfl rfl (r_not rfl) rfl ?_
  refine i_val (r_pick_t rfl rfl) rfl ?_
  refine i_nil ?_
  refine Tr.keep (env' := [(0, _), (1, _), (2, _), (10, _), (11, _), (12, _), (38, _)]) ⟨rfl, rfl, rfl, rfl, rfl, rfl, rfl, trivial⟩ ?_
  refine t_then ?_
  refine t_cond_f rfl ?_
  refine t_skip ?_
  refine t_in ?_
  refine t_then ?_
  refine t_region ?_
  refine t_val (r_addi rfl rfl (by omega)) rfl ?_
  refine t_val (r_move rfl) rfl ?_
  refine t_nil ?_
  refine Tr.keep (env' := [(0, _), (1, _), (2, _), (10, _), (11, _), (12, _)]) ⟨rfl, rfl, rfl, rfl, rfl, rfl, trivial⟩ ?_
  refine t_then ?_
  refine t_unroll ?_
  refine t_seq ?_
  refine t_region ?_
  refine t_val (r_lt rfl rfl) rfl ?_
  refine t_nil ?_
  refine Tr.keep (env' := [(0, _), (1, _), (2, _), (10, _), (11, _), (12, _), (13, _)]) ⟨rfl, rfl, rfl, rfl, rfl, rfl, rfl, trivial⟩ ?_
  refine t_then ?_
  refine t_seq ?_
  refine t_cond_t rfl ?_
  refine t_skip ?_
  refine t_then ?_
  refine t_seq ?_
  refine t_block ?_
  refine t_seq ?_
  refine t_region ?_
  refine t_val (r_ia (j := 1) Tryz.underlying36 iz_3 rfl rfl rfl (by decide)) rfl ?_
  refine t_val (r_load ca_3 rfl (rd_m (.tail _ (.tail _ (List.mem_append_right _ (hi s1)))) rfl)) rfl ?_
  refine t_val (r_assign rfl) rfl ?_
  refine t_nil ?_
  refine Tr.keep (env' := [(0, _), (1, _), (2, _), (5, _), (10, _), (11, _), (12, _)]) ⟨rfl, rfl, rfl, rfl, rfl, rfl, rfl, trivial⟩ ?_
  refine t_then ?_
  refine t_seq ?_
  refine t_region ?_
  refine t_val (r_load ca_129 rfl (rd_m (.tail _ (.tail _ (List.mem_append_right _ (hpv s1)))) rfl)) rfl ?_
  refine t_val (r_nilCheck rfl) rfl ?_
  refine t_val (r_fa fo_224_1 rfl) rfl ?_
  refine t_val (r_load ca_221 rfl (rd_m (.tail _ (.tail _ (List.mem_append_right _ (hv s1)))) rfl)) rfl ?_
  refine t_val (r_move rfl) rfl ?_
  refine t_val (r_ia (j := 1) Tryz.underlying221 iz_228 rfl rfl rfl (by decide)) rfl ?_
  refine t_val (r_loads ca_228 rfl (rds_m (n := 7) (vs := [_, _, _, _, _, _, _]) (.tail _ (.tail _ (List.mem_append_right _ (hd s1)))) rfl) rfl) rfl ?_
  refine t_eff rfl (e_alloc inf_228 (l := [.int .i64 0, .int .i64 0, .int .i64 0, .int .i64 0, .int .i64 0, .int .i64 0, .int .i64 0]) rfl rfl fun b6 => ?_)
  refine t_eff rfl (e_stores iz_228 rfl rfl (vs := [_, _, _, _, _, _, _]) rfl rfl (by simp [Value.oneCell']) (.cons .zero (.cons (.succ .zero) (.cons (.succ (.succ .zero)) (.cons (.succ (.succ (.succ .zero))) (.cons (.succ (.succ (.succ (.succ .zero)))) (.cons (.succ (.succ (.succ (.succ (.succ .zero))))) (.cons (.succ (.succ (.succ (.succ (.succ (.succ .zero)))))) .nil))))))) .here ?_)
  refine t_nil ?_
  refine Tr.keep (env' := [(0, _), (1, _), (2, _), (5, _), (6, _), (10, _), (11, _), (12, _)]) ⟨rfl, rfl, rfl, rfl, rfl, rfl, rfl, rfl, trivial⟩ ?_
  refine t_then ?_
  refine t_seq ?_
  refine t_regionI ?_
  refine i_val (r_fa fo_228_2 rfl) rfl ?_
  refine i_val (r_load ca_226 rfl (rd_m (.head _) rfl)) rfl ?_
  refine i_val (r_ne rfl rfl) rfl ?_
  refine i_val (r_move rfl) rfl ?_
  refine i_gval rfl rfl (r_fa fo_228_3 rfl) rfl ?_
  refine i_gval rfl rfl (r_load ca_3 rfl (rd_m (.head _) rfl)) rfl ?_
  refine i_gval rfl rfl (r_load ca_3 rfl (rd_m (.tail _ (.tail _ (.tail _ (List.mem_append_right _ (hpc s1))))) rfl)) rfl ?_
  refine i_gval rfl rfl (r_eq rfl rfl) rfl ?_
  refine i_val (r_pick_t rfl rfl) rfl ?_
  refine i_val (r_move rfl) rfl ?_
  refine i_gval rfl rfl (r_move rfl) rfl ?_
  refine i_gval rfl rfl (r_move rfl) rfl ?_
  refine i_gval rfl rfl (r_loads ca_228 rfl (rds_m (n := 7) (vs := [_, _, _, _, _, _, _]) (.head _) rfl) rfl) rfl ?_
  refine ig_effI rfl rfl rfl (e_yield rfl rfl rfl (fun w hw => hy (_ :: (_ :: Fr)) [(0, R1, 2000)] ((1, R2, 302000)) [] rfl s1 h1 w (hw.perm (pk (.there .here) (.refl _)))) (fun s2 h2 => ?_))
  refine i_gval rfl rfl (r_not rfl) rfl ?_
  refine i_val (r_pick_t rfl rfl) rfl ?_
  refine i_nil ?_
  refine Tr.keep (env' := [(0, _), (1, _), (2, _), (10, _), (11, _), (12, _), (38, _)]) ⟨rfl, rfl, rfl, rfl, rfl, rfl, rfl, trivial⟩ ?_
  refine t_then ?_
  refine t_cond_f rfl ?_
  refine t_skip ?_
  refine t_in ?_
  refine t_then ?_
  refine t_region ?_
  refine t_val (r_addi rfl rfl (by omega)) rfl ?_
  refine t_val (r_move rfl) rfl ?_
  refine t_nil ?_
  refine Tr.keep (env' := [(0, _), (1, _), (2, _), (10, _), (11, _), (12, _)]) ⟨rfl, rfl, rfl, rfl, rfl, rfl, trivial⟩ ?_
  refine t_then ?_
  refine t_unroll ?_
  refine t_seq ?_
  refine t_region ?_
  refine t_val (r_lt rfl rfl) rfl ?_
  refine t_nil ?_
  refine Tr.keep (env' := [(0, _), (1, _), (2, _), (10, _), (11, _), (12, _), (13, _)]) ⟨rfl, rfl, rfl, rfl, rfl, rfl, rfl, trivial⟩ ?_
  refine t_then ?_
  refine t_seq ?_
  refine t_cond_f rfl ?_
  refine t_exit ?_
  refine t_then_exit ?_
  refine t_then_exit ?_
  refine t_in_hit ?_
  refine t_end0 rfl (fun w hw => ?_)
  exact ⟨⟨_, rfl⟩, s2, h2, Ok.sub hw (.cons_cons _ (.cons _ (.cons _ (.refl _))))⟩
end
end Go.Proofs.W
set_option linter.unusedVariables false
set_option linter.unusedSimpArgs false
set_option linter.unusedSectionVars false
set_option maxRecDepth 100000
namespace Go.Proofs.W
open Go Go.Sl Go.RowKit Go.Proofs
theorem ca_225 : cellsAs Tryz.prog 225 = some (none) := by kernel_rfl
theorem ca_230 : cellsAs Tryz.prog 230 = some (some 2) := by kernel_rfl
theorem ca_231 : cellsAs Tryz.prog 231 = some (none) := by kernel_rfl
theorem en_112 : Enters Tryz.prog 112 := enters_of Tryz.func112 (by kernel_rfl) (by kernel_rfl)
theorem en_113 : Enters Tryz.prog 113 := enters_of Tryz.func113 (by kernel_rfl) (by kernel_rfl)
theorem en_188 : Enters Tryz.prog 188 := enters_of Tryz.func188 (by kernel_rfl) (by kernel_rfl)
theorem inf_225 : (Tryz.prog.info? 225).map (fun i => (i.zero, i.size, i.bytes)) = some (some ((.map none)), 1, 8) := by kernel_rfl
theorem inf_230 : (Tryz.prog.info? 230).map (fun i => (i.zero, i.size, i.bytes)) = some (some (.agg #[.int .i64 0, .int .i64 0]), 2, 16) := by kernel_rfl
theorem inf_231 : (Tryz.prog.info? 231).map (fun i => (i.zero, i.size, i.bytes)) = some (some ((.map none)), 1, 8) := by kernel_rfl
theorem inf_4 : (Tryz.prog.info? 4).map (fun i => (i.zero, i.size, i.bytes)) = some (some ((.bool false)), 1, 1) := by kernel_rfl
theorem iz_225 : (Tryz.prog.info? 225).map (·.size) = some 1 := by kernel_rfl
theorem iz_230 : (Tryz.prog.info? 230).map (·.size) = some 2 := by kernel_rfl
theorem iz_231 : (Tryz.prog.info? 231).map (·.size) = some 1 := by kernel_rfl
abbrev encN (p : Int × Int) : Value := .agg (icells [p.1, p.2]).toArray
theorem keyName : KeyK Tryz.prog 230 encN := KeyK.ints (fun p : Int × Int => [p.1, p.2]) Tryz.underlying230 (by kernel_rfl) (by
  intro j f h
  match j, h with
  | 0, h => cases h; exact ⟨by decide, rfl, Tryz.underlying3⟩
  | 1, h => cases h; exact ⟨by decide, rfl, Tryz.underlying3⟩
  | j + 2, h => simp at h) (fun _ => rfl) (fun a b h => by simp at h; exact Prod.ext h.1 h.2)
structure VAt where
  vb : Nat
  db : Nat
  c : Nat
  ib : Nat
  c2 : Nat
  sp : List Value
  si : List Value
abbrev VAt.ev (v : VAt) (lb : Nat) : Ent := cel v.vb 224 [.pointer (some ⟨lb, 0, none⟩), .slice (some ⟨v.db, 0, none⟩) 2 v.c, .slice (some ⟨v.ib, 0, none⟩) 2 v.c2]
abbrev VAt.ed (v : VAt) : Ent := cel v.db 228 (row2 v.sp)
abbrev VAt.ei (v : VAt) : Ent := cel v.ib 3 (.int .i64 0 :: .int .i64 1 :: v.si)
theorem own_ints2 {v x y : Value} {E : List Ent} (h : Own 3 1 v [[x], [y]] E) : ∃ b c si, v = .slice (some ⟨b, 0, none⟩) 2 c ∧ E = [cel b 3 (x :: y :: si)] := by
  rcases h.sh with ⟨_, h0, _⟩ | ⟨b, c, l, rfl, rfl, h2, h3, h4, h5⟩
  · simp at h0
  · simp at h3 h5
    refine ⟨b, c, l.drop 2, rfl, ?_⟩
    have hl : l = x :: y :: l.drop 2 := by
      conv => lhs; rw [← List.take_append_drop 2 l, h5]
      simp [flat]
    rw [← hl]
theorem repR : ordR R1 R2 < 0 ∧ ¬ ordR R2 R1 < 0 := by decide
section
variable {w0 : World} {M : List Ent}
theorem at_two {g : WLog} {l : WAt} (hb : g.eb l ∈ M) (hm : g.em l ∈ M) (hkv : g.kv = [(R1, 2000), (R2, 302000)]) :
   ∀ w, Ok w0 M w → Calls Tryz.prog 52 #[.pointer (some ⟨l.b, 0, none⟩), .int .i64 400000] w (fun e w' => ∃ x : VAt, e = .returned (.pointer (some ⟨x.vb, 0, none⟩)) ∧ True ∧ Ok w0 (x.ev l.b :: x.ed :: x.ei :: M) w') := by
  refine enterM (vs := [_, _]) Tryz.func52 rfl Tryz.ntmps52 rfl ?_
  refine t_noPanic ?_
  refine t_seq ?_
  refine t_region ?_
  refine t_eff rfl (e_box1 rfl rfl rfl fun b3 => ?_)
  refine t_val (r_assign rfl) rfl ?_
  refine t_nil ?_
  refine Tr.keep (env' := [(0, _), (3, _), (4, _)]) ⟨rfl, rfl, rfl, trivial⟩ ?_
  refine t_then ?_
  refine t_seq ?_
  refine t_region ?_
  refine t_val (r_move rfl) rfl ?_
  refine t_val (r_move rfl) rfl ?_
  refine t_eff rfl (e_call en_112 rfl rfl rfl rfl (reports_two R1 R2 2000 302000 (.tail _ hb) (.tail _ hm) hkv repR.1 repR.2) fun x hO => ?_)
  obtain ⟨v, E⟩ := x
  obtain ⟨db, c, sp, hv, hE, _⟩ := own_two hO
  dsimp only at hv hE ⊢
  subst hv hE
  simp only [List.singleton_append]
  show Tr _ _ _ _ (cel db 228 (row2 sp) :: _) _
  refine t_val (r_build rfl (v := .agg #[.pointer (some ⟨l.b, 0, none⟩), .slice (some ⟨db, 0, none⟩) 2 c, .slice none 0 0]) (fun w => by kernel_rfl)) rfl ?_
  refine t_eff rfl (e_box rfl rfl fun b20 => ?_)
  refine t_val (r_assign rfl) rfl ?_
  refine t_nil ?_
  refine Tr.keep (env' := [(3, _), (4, _), (5, _)]) ⟨rfl, rfl, rfl, trivial⟩ ?_
  refine t_then ?_
  refine t_seq ?_
  refine t_region ?_
  refine t_eff rfl (e_makeMap (encN) rfl fun b21 => ?_)
  refine t_eff rfl (e_alloc inf_225 (l := [.map none]) rfl rfl fun b6 => ?_)
  refine t_eff rfl (e_store iz_225 rfl rfl rfl .zero .here ?_)
  refine t_nil ?_
  refine Tr.keep (env' := [(3, _), (4, _), (5, _), (6, _)]) ⟨rfl, rfl, rfl, rfl, trivial⟩ ?_
  refine t_then ?_
  refine t_seq ?_
  refine t_seq ?_
  refine t_region ?_
  refine t_val (r_move rfl) rfl ?_
  refine t_val (r_nilCheck rfl) rfl ?_
  refine t_val (r_fa fo_224_1 rfl) rfl ?_
  refine t_val (r_load ca_221 rfl (rd_m (.tail _ (.tail _ (.head _))) rfl)) rfl ?_
  refine t_val (r_len_slice Tryz.underlying221 rfl) rfl ?_
  refine t_val (r_move rfl) rfl ?_
  refine t_nil ?_
  refine Tr.keep (env' := [(3, _), (4, _), (5, _), (6, _), (25, _), (26, _), (27, _)]) ⟨rfl, rfl, rfl, rfl, rfl, rfl, rfl, trivial⟩ ?_
  refine t_then ?_
  refine t_block ?_
  refine t_unroll0 ?_
  refine t_unroll ?_
  refine t_seq ?_
  refine t_region ?_
  refine t_val (r_lt rfl rfl) rfl ?_
  refine t_nil ?_
  refine Tr.keep (env' := [(3, _), (4, _), (5, _), (6, _), (25, _), (26, _), (27, _), (28, _)]) ⟨rfl, rfl, rfl, rfl, rfl, rfl, rfl, rfl, trivial⟩ ?_
  refine t_then ?_
  refine t_seq ?_
  refine t_cond_t rfl ?_
  refine t_skip ?_
  refine t_then ?_
  refine t_seq ?_
  refine t_block ?_
  refine t_seq ?_
  refine t_region ?_
  refine t_val (r_ia (j := 0) Tryz.underlying221 iz_228 rfl rfl rfl (by decide)) rfl ?_
  refine t_val (r_loads ca_228 rfl (rds_m (n := 7) (vs := [_, _, _, _, _, _, _]) (.tail _ (.tail _ (.tail _ (.head _)))) rfl) rfl) rfl ?_
  refine t_eff rfl (e_alloc inf_228 (l := [.int .i64 0, .int .i64 0, .int .i64 0, .int .i64 0, .int .i64 0, .int .i64 0, .int .i64 0]) rfl rfl fun b8 => ?_)
  refine t_eff rfl (e_stores iz_228 rfl rfl (vs := [_, _, _, _, _, _, _]) rfl rfl (by simp [Value.oneCell']) (.cons .zero (.cons (.succ .zero) (.cons (.succ (.succ .zero)) (.cons (.succ (.succ (.succ .zero))) (.cons (.succ (.succ (.succ (.succ .zero)))) (.cons (.succ (.succ (.succ (.succ (.succ .zero))))) (.cons (.succ (.succ (.succ (.succ (.succ (.succ .zero)))))) .nil))))))) .here ?_)
  refine t_nil ?_
  refine Tr.keep (env' := [(3, _), (4, _), (5, _), (6, _), (8, _), (25, _), (26, _), (27, _)]) ⟨rfl, rfl, rfl, rfl, rfl, rfl, rfl, rfl, trivial⟩ ?_
  refine t_then ?_
  refine t_seq ?_
  refine t_region ?_
  refine t_val (r_fa fo_228_6 rfl) rfl ?_
  refine t_val (r_load ca_3 rfl (rd_m (.head _) rfl)) rfl ?_
  refine t_val (r_load ca_3 rfl (rd_m (.tail _ (.tail _ (.tail _ (.tail _ (.tail _ (.head _)))))) rfl)) rfl ?_
  refine t_val (r_le rfl rfl) rfl ?_
  refine t_nil ?_
  refine Tr.keep (env' := [(3, _), (4, _), (5, _), (6, _), (8, _), (25, _), (26, _), (27, _), (34, _)]) ⟨rfl, rfl, rfl, rfl, rfl, rfl, rfl, rfl, rfl, trivial⟩ ?_
  refine t_then ?_
  refine t_cond_t rfl ?_
  refine Tr.keep (env' := [(3, _), (4, _), (5, _), (6, _), (8, _), (25, _), (26, _), (27, _)]) ⟨rfl, rfl, rfl, rfl, rfl, rfl, rfl, rfl, trivial⟩ ?_
  refine Tr.keep (env' := [(3, _), (4, _), (5, _), (6, _), (8, _), (25, _), (26, _), (27, _)]) ⟨rfl, rfl, rfl, rfl, rfl, rfl, rfl, rfl, trivial⟩ ?_
  refine t_cutU [] (y := mpe b21 encN (mput (0, 0) (.int .i64 1) [])) (.there (.there .here)) ?_ ?_
  · intro K hK
    refine d_beginS (.cons_cons _ (.cons_cons _ (.cons _ (.refl _)))) mixed rfl ?_
    refine d_val 0 rfl (by kernel_rfl) (by kernel_rfl) (by kernel_rfl) (.then (.inBlock (.then (.then (.inBlock (.then .noPanic)))))) (.cons_cons _ (.cons_cons _ (.cons _ (.refl _)))) rfl (r_load ca_225 rfl (rd_m (.tail _ (.head _)) rfl)) ?_
    refine d_val 1 rfl (by kernel_rfl) (by kernel_rfl) (by kernel_rfl) (.then (.inBlock (.then (.then (.inBlock (.then .noPanic)))))) (.cons_cons _ (.cons_cons _ (.cons _ (.refl _)))) rfl (r_fa fo_228_0 rfl) ?_
    refine d_val 2 rfl (by kernel_rfl) (by kernel_rfl) (by kernel_rfl) (.then (.inBlock (.then (.then (.inBlock (.then .noPanic)))))) (.cons_cons _ (.cons_cons _ (.cons _ (.refl _)))) rfl (r_load ca_3 rfl (rd_m (.head _) rfl)) ?_
    refine d_val 3 rfl (by kernel_rfl) (by kernel_rfl) (by kernel_rfl) (.then (.inBlock (.then (.then (.inBlock (.then .noPanic)))))) (.cons_cons _ (.cons_cons _ (.cons _ (.refl _)))) rfl (r_fa fo_228_1 rfl) ?_
    refine d_val 4 rfl (by kernel_rfl) (by kernel_rfl) (by kernel_rfl) (.then (.inBlock (.then (.then (.inBlock (.then .noPanic)))))) (.cons_cons _ (.cons_cons _ (.cons _ (.refl _)))) rfl (r_load ca_3 rfl (rd_m (.head _) rfl)) ?_
    refine d_val 5 rfl (by kernel_rfl) (by kernel_rfl) (by kernel_rfl) (.then (.inBlock (.then (.then (.inBlock (.then .noPanic)))))) (.cons_cons _ (.cons_cons _ (.cons _ (.refl _)))) rfl (r_build rfl (v := encN (0, 0)) (fun w => by kernel_rfl)) ?_
    refine d_eff2 6 8 rfl rfl  rfl rfl  (by kernel_rfl) ?_ ?_
    · refine (e_val (run_to (v' := .int .i64 0) (r_lookup1 ((0, 0)) Tryz.underlying225 keyName inf_3 rfl rfl (.tail _ (.tail _ (.head _)))) rfl) rfl ?_)
      refine d_held (.cons_cons _ (.cons_cons _ (.cons _ (.refl _)))) ?_
      refine d_val 7 rfl (by kernel_rfl) (by kernel_rfl) (by kernel_rfl) (.then (.inBlock (.then (.then (.inBlock (.then .noPanic)))))) (.cons_cons _ (.cons_cons _ (.cons _ (.refl _)))) rfl (r_addi rfl rfl (by omega)) ?_
      refine d_eff 8 rfl rfl (by kernel_rfl) (e_mapEntryU (a := (0, 0)) Tryz.underlying225 keyName inf_3 rfl rfl rfl (fun _ => (.there (.there .here))) fun l' j' u' hj' hu' hmg' hset' => ?_)
      refine d_held (.cons_cons _ (.cons_cons _ (.cons _ (.refl _)))) ?_
      refine d_val 9 rfl (by kernel_rfl) (by kernel_rfl) (by kernel_rfl) (.then (.inBlock (.then (.then (.inBlock (.then .noPanic)))))) (.cons_cons _ (.cons_cons _ (.cons _ (.refl _)))) rfl (r_extract rfl rfl) ?_
      refine d_eff 10 rfl rfl (by kernel_rfl) (e_entryStore rfl rfl rfl hj' (.there (.there .here)) ?_)
      rw [hset']
      refine d_held (.cons_cons _ (.cons_cons _ (.cons _ (.refl _)))) ?_
      refine d_end (by kernel_rfl) ?_
      exact t_thenK hK ⟨rfl, rfl, rfl, rfl, rfl, rfl, rfl, rfl, trivial⟩ (.refl _)
    · refine (e_mapEntryU (a := (0, 0)) Tryz.underlying225 keyName inf_3 rfl rfl rfl (fun _ => (.there (.there .here))) fun l' j' u' hj' hu' hmg' hset' => ?_)
      refine d_held (.cons_cons _ (.cons_cons _ (.cons _ (.refl _)))) ?_
      refine d_val 9 rfl (by kernel_rfl) (by kernel_rfl) (by kernel_rfl) (.then (.inBlock (.then (.then (.inBlock (.then .noPanic)))))) (.cons_cons _ (.cons_cons _ (.cons _ (.refl _)))) rfl (r_extract rfl rfl) ?_
      refine d_eff 6 rfl rfl (by kernel_rfl) (e_val (run_to (v' := .int .i64 0) (r_lookup1 ((0, 0)) Tryz.underlying225 keyName inf_3 rfl rfl (.tail _ (.tail _ (.head _)))) (by rw [hmg', hu']; rfl)) rfl ?_)
      refine d_held (.cons_cons _ (.cons_cons _ (.cons _ (.refl _)))) ?_
      refine d_val 7 rfl (by kernel_rfl) (by kernel_rfl) (by kernel_rfl) (.then (.inBlock (.then (.then (.inBlock (.then .noPanic)))))) (.cons_cons _ (.cons_cons _ (.cons _ (.refl _)))) rfl (r_addi rfl rfl (by omega)) ?_
      refine d_eff 10 rfl rfl (by kernel_rfl) (e_entryStore rfl rfl rfl hj' (.there (.there .here)) ?_)
      rw [hset']
      refine d_held (.cons_cons _ (.cons_cons _ (.cons _ (.refl _)))) ?_
      refine d_end (by kernel_rfl) ?_
      exact t_thenK hK ⟨rfl, rfl, rfl, rfl, rfl, rfl, rfl, rfl, trivial⟩ (.refl _)
  skip
  refine Tr.keep (env' := [(3, _), (4, _), (5, _), (6, _), (25, _), (26, _), (27, _)]) ⟨rfl, rfl, rfl, rfl, rfl, rfl, rfl, trivial⟩ ?_
  refine t_in ?_
  refine t_then ?_
  refine t_region ?_
  refine t_val (r_addi rfl rfl (by omega)) rfl ?_
  refine t_val (r_move rfl) rfl ?_
  refine t_nil ?_
  refine Tr.keep (env' := [(3, _), (4, _), (5, _), (6, _), (25, _), (26, _), (27, _)]) ⟨rfl, rfl, rfl, rfl, rfl, rfl, rfl, trivial⟩ ?_
  refine t_then ?_
  refine t_unroll ?_
  refine t_seq ?_
  refine t_region ?_
  refine t_val (r_lt rfl rfl) rfl ?_
  refine t_nil ?_
  refine Tr.keep (env' := [(3, _), (4, _), (5, _), (6, _), (25, _), (26, _), (27, _), (28, _)]) ⟨rfl, rfl, rfl, rfl, rfl, rfl, rfl, rfl, trivial⟩ ?_
  refine t_then ?_
  refine t_seq ?_
  refine t_cond_t rfl ?_
  refine t_skip ?_
  refine t_then ?_
  refine t_seq ?_
  refine t_block ?_
  refine t_seq ?_
  refine t_region ?_
  refine t_val (r_ia (j := 1) Tryz.underlying221 iz_228 rfl rfl rfl (by decide)) rfl ?_
  refine t_val (r_loads ca_228 rfl (rds_m (n := 7) (vs := [_, _, _, _, _, _, _]) (.tail _ (.tail _ (.tail _ (.tail _ (.head _))))) rfl) rfl) rfl ?_
  refine t_eff rfl (e_alloc inf_228 (l := [.int .i64 0, .int .i64 0, .int .i64 0, .int .i64 0, .int .i64 0, .int .i64 0, .int .i64 0]) rfl rfl fun b8 => ?_)
  refine t_eff rfl (e_stores iz_228 rfl rfl (vs := [_, _, _, _, _, _, _]) rfl rfl (by simp [Value.oneCell']) (.cons .zero (.cons (.succ .zero) (.cons (.succ (.succ .zero)) (.cons (.succ (.succ (.succ .zero))) (.cons (.succ (.succ (.succ (.succ .zero)))) (.cons (.succ (.succ (.succ (.succ (.succ .zero))))) (.cons (.succ (.succ (.succ (.succ (.succ (.succ .zero)))))) .nil))))))) .here ?_)
  refine t_nil ?_
  refine Tr.keep (env' := [(3, _), (4, _), (5, _), (6, _), (8, _), (25, _), (26, _), (27, _)]) ⟨rfl, rfl, rfl, rfl, rfl, rfl, rfl, rfl, trivial⟩ ?_
  refine t_then ?_
  refine t_seq ?_
  refine t_region ?_
  refine t_val (r_fa fo_228_6 rfl) rfl ?_
  refine t_val (r_load ca_3 rfl (rd_m (.head _) rfl)) rfl ?_
  refine t_val (r_load ca_3 rfl (rd_m (.tail _ (.tail _ (.tail _ (.tail _ (.tail _ (.tail _ (.head _))))))) rfl)) rfl ?_
  refine t_val (r_le rfl rfl) rfl ?_
  refine t_nil ?_
  refine Tr.keep (env' := [(3, _), (4, _), (5, _), (6, _), (8, _), (25, _), (26, _), (27, _), (34, _)]) ⟨rfl, rfl, rfl, rfl, rfl, rfl, rfl, rfl, rfl, trivial⟩ ?_
  refine t_then ?_
  refine t_cond_t rfl ?_
  refine Tr.keep (env' := [(3, _), (4, _), (5, _), (6, _), (8, _), (25, _), (26, _), (27, _)]) ⟨rfl, rfl, rfl, rfl, rfl, rfl, rfl, rfl, trivial⟩ ?_
  refine Tr.keep (env' := [(3, _), (4, _), (5, _), (6, _), (8, _), (25, _), (26, _), (27, _)]) ⟨rfl, rfl, rfl, rfl, rfl, rfl, rfl, rfl, trivial⟩ ?_
  refine t_cutU [] (y := mpe b21 encN (mput (0, 1) (.int .i64 1) (mput (0, 0) (.int .i64 1) []))) (.there (.there (.there .here))) ?_ ?_
  · intro K hK
    refine d_beginS (.cons_cons _ (.cons_cons _ (.cons_cons _ (.cons _ (.refl _))))) mixed rfl ?_
    refine d_val 0 rfl (by kernel_rfl) (by kernel_rfl) (by kernel_rfl) (.then (.inBlock (.then (.then (.inBlock (.then .noPanic)))))) (.cons_cons _ (.cons_cons _ (.cons_cons _ (.cons _ (.refl _))))) rfl (r_load ca_225 rfl (rd_m (.tail _ (.tail _ (.head _))) rfl)) ?_
    refine d_val 1 rfl (by kernel_rfl) (by kernel_rfl) (by kernel_rfl) (.then (.inBlock (.then (.then (.inBlock (.then .noPanic)))))) (.cons_cons _ (.cons_cons _ (.cons_cons _ (.cons _ (.refl _))))) rfl (r_fa fo_228_0 rfl) ?_
    refine d_val 2 rfl (by kernel_rfl) (by kernel_rfl) (by kernel_rfl) (.then (.inBlock (.then (.then (.inBlock (.then .noPanic)))))) (.cons_cons _ (.cons_cons _ (.cons_cons _ (.cons _ (.refl _))))) rfl (r_load ca_3 rfl (rd_m (.head _) rfl)) ?_
    refine d_val 3 rfl (by kernel_rfl) (by kernel_rfl) (by kernel_rfl) (.then (.inBlock (.then (.then (.inBlock (.then .noPanic)))))) (.cons_cons _ (.cons_cons _ (.cons_cons _ (.cons _ (.refl _))))) rfl (r_fa fo_228_1 rfl) ?_
    refine d_val 4 rfl (by kernel_rfl) (by kernel_rfl) (by kernel_rfl) (.then (.inBlock (.then (.then (.inBlock (.then .noPanic)))))) (.cons_cons _ (.cons_cons _ (.cons_cons _ (.cons _ (.refl _))))) rfl (r_load ca_3 rfl (rd_m (.head _) rfl)) ?_
    refine d_val 5 rfl (by kernel_rfl) (by kernel_rfl) (by kernel_rfl) (.then (.inBlock (.then (.then (.inBlock (.then .noPanic)))))) (.cons_cons _ (.cons_cons _ (.cons_cons _ (.cons _ (.refl _))))) rfl (r_build rfl (v := encN (0, 1)) (fun w => by kernel_rfl)) ?_
    refine d_eff2 6 8 rfl rfl  rfl rfl  (by kernel_rfl) ?_ ?_
    · refine (e_val (run_to (v' := .int .i64 0) (r_lookup1 ((0, 1)) Tryz.underlying225 keyName inf_3 rfl rfl (.tail _ (.tail _ (.tail _ (.head _))))) rfl) rfl ?_)
      refine d_held (.cons_cons _ (.cons_cons _ (.cons_cons _ (.cons _ (.refl _))))) ?_
      refine d_val 7 rfl (by kernel_rfl) (by kernel_rfl) (by kernel_rfl) (.then (.inBlock (.then (.then (.inBlock (.then .noPanic)))))) (.cons_cons _ (.cons_cons _ (.cons_cons _ (.cons _ (.refl _))))) rfl (r_addi rfl rfl (by omega)) ?_
      refine d_eff 8 rfl rfl (by kernel_rfl) (e_mapEntryU (a := (0, 1)) Tryz.underlying225 keyName inf_3 rfl rfl rfl (fun _ => (.there (.there (.there .here)))) fun l' j' u' hj' hu' hmg' hset' => ?_)
      refine d_held (.cons_cons _ (.cons_cons _ (.cons_cons _ (.cons _ (.refl _))))) ?_
      refine d_val 9 rfl (by kernel_rfl) (by kernel_rfl) (by kernel_rfl) (.then (.inBlock (.then (.then (.inBlock (.then .noPanic)))))) (.cons_cons _ (.cons_cons _ (.cons_cons _ (.cons _ (.refl _))))) rfl (r_extract rfl rfl) ?_
      refine d_eff 10 rfl rfl (by kernel_rfl) (e_entryStore rfl rfl rfl hj' (.there (.there (.there .here))) ?_)
      rw [hset']
      refine d_held (.cons_cons _ (.cons_cons _ (.cons_cons _ (.cons _ (.refl _))))) ?_
      refine d_end (by kernel_rfl) ?_
      exact t_thenK hK ⟨rfl, rfl, rfl, rfl, rfl, rfl, rfl, rfl, trivial⟩ (.refl _)
    · refine (e_mapEntryU (a := (0, 1)) Tryz.underlying225 keyName inf_3 rfl rfl rfl (fun _ => (.there (.there (.there .here)))) fun l' j' u' hj' hu' hmg' hset' => ?_)
      refine d_held (.cons_cons _ (.cons_cons _ (.cons_cons _ (.cons _ (.refl _))))) ?_
      refine d_val 9 rfl (by kernel_rfl) (by kernel_rfl) (by kernel_rfl) (.then (.inBlock (.then (.then (.inBlock (.then .noPanic)))))) (.cons_cons _ (.cons_cons _ (.cons_cons _ (.cons _ (.refl _))))) rfl (r_extract rfl rfl) ?_
      refine d_eff 6 rfl rfl (by kernel_rfl) (e_val (run_to (v' := .int .i64 0) (r_lookup1 ((0, 1)) Tryz.underlying225 keyName inf_3 rfl rfl (.tail _ (.tail _ (.tail _ (.head _))))) (by rw [hmg', hu']; rfl)) rfl ?_)
      refine d_held (.cons_cons _ (.cons_cons _ (.cons_cons _ (.cons _ (.refl _))))) ?_
      refine d_val 7 rfl (by kernel_rfl) (by kernel_rfl) (by kernel_rfl) (.then (.inBlock (.then (.then (.inBlock (.then .noPanic)))))) (.cons_cons _ (.cons_cons _ (.cons_cons _ (.cons _ (.refl _))))) rfl (r_addi rfl rfl (by omega)) ?_
      refine d_eff 10 rfl rfl (by kernel_rfl) (e_entryStore rfl rfl rfl hj' (.there (.there (.there .here))) ?_)
      rw [hset']
      refine d_held (.cons_cons _ (.cons_cons _ (.cons_cons _ (.cons _ (.refl _))))) ?_
      refine d_end (by kernel_rfl) ?_
      exact t_thenK hK ⟨rfl, rfl, rfl, rfl, rfl, rfl, rfl, rfl, trivial⟩ (.refl _)
  skip
  refine Tr.keep (env' := [(3, _), (4, _), (5, _), (6, _), (25, _), (26, _), (27, _)]) ⟨rfl, rfl, rfl, rfl, rfl, rfl, rfl, trivial⟩ ?_
  refine t_in ?_
  refine t_then ?_
  refine t_region ?_
  refine t_val (r_addi rfl rfl (by omega)) rfl ?_
  refine t_val (r_move rfl) rfl ?_
  refine t_nil ?_
  refine Tr.keep (env' := [(3, _), (4, _), (5, _), (6, _), (25, _), (26, _), (27, _)]) ⟨rfl, rfl, rfl, rfl, rfl, rfl, rfl, trivial⟩ ?_
  refine t_then ?_
  refine t_unroll ?_
  refine t_seq ?_
  refine t_region ?_
  refine t_val (r_lt rfl rfl) rfl ?_
  refine t_nil ?_
  refine Tr.keep (env' := [(3, _), (4, _), (5, _), (6, _), (25, _), (26, _), (27, _), (28, _)]) ⟨rfl, rfl, rfl, rfl, rfl, rfl, rfl, rfl, trivial⟩ ?_
  refine t_then ?_
  refine t_seq ?_
  refine t_cond_f rfl ?_
  refine t_exit ?_
  refine t_then_exit ?_
  refine t_then_exit ?_
  refine t_in_hit ?_
  refine t_then ?_
  refine t_seq ?_
  refine t_region ?_
  refine t_eff rfl (e_makeMap (encN) rfl fun b46 => ?_)
  refine t_eff rfl (e_alloc inf_231 (l := [.map none]) rfl rfl fun b9 => ?_)
  refine t_eff rfl (e_store iz_231 rfl rfl rfl .zero .here ?_)
  refine t_nil ?_
  refine Tr.keep (env' := [(3, _), (4, _), (5, _), (6, _), (9, _)]) ⟨rfl, rfl, rfl, rfl, rfl, trivial⟩ ?_
  refine t_then ?_
  refine t_seq ?_
  refine t_seq ?_
  refine t_region ?_
  refine t_val (r_move rfl) rfl ?_
  refine t_val (r_nilCheck rfl) rfl ?_
  refine t_val (r_fa fo_224_1 rfl) rfl ?_
  refine t_val (r_load ca_221 rfl (rd_m (.tail _ (.tail _ (.tail _ (.tail _ (.tail _ (.tail _ (.head _))))))) rfl)) rfl ?_
  refine t_eff rfl (e_call en_113 rfl rfl rfl rfl (backward_c _ rfl) fun bb _ => ?_)
  refine t_nil ?_
  refine Tr.keep (env' := [(3, _), (4, _), (5, _), (6, _), (9, _), (51, _)]) ⟨rfl, rfl, rfl, rfl, rfl, rfl, trivial⟩ ?_
  refine t_then ?_
  refine t_block ?_
  refine Tr.keep (env' := [(3, _), (5, _), (6, _), (9, _), (51, _)]) ⟨rfl, rfl, rfl, rfl, rfl, trivial⟩ ?_
  refine t_rangeFunc rfl en_188 (encX) (fun _ => rfl) (by decide) ([(1, R2, 302000), (0, R1, 2000)]) (fun _ _ => True) (fun _ : Unit => _) (()) (trivial) rfl ?_ ?_ ?_
  · exact fun l r Fr hy => backward_two (σ := Unit) (fun _ => (.head _)) (fun _ => (.tail _ (.tail _ (.tail _ (.tail _ (.tail _ (.tail _ (.tail _ (.tail _ (.head _)))))))))) hy () trivial
  · intro l' rr Fr pre x post hx s hs
    have hk : x.2.1.kind = 1 := by
      have : x ∈ [((1 : Int), R2, (302000 : Int)), (0, R1, 2000)] := hx ▸ (by simp)
      simp at this
      rcases this with rfl | rfl <;> rfl
    refine Tr.keep (env' := [(3, _), (6, _), (9, _), (53, _)]) ⟨rfl, rfl, rfl, rfl, trivial⟩ ?_
    refine i_region ?_
    refine i_eff rfl (e_alloc inf_228 (l := [.int .i64 0, .int .i64 0, .int .i64 0, .int .i64 0, .int .i64 0, .int .i64 0, .int .i64 0]) rfl rfl fun b11 => ?_)
    refine i_eff rfl (e_stores iz_228 rfl rfl (vs := [_, _, _, _, _, _, _]) rfl rfl (by simp [Value.oneCell']) (.cons .zero (.cons (.succ .zero) (.cons (.succ (.succ .zero)) (.cons (.succ (.succ (.succ .zero))) (.cons (.succ (.succ (.succ (.succ .zero)))) (.cons (.succ (.succ (.succ (.succ (.succ .zero))))) (.cons (.succ (.succ (.succ (.succ (.succ (.succ .zero)))))) .nil))))))) .here ?_)
    refine i_nil ?_
    refine Tr.keep (env' := [(3, _), (6, _), (9, _), (11, _), (53, _)]) ⟨rfl, rfl, rfl, rfl, rfl, trivial⟩ ?_
    refine t_then ?_
    refine t_begin (.there .here) ?_
    refine i_block ?_
    refine i_seq ?_
    refine i_region ?_
    refine i_val (r_fa fo_228_0 rfl) rfl ?_
    refine i_val (r_load ca_3 rfl (rd_m (.head _) rfl)) rfl ?_
    refine i_val (r_fa fo_228_1 rfl) rfl ?_
    refine i_val (r_load ca_3 rfl (rd_m (.head _) rfl)) rfl ?_
    refine i_val (r_build rfl (v := encN (x.2.1.source, x.2.1.number)) (fun w => by kernel_rfl)) rfl ?_
    refine i_eff rfl (e_alloc inf_230 (l := [.int .i64 0, .int .i64 0]) rfl rfl fun b12 => ?_)
    refine i_eff rfl (e_stores iz_230 rfl rfl (vs := [_, _]) rfl rfl (by simp [Value.oneCell']) (.cons .zero (.cons (.succ .zero) .nil)) .here ?_)
    refine i_nil ?_
    refine Tr.keep (env' := [(3, _), (6, _), (9, _), (11, _), (12, _)]) ⟨rfl, rfl, rfl, rfl, rfl, trivial⟩ ?_
    refine t_then ?_
    refine i_seq ?_
    refine i_region ?_
    refine i_val (r_fa fo_228_2 rfl) rfl ?_
    refine i_val (r_load ca_226 rfl (rd_m (.tail _ (.head _)) rfl)) rfl ?_
    refine i_val (run_to (v' := .bool false) (r_eq rfl rfl) (by rw [hk]; rfl)) rfl ?_
    refine i_val (r_move rfl) rfl ?_
    refine i_gskip rfl rfl rfl rfl ?_
    refine i_gskip rfl rfl rfl rfl ?_
    refine i_gskip rfl rfl rfl rfl ?_
    refine i_gskip rfl rfl rfl rfl ?_
    refine i_val (r_pick_f rfl rfl) rfl ?_
    refine i_val (r_move rfl) rfl ?_
    refine i_gskip rfl rfl rfl rfl ?_
    refine i_gskip rfl rfl rfl rfl ?_
    refine i_gskip rfl rfl rfl rfl ?_
    refine i_gskip rfl rfl rfl rfl ?_
    refine i_val (r_pick_f rfl rfl) rfl ?_
    refine i_val (r_move rfl) rfl ?_
    refine i_gskip rfl rfl rfl rfl ?_
    refine i_gskip rfl rfl rfl rfl ?_
    refine i_gskip rfl rfl rfl rfl ?_
    refine i_gskip rfl rfl rfl rfl ?_
    refine i_val (r_pick_f rfl rfl) rfl ?_
    refine i_nil ?_
    refine Tr.keep (env' := [(9, _), (11, _), (79, _)]) ⟨rfl, rfl, rfl, trivial⟩ ?_
    refine t_then ?_
    refine i_cond_f rfl ?_
    refine i_skipc ?_
    refine t_in ?_
    refine t_endRound (.there (.there .here)) (fun w hw => ?_)
    exact ⟨rfl, (), trivial, Ok.sub (hw.perm (pk (.there (.there .here)) (.refl _))) (.cons_cons _ (.cons _ (.cons _ (.refl _))))⟩
  · intro DD s hs
    refine t_in ?_
    refine t_then ?_
    refine t_seq ?_
    refine t_seq ?_
    refine t_region ?_
    refine t_val (r_move rfl) rfl ?_
    refine t_val (r_nilCheck rfl) rfl ?_
    refine t_val (r_fa fo_224_1 rfl) rfl ?_
    refine t_val (r_load ca_221 rfl (rd_m (.tail _ (.tail _ (.tail _ (.tail _ (.tail _ (.tail _ (.tail _ (.tail _ (.head _))))))))) rfl)) rfl ?_
    refine t_val (r_len_slice Tryz.underlying221 rfl) rfl ?_
    refine t_val (r_move rfl) rfl ?_
    refine t_nil ?_
    refine Tr.keep (env' := [(3, _), (5, _), (6, _), (9, _), (89, _), (90, _), (91, _)]) ⟨rfl, rfl, rfl, rfl, rfl, rfl, rfl, trivial⟩ ?_
    refine t_then ?_
    refine t_block ?_
    refine t_unroll0 ?_
    refine t_unroll ?_
    refine t_seq ?_
    refine t_region ?_
    refine t_val (r_lt rfl rfl) rfl ?_
    refine t_nil ?_
    refine Tr.keep (env' := [(3, _), (5, _), (6, _), (9, _), (89, _), (90, _), (91, _), (92, _)]) ⟨rfl, rfl, rfl, rfl, rfl, rfl, rfl, rfl, trivial⟩ ?_
    refine t_then ?_
    refine t_seq ?_
    refine t_cond_t rfl ?_
    refine t_skip ?_
    refine t_then ?_
    refine t_seq ?_
    refine t_block ?_
    refine t_seq ?_
    refine t_region ?_
    refine t_val (r_move rfl) rfl ?_
    refine t_val (r_ia (j := 0) Tryz.underlying221 iz_228 rfl rfl rfl (by decide)) rfl ?_
    refine t_val (r_loads ca_228 rfl (rds_m (n := 7) (vs := [_, _, _, _, _, _, _]) (.tail _ (.tail _ (.tail _ (.tail _ (.tail _ (.tail _ (.tail _ (.tail _ (.tail _ (.head _)))))))))) rfl) rfl) rfl ?_
    refine t_eff rfl (e_alloc inf_228 (l := [.int .i64 0, .int .i64 0, .int .i64 0, .int .i64 0, .int .i64 0, .int .i64 0, .int .i64 0]) rfl rfl fun b14 => ?_)
    refine t_val (r_assign rfl) rfl ?_
    refine t_eff rfl (e_stores iz_228 rfl rfl (vs := [_, _, _, _, _, _, _]) rfl rfl (by simp [Value.oneCell']) (.cons .zero (.cons (.succ .zero) (.cons (.succ (.succ .zero)) (.cons (.succ (.succ (.succ .zero))) (.cons (.succ (.succ (.succ (.succ .zero)))) (.cons (.succ (.succ (.succ (.succ (.succ .zero))))) (.cons (.succ (.succ (.succ (.succ (.succ (.succ .zero)))))) .nil))))))) .here ?_)
    refine t_nil ?_
    refine Tr.keep (env' := [(3, _), (5, _), (6, _), (9, _), (13, _), (14, _), (89, _), (90, _), (91, _)]) ⟨rfl, rfl, rfl, rfl, rfl, rfl, rfl, rfl, rfl, trivial⟩ ?_
    refine t_then ?_
    refine t_seq ?_
    refine t_region ?_
    refine t_val (r_fa fo_228_0 rfl) rfl ?_
    refine t_val (r_load ca_3 rfl (rd_m (.head _) rfl)) rfl ?_
    refine t_val (r_fa fo_228_1 rfl) rfl ?_
    refine t_val (r_load ca_3 rfl (rd_m (.head _) rfl)) rfl ?_
    refine t_val (r_build rfl (v := encN (0, 0)) (fun w => by kernel_rfl)) rfl ?_
    refine t_eff rfl (e_alloc inf_230 (l := [.int .i64 0, .int .i64 0]) rfl rfl fun b15 => ?_)
    refine t_eff rfl (e_stores iz_230 rfl rfl (vs := [_, _]) rfl rfl (by simp [Value.oneCell']) (.cons .zero (.cons (.succ .zero) .nil)) .here ?_)
    refine t_nil ?_
    refine Tr.keep (env' := [(3, _), (5, _), (6, _), (9, _), (13, _), (14, _), (15, _), (89, _), (90, _), (91, _)]) ⟨rfl, rfl, rfl, rfl, rfl, rfl, rfl, rfl, rfl, rfl, trivial⟩ ?_
    refine t_then ?_
    refine t_seq ?_
    refine t_region ?_
    refine t_val (r_fa fo_228_6 rfl) rfl ?_
    refine t_val (r_load ca_3 rfl (rd_m (.tail _ (.head _)) rfl)) rfl ?_
    refine t_val (r_load ca_3 rfl (rd_m (.tail _ (.tail _ (.tail _ (.tail _ (.tail _ (.tail _ (.tail _ (.tail _ (.tail _ (.tail _ (.tail _ (.tail _ (.head _))))))))))))) rfl)) rfl ?_
    refine t_val (r_le rfl rfl) rfl ?_
    refine t_val (r_move rfl) rfl ?_
    refine t_gval rfl rfl (r_load ca_225 rfl (rd_m (.tail _ (.tail _ (.tail _ (.tail _ (.tail _ (.tail _ (.tail _ (.tail _ (.head _))))))))) rfl)) rfl ?_
    refine t_gval rfl rfl (r_loads ca_230 rfl (rds_m (n := 2) (vs := [_, _]) (.head _) rfl) rfl) rfl ?_
    refine t_gval rfl rfl (run_to (v' := .int .i64 1) (r_lookup1 ((0, 0)) Tryz.underlying225 keyName inf_3 rfl rfl (.tail _ (.tail _ (.tail _ (.tail _ (.tail _ (.tail _ (.tail _ (.tail _ (.tail _ (.head _))))))))))) rfl) rfl ?_
    refine t_gval rfl rfl (r_eq rfl rfl) rfl ?_
    refine t_val (r_pick_t rfl rfl) rfl ?_
    refine t_val (r_move rfl) rfl ?_
    refine t_gval rfl rfl (r_load ca_231 rfl (rd_m (.tail _ (.tail _ (.tail _ (.tail _ (.head _))))) rfl)) rfl ?_
    refine t_gval rfl rfl (r_loads ca_230 rfl (rds_m (n := 2) (vs := [_, _]) (.head _) rfl) rfl) rfl ?_
    refine t_gval rfl rfl (run_to (v' := .bool false) (r_lookup1 ((0, 0)) Tryz.underlying231 keyName inf_4 rfl rfl (.tail _ (.tail _ (.tail _ (.tail _ (.tail _ (.head _))))))) rfl) rfl ?_
    refine t_gval rfl rfl (r_not rfl) rfl ?_
    refine t_val (r_pick_t rfl rfl) rfl ?_
    refine t_nil ?_
    refine Tr.keep (env' := [(3, _), (5, _), (6, _), (9, _), (13, _), (89, _), (90, _), (91, _), (116, _)]) ⟨rfl, rfl, rfl, rfl, rfl, rfl, rfl, rfl, rfl, trivial⟩ ?_
    refine t_then ?_
    refine t_cond_t rfl ?_
    refine t_region ?_
    refine t_val (r_move rfl) rfl ?_
    refine t_val (r_move rfl) rfl ?_
    refine t_val (r_nilCheck rfl) rfl ?_
    refine t_val (r_fa fo_224_2 rfl) rfl ?_
    refine t_val (r_load ca_36 rfl (rd_m (.tail _ (.tail _ (.tail _ (.tail _ (.tail _ (.tail _ (.tail _ (.tail _ (.tail _ (.tail _ (.head _))))))))))) rfl)) rfl ?_
    refine t_val (r_move rfl) rfl ?_
    refine t_eff rfl (e_buildSlice (E := 3) (l := [.int .i64 0]) rfl (fun w => by kernel_rfl) rfl fun b123 => ?_)
    refine t_eff rfl (e_append Tryz.underlying36 inf_3 rfl (by decide) rfl rfl (Own.nil 3 1) (.refl _) rfl (by simp [Value.oneCell']) (by decide) (by decide) rfl fun v1 E1 hO1 => ?_)
    refine t_val (r_nilCheck rfl) rfl ?_
    refine t_val (r_fa fo_224_2 rfl) rfl ?_
    refine t_eff rfl (e_store iz_36 rfl rfl (Own.one (by assumption)) (.succ (.succ .zero)) (.right (.there (.there (.there (.there (.there (.there (.there (.there (.there (.there .here))))))))))) ?_)
    refine t_nil ?_
    refine Tr.keep (env' := [(3, _), (5, _), (6, _), (9, _), (89, _), (90, _), (91, _)]) ⟨rfl, rfl, rfl, rfl, rfl, rfl, rfl, trivial⟩ ?_
    refine t_in ?_
    refine t_then ?_
    refine t_region ?_
    refine t_val (r_addi rfl rfl (by omega)) rfl ?_
    refine t_val (r_move rfl) rfl ?_
    refine t_nil ?_
    refine Tr.keep (env' := [(3, _), (5, _), (6, _), (9, _), (89, _), (90, _), (91, _)]) ⟨rfl, rfl, rfl, rfl, rfl, rfl, rfl, trivial⟩ ?_
    refine t_then ?_
    refine t_unroll ?_
    refine t_seq ?_
    refine t_region ?_
    refine t_val (r_lt rfl rfl) rfl ?_
    refine t_nil ?_
    refine Tr.keep (env' := [(3, _), (5, _), (6, _), (9, _), (89, _), (90, _), (91, _), (92, _)]) ⟨rfl, rfl, rfl, rfl, rfl, rfl, rfl, rfl, trivial⟩ ?_
    refine t_then ?_
    refine t_seq ?_
    refine t_cond_t rfl ?_
    refine t_skip ?_
    refine t_then ?_
    refine t_seq ?_
    refine t_block ?_
    refine t_seq ?_
    refine t_region ?_
    refine t_val (r_move rfl) rfl ?_
    refine t_val (r_ia (j := 1) Tryz.underlying221 iz_228 rfl rfl rfl (by decide)) rfl ?_
    refine t_val (r_loads ca_228 rfl (rds_m (n := 7) (vs := [_, _, _, _, _, _, _]) (List.mem_append_right _ (.tail _ (.tail _ (.tail _ (.tail _ (.tail _ (.tail _ (.tail _ (.tail _ (.tail _ (.tail _ (.tail _ (.head _))))))))))))) rfl) rfl) rfl ?_
    refine t_eff rfl (e_alloc inf_228 (l := [.int .i64 0, .int .i64 0, .int .i64 0, .int .i64 0, .int .i64 0, .int .i64 0, .int .i64 0]) rfl rfl fun b14 => ?_)
    refine t_val (r_assign rfl) rfl ?_
    refine t_eff rfl (e_stores iz_228 rfl rfl (vs := [_, _, _, _, _, _, _]) rfl rfl (by simp [Value.oneCell']) (.cons .zero (.cons (.succ .zero) (.cons (.succ (.succ .zero)) (.cons (.succ (.succ (.succ .zero))) (.cons (.succ (.succ (.succ (.succ .zero)))) (.cons (.succ (.succ (.succ (.succ (.succ .zero))))) (.cons (.succ (.succ (.succ (.succ (.succ (.succ .zero)))))) .nil))))))) .here ?_)
    refine t_nil ?_
    refine Tr.keep (env' := [(3, _), (5, _), (6, _), (9, _), (13, _), (14, _), (89, _), (90, _), (91, _)]) ⟨rfl, rfl, rfl, rfl, rfl, rfl, rfl, rfl, rfl, trivial⟩ ?_
    refine t_then ?_
    refine t_seq ?_
    refine t_region ?_
    refine t_val (r_fa fo_228_0 rfl) rfl ?_
    refine t_val (r_load ca_3 rfl (rd_m (.head _) rfl)) rfl ?_
    refine t_val (r_fa fo_228_1 rfl) rfl ?_
    refine t_val (r_load ca_3 rfl (rd_m (.head _) rfl)) rfl ?_
    refine t_val (r_build rfl (v := encN (0, 1)) (fun w => by kernel_rfl)) rfl ?_
    refine t_eff rfl (e_alloc inf_230 (l := [.int .i64 0, .int .i64 0]) rfl rfl fun b15 => ?_)
    refine t_eff rfl (e_stores iz_230 rfl rfl (vs := [_, _]) rfl rfl (by simp [Value.oneCell']) (.cons .zero (.cons (.succ .zero) .nil)) .here ?_)
    refine t_nil ?_
    refine Tr.keep (env' := [(3, _), (5, _), (6, _), (9, _), (13, _), (14, _), (15, _), (89, _), (90, _), (91, _)]) ⟨rfl, rfl, rfl, rfl, rfl, rfl, rfl, rfl, rfl, rfl, trivial⟩ ?_
    refine t_then ?_
    refine t_seq ?_
    refine t_region ?_
    refine t_val (r_fa fo_228_6 rfl) rfl ?_
    refine t_val (r_load ca_3 rfl (rd_m (.tail _ (.head _)) rfl)) rfl ?_
    refine t_val (r_load ca_3 rfl (rd_m (.tail _ (.tail _ (List.mem_append_right _ (.tail _ (.tail _ (.tail _ (.tail _ (.tail _ (.tail _ (.tail _ (.tail _ (.tail _ (.tail _ (.tail _ (.tail _ (.head _)))))))))))))))) rfl)) rfl ?_
    refine t_val (r_le rfl rfl) rfl ?_
    refine t_val (r_move rfl) rfl ?_
    refine t_gval rfl rfl (r_load ca_225 rfl (rd_m (.tail _ (.tail _ (List.mem_append_right _ (.tail _ (.tail _ (.tail _ (.tail _ (.tail _ (.tail _ (.tail _ (.tail _ (.head _)))))))))))) rfl)) rfl ?_
    refine t_gval rfl rfl (r_loads ca_230 rfl (rds_m (n := 2) (vs := [_, _]) (.head _) rfl) rfl) rfl ?_
    refine t_gval rfl rfl (run_to (v' := .int .i64 1) (r_lookup1 ((0, 1)) Tryz.underlying225 keyName inf_3 rfl rfl (.tail _ (.tail _ (List.mem_append_right _ (.tail _ (.tail _ (.tail _ (.tail _ (.tail _ (.tail _ (.tail _ (.tail _ (.tail _ (.head _)))))))))))))) rfl) rfl ?_
    refine t_gval rfl rfl (r_eq rfl rfl) rfl ?_
    refine t_val (r_pick_t rfl rfl) rfl ?_
    refine t_val (r_move rfl) rfl ?_
    refine t_gval rfl rfl (r_load ca_231 rfl (rd_m (.tail _ (.tail _ (List.mem_append_right _ (.tail _ (.tail _ (.tail _ (.tail _ (.head _)))))))) rfl)) rfl ?_
    refine t_gval rfl rfl (r_loads ca_230 rfl (rds_m (n := 2) (vs := [_, _]) (.head _) rfl) rfl) rfl ?_
    refine t_gval rfl rfl (run_to (v' := .bool false) (r_lookup1 ((0, 1)) Tryz.underlying231 keyName inf_4 rfl rfl (.tail _ (.tail _ (List.mem_append_right _ (.tail _ (.tail _ (.tail _ (.tail _ (.tail _ (.head _)))))))))) rfl) rfl ?_
    refine t_gval rfl rfl (r_not rfl) rfl ?_
    refine t_val (r_pick_t rfl rfl) rfl ?_
    refine t_nil ?_
    refine Tr.keep (env' := [(3, _), (5, _), (6, _), (9, _), (13, _), (89, _), (90, _), (91, _), (116, _)]) ⟨rfl, rfl, rfl, rfl, rfl, rfl, rfl, rfl, rfl, trivial⟩ ?_
    refine t_then ?_
    refine t_cond_t rfl ?_
    refine t_region ?_
    refine t_val (r_move rfl) rfl ?_
    refine t_val (r_move rfl) rfl ?_
    refine t_val (r_nilCheck rfl) rfl ?_
    refine t_val (r_fa fo_224_2 rfl) rfl ?_
    refine t_val (r_load ca_36 rfl (rd_m (.tail _ (.tail _ (List.mem_append_right _ (.tail _ (.tail _ (.tail _ (.tail _ (.tail _ (.tail _ (.tail _ (.tail _ (.tail _ (.tail _ (.head _)))))))))))))) rfl)) rfl ?_
    refine t_val (r_move rfl) rfl ?_
    refine t_eff rfl (e_buildSlice (E := 3) (l := [.int .i64 1]) rfl (fun w => by kernel_rfl) rfl fun b123 => ?_)
    refine t_eff rfl (e_append Tryz.underlying36 inf_3 rfl (by decide) rfl rfl hO1 (pk .here (pkb (.there (.there .here)) (.refl _))) rfl (by simp [Value.oneCell']) (by decide) (by decide) rfl fun v2 E2 hO2 => ?_)
    refine t_val (r_nilCheck rfl) rfl ?_
    refine t_val (r_fa fo_224_2 rfl) rfl ?_
    refine t_eff rfl (e_store iz_36 rfl rfl (Own.one (by assumption)) (.succ (.succ .zero)) (.right (.there (.there (.there (.there (.there (.there (.there (.there (.there (.there (.there (.there .here))))))))))))) ?_)
    refine t_nil ?_
    refine Tr.keep (env' := [(3, _), (5, _), (6, _), (9, _), (89, _), (90, _), (91, _)]) ⟨rfl, rfl, rfl, rfl, rfl, rfl, rfl, trivial⟩ ?_
    refine t_in ?_
    refine t_then ?_
    refine t_region ?_
    refine t_val (r_addi rfl rfl (by omega)) rfl ?_
    refine t_val (r_move rfl) rfl ?_
    refine t_nil ?_
    refine Tr.keep (env' := [(3, _), (5, _), (6, _), (9, _), (89, _), (90, _), (91, _)]) ⟨rfl, rfl, rfl, rfl, rfl, rfl, rfl, trivial⟩ ?_
    refine t_then ?_
    refine t_unroll ?_
    refine t_seq ?_
    refine t_region ?_
    refine t_val (r_lt rfl rfl) rfl ?_
    refine t_nil ?_
    refine Tr.keep (env' := [(3, _), (5, _), (6, _), (9, _), (89, _), (90, _), (91, _), (92, _)]) ⟨rfl, rfl, rfl, rfl, rfl, rfl, rfl, rfl, trivial⟩ ?_
    refine t_then ?_
    refine t_seq ?_
    refine t_cond_f rfl ?_
    refine t_exit ?_
    refine t_then_exit ?_
    refine t_then_exit ?_
    refine t_in_hit ?_
    refine t_then ?_
    refine t_seq ?_
    refine t_region ?_
    refine t_val (r_move rfl) rfl ?_
    refine t_val (r_assign rfl) rfl ?_
    refine t_nil ?_
    refine Tr.keep (env' := [(4, _)]) ⟨rfl, trivial⟩ ?_
    refine t_then ?_
    refine t_retc ?_
    refine t_retM1 rfl rfl (pk (.right (.there (.there (.there (.there .here))))) (.refl _)) (fun w hw => ?_)
    have hO3 : Own 3 1 v2 [[.int .i64 0], [.int .i64 1]] E2 := hO2
    obtain ⟨ib, c2, si, rfl, rfl⟩ := own_ints2 hO3
    simp only [List.singleton_append] at hw
    exact ⟨⟨b20, db, c, ib, c2, sp, si⟩, rfl, trivial, Ok.sub (hw.perm (pk (.there (.there (.there (.there (.there (.there (.there (.there (.there (.there (.there (.there .here)))))))))))) (pk (.there (.there (.there (.there (.there (.there (.there (.there (.there (.there (.there (.there .here)))))))))))) (pk .here (.refl _))))) (.cons_cons _ (.cons_cons _ (.cons_cons _ (.cons _ (.cons _ (.cons _ (.cons _ (.cons _ (.cons _ (.cons _ (.cons _ (.cons _ (.cons _ (.cons _ (.cons _ (.refl _))))))))))))))))⟩
end
end Go.Proofs.W
