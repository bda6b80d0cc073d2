/-
  What functions of the program that RallyChains reaches do, one contract each, part 6.
-/
import Derived.Test.YtkacdmfekjincaaGreatDoorWE
import Derived.Test.YtkacdmfekjincaaGreatDoorSlB
set_option linter.unusedVariables false
set_option linter.unusedSimpArgs false
set_option linter.unusedSectionVars false
set_option maxRecDepth 100000
namespace Go.Proofs.W
open Go Go.Sl Go.RowKit Go.Proofs
theorem ca_41 : cellsAs Tryz.prog 41 = some (none) := by kernel_rfl
theorem ca_43 : cellsAs Tryz.prog 43 = some (some 12) := by kernel_rfl
theorem fo_107_2 : fieldOff Tryz.prog 107 2 = some 2 := by kernel_rfl
theorem fo_107_3 : fieldOff Tryz.prog 107 3 = some 3 := by kernel_rfl
theorem fo_43_0 : fieldOff Tryz.prog 43 0 = some 0 := by kernel_rfl
theorem fo_43_1 : fieldOff Tryz.prog 43 1 = some 1 := by kernel_rfl
theorem fo_43_10 : fieldOff Tryz.prog 43 10 = some 10 := by kernel_rfl
theorem fo_43_11 : fieldOff Tryz.prog 43 11 = some 11 := by kernel_rfl
theorem fo_43_2 : fieldOff Tryz.prog 43 2 = some 2 := by kernel_rfl
theorem fo_43_3 : fieldOff Tryz.prog 43 3 = some 3 := by kernel_rfl
theorem fo_43_4 : fieldOff Tryz.prog 43 4 = some 4 := by kernel_rfl
theorem fo_43_6 : fieldOff Tryz.prog 43 6 = some 6 := by kernel_rfl
theorem fo_43_7 : fieldOff Tryz.prog 43 7 = some 7 := by kernel_rfl
theorem fo_43_8 : fieldOff Tryz.prog 43 8 = some 8 := by kernel_rfl
theorem fo_43_9 : fieldOff Tryz.prog 43 9 = some 9 := by kernel_rfl
theorem fo_45_2 : fieldOff Tryz.prog 45 2 = some 2 := by kernel_rfl
theorem inf_43 : (Tryz.prog.info? 43).map (fun i => (i.zero, i.size, i.bytes)) = some (some (.agg #[.int .i64 0, .int .i64 0, .int .i64 0, .int .i64 0, .slice none 0 0, .bool false, .int .i64 0, .int .i64 0, .int .i64 0, .int .i64 0, .slice none 0 0, .slice none 0 0]), 12, 144) := by kernel_rfl
theorem iz_43 : (Tryz.prog.info? 43).map (·.size) = some 12 := by kernel_rfl
structure Sl3 where
  b : Nat
  c : Nat
  sp : List Value
abbrev Sl3.v (s : Sl3) (n : Nat) : Value := .slice (some ⟨s.b, 0, none⟩) n s.c
structure SAt where
  items : Sl3
  jumps : Sl3
  points : Sl3
  extra : Sl3
  least : Sl3
  srcs : Sl3
  arts : Sl3
abbrev SAt.plan (a : SAt) : List Value := [a.items.v 3, .int .i64 1, .int .i64 10000, .int .i64 60000, .int .i64 15, .int .i64 30, a.jumps.v 2, .bool false, .int .i64 0, .int .i64 1, .int .i64 100, .int .i64 1, a.points.v 2, a.extra.v 1]
abbrev SAt.guard : List Value := [.int .i64 2, .int .i64 60, .int .i64 1, .int .i64 0, .int .i64 600, .int .i64 1]
abbrev SAt.code (a : SAt) : List Value := [.int .i64 1, a.arts.v 1, .int .i64 30, .int .i64 60, .int .i64 0, .int .i64 0]
abbrev SAt.setup (a : SAt) : List Value := [.int .i64 2, .int .i64 60, .int .i64 1, .int .i64 0, .int .i64 600, .int .i64 1, .int .i64 1, .int .i64 2, a.least.v 1, a.srcs.v 1,
  a.items.v 3, .int .i64 1, .int .i64 10000, .int .i64 60000, .int .i64 15, .int .i64 30, a.jumps.v 2, .bool false, .int .i64 0, .int .i64 1, .int .i64 100, .int .i64 1, a.points.v 2, a.extra.v 1,
  .int .i64 1, a.arts.v 1, .int .i64 30, .int .i64 60, .int .i64 0, .int .i64 0]
abbrev SAt.eItems (a : SAt) : Ent := cel a.items.b 107 (.int .i64 1 :: .int .i64 0 :: .int .i64 30 :: .bool false :: .int .i64 2 :: .int .i64 0 :: .int .i64 0 :: .bool false :: .int .i64 1 :: .int .i64 0 :: .int .i64 60 :: .bool false :: a.items.sp)
abbrev SAt.eJumps (a : SAt) : Ent := cel a.jumps.b 3 (.int .i64 10000 :: .int .i64 60000 :: a.jumps.sp)
abbrev SAt.ePoints (a : SAt) : Ent := cel a.points.b 3 (.int .i64 10 :: .int .i64 6 :: a.points.sp)
abbrev SAt.eExtra (a : SAt) : Ent := cel a.extra.b 3 (.int .i64 3 :: a.extra.sp)
abbrev SAt.eLeast (a : SAt) : Ent := cel a.least.b 3 (.int .i64 1000 :: a.least.sp)
abbrev SAt.eSrcs (a : SAt) : Ent := cel a.srcs.b 110 (.int .i64 1 :: .int .i64 0 :: a.srcs.sp)
abbrev SAt.eArts (a : SAt) : Ent := cel a.arts.b 112 (.int .i64 1 :: .int .i64 0 :: .int .i64 0 :: .int .i64 1000 :: a.arts.sp)
structure SAt.In (a : SAt) (M : List Ent) : Prop where
  items : a.eItems ∈ M
  jumps : a.eJumps ∈ M
  points : a.ePoints ∈ M
  extra : a.eExtra ∈ M
  least : a.eLeast ∈ M
  srcs : a.eSrcs ∈ M
  arts : a.eArts ∈ M
theorem SAt.In.sub {a : SAt} {M M' : List Ent} (h : a.In M) (hs : M.Sublist M') : a.In M' :=
  ⟨hs.subset h.items, hs.subset h.jumps, hs.subset h.points, hs.subset h.extra, hs.subset h.least, hs.subset h.srcs, hs.subset h.arts⟩
section
variable {w0 : World} {M : List Ent}
theorem scoreCheck_c {a : SAt} (h : a.In M) : ∀ w, Ok w0 M w → Calls Tryz.prog 119 #[.agg a.plan.toArray] w (fun e w' => e = .returned (.int .i64 0) ∧ Ok w0 M w') := by
  refine enter (vs := [_]) Tryz.func119 rfl Tryz.ntmps119 rfl ?_
  refine t_seq ?_
  refine t_region ?_
  refine t_eff rfl (e_box rfl rfl fun b1 => ?_)
  refine t_val (r_assign rfl) rfl ?_
  refine t_nil ?_
  refine Tr.keep (env' := [(1, _)]) ⟨rfl, trivial⟩ ?_
  refine t_then ?_
  refine t_seq ?_
  refine t_seq ?_
  refine t_region ?_
  refine t_val (r_fa fo_45_0 rfl) rfl ?_
  refine t_val (r_load ca_40 rfl (rd_m (.head _) rfl)) rfl ?_
  refine t_val (r_len_slice Tryz.underlying40 rfl) rfl ?_
  refine t_eff rfl (e_pcall en_190 rfl rfl rfl rfl (score_within_c _ _ _) ?_)
  refine t_val (r_not rfl) rfl ?_
  refine t_val (r_move rfl) rfl ?_
  refine t_gval rfl rfl (r_fa fo_45_1 rfl) rfl ?_
  refine t_gval rfl rfl (r_load ca_3 rfl (rd_m (.head _) rfl)) rfl ?_
  refine t_geff rfl rfl (e_pcall en_190 rfl rfl rfl rfl (score_within_c _ _ _) ?_)
  refine t_gval rfl rfl (r_not rfl) rfl ?_
  refine t_val (r_pick_f rfl rfl) rfl ?_
  refine t_val (r_move rfl) rfl ?_
  refine t_gval rfl rfl (r_fa fo_45_0 rfl) rfl ?_
  refine t_gval rfl rfl (r_load ca_40 rfl (rd_m (.head _) rfl)) rfl ?_
  refine t_gval rfl rfl (r_ia (j := 0) Tryz.underlying40 iz_107 rfl rfl rfl (by decide)) rfl ?_
  refine t_gval rfl rfl (r_fa fo_107_1 rfl) rfl ?_
  refine t_gval rfl rfl (r_load ca_3 rfl (rd_m (.tail _ h.items) rfl)) rfl ?_
  refine t_gval rfl rfl (r_ne rfl rfl) rfl ?_
  refine t_val (r_pick_f rfl rfl) rfl ?_
  refine t_nil ?_
  refine Tr.keep (env' := [(1, _), (24, _)]) ⟨rfl, rfl, trivial⟩ ?_
  refine t_then ?_
  refine t_cond_f rfl ?_
  refine t_skip ?_
  refine t_then ?_
  refine t_seq ?_
  refine t_seq ?_
  refine t_region ?_
  refine t_val (r_fa fo_45_0 rfl) rfl ?_
  refine t_val (r_load ca_40 rfl (rd_m (.head _) rfl)) rfl ?_
  refine t_val (r_len_slice Tryz.underlying40 rfl) rfl ?_
  refine t_val (r_move rfl) rfl ?_
  refine t_nil ?_
  refine Tr.keep (env' := [(1, _), (26, _), (27, _), (28, _)]) ⟨rfl, rfl, rfl, rfl, trivial⟩ ?_
  refine t_then ?_
  refine t_block ?_
  refine t_unroll0 ?_
  refine t_unroll ?_
  refine t_seq ?_
  refine t_region ?_
  refine t_val (r_lt rfl rfl) rfl ?_
  refine t_nil ?_
  refine Tr.keep (env' := [(1, _), (26, _), (27, _), (28, _), (29, _)]) ⟨rfl, rfl, rfl, rfl, rfl, trivial⟩ ?_
  refine t_then ?_
  refine t_seq ?_
  refine t_cond_t rfl ?_
  refine t_skip ?_
  refine t_then ?_
  refine t_seq ?_
  refine t_block ?_
  refine t_seq ?_
  refine t_region ?_
  refine t_val (r_move rfl) rfl ?_
  refine t_val (r_ia (j := 0) Tryz.underlying40 iz_107 rfl rfl rfl (by decide)) rfl ?_
  refine t_val (r_loads ca_107 rfl (rds_m (n := 4) (vs := [_, _, _, _]) (.tail _ h.items) rfl) rfl) rfl ?_
  refine t_eff rfl (e_alloc inf_107 (l := [.int .i64 0, .int .i64 0, .int .i64 0, .bool false]) rfl rfl fun b4 => ?_)
  refine t_val (r_assign rfl) rfl ?_
  refine t_eff rfl (e_stores iz_107 rfl rfl (vs := [_, _, _, _]) rfl rfl (by simp [Value.oneCell']) (.cons .zero (.cons (.succ .zero) (.cons (.succ (.succ .zero)) (.cons (.succ (.succ (.succ .zero))) .nil)))) .here ?_)
  refine t_nil ?_
  refine Tr.keep (env' := [(1, _), (3, _), (4, _), (26, _), (27, _), (28, _)]) ⟨rfl, rfl, rfl, rfl, rfl, rfl, trivial⟩ ?_
  refine t_then ?_
  refine t_seq ?_
  refine t_seq ?_
  refine d_begin mixed rfl ?_
  refine d_val 0 rfl (by kernel_rfl) (by kernel_rfl) (by kernel_rfl) (.then (.then (.inBlock (.then (.then (.inBlock (.then .body))))))) (.refl _) rfl (r_move rfl) ?_
  refine d_val 1 rfl (by kernel_rfl) (by kernel_rfl) (by kernel_rfl) (.then (.then (.inBlock (.then (.then (.inBlock (.then .body))))))) (.refl _) rfl (r_gt rfl rfl) ?_
  refine d_val 2 rfl (by kernel_rfl) (by kernel_rfl) (by kernel_rfl) (.then (.then (.inBlock (.then (.then (.inBlock (.then .body))))))) (.refl _) rfl (r_move rfl) ?_
  refine d_gskip 3 rfl (by kernel_rfl) (by kernel_rfl) (by kernel_rfl) (.then (.then (.inBlock (.then (.then (.inBlock (.then .body))))))) (.refl _) rfl rfl rfl rfl ?_
  refine d_gskip 4 rfl (by kernel_rfl) (by kernel_rfl) (by kernel_rfl) (.then (.then (.inBlock (.then (.then (.inBlock (.then .body))))))) (.refl _) rfl rfl rfl rfl ?_
  refine d_gskip 5 rfl (by kernel_rfl) (by kernel_rfl) (by kernel_rfl) (.then (.then (.inBlock (.then (.then (.inBlock (.then .body))))))) (.refl _) rfl rfl rfl rfl ?_
  refine d_gskip 6 rfl (by kernel_rfl) (by kernel_rfl) (by kernel_rfl) (.then (.then (.inBlock (.then (.then (.inBlock (.then .body))))))) (.refl _) rfl rfl rfl rfl ?_
  refine d_gskip 7 rfl (by kernel_rfl) (by kernel_rfl) (by kernel_rfl) (.then (.then (.inBlock (.then (.then (.inBlock (.then .body))))))) (.refl _) rfl rfl rfl rfl ?_
  refine d_gskip 8 rfl (by kernel_rfl) (by kernel_rfl) (by kernel_rfl) (.then (.then (.inBlock (.then (.then (.inBlock (.then .body))))))) (.refl _) rfl rfl rfl rfl ?_
  refine d_gskip 9 rfl (by kernel_rfl) (by kernel_rfl) (by kernel_rfl) (.then (.then (.inBlock (.then (.then (.inBlock (.then .body))))))) (.refl _) rfl rfl rfl rfl ?_
  refine d_gskip 10 rfl (by kernel_rfl) (by kernel_rfl) (by kernel_rfl) (.then (.then (.inBlock (.then (.then (.inBlock (.then .body))))))) (.refl _) rfl rfl rfl rfl ?_
  refine d_gskip 11 rfl (by kernel_rfl) (by kernel_rfl) (by kernel_rfl) (.then (.then (.inBlock (.then (.then (.inBlock (.then .body))))))) (.refl _) rfl rfl rfl rfl ?_
  refine d_gskip 12 rfl (by kernel_rfl) (by kernel_rfl) (by kernel_rfl) (.then (.then (.inBlock (.then (.then (.inBlock (.then .body))))))) (.refl _) rfl rfl rfl rfl ?_
  refine d_gskip 13 rfl (by kernel_rfl) (by kernel_rfl) (by kernel_rfl) (.then (.then (.inBlock (.then (.then (.inBlock (.then .body))))))) (.refl _) rfl rfl rfl rfl ?_
  refine d_gskip 14 rfl (by kernel_rfl) (by kernel_rfl) (by kernel_rfl) (.then (.then (.inBlock (.then (.then (.inBlock (.then .body))))))) (.refl _) rfl rfl rfl rfl ?_
  refine d_val 15 rfl (by kernel_rfl) (by kernel_rfl) (by kernel_rfl) (.then (.then (.inBlock (.then (.then (.inBlock (.then .body))))))) (.refl _) rfl (r_pick_f rfl rfl) ?_
  refine d_val 16 rfl (by kernel_rfl) (by kernel_rfl) (by kernel_rfl) (.then (.then (.inBlock (.then (.then (.inBlock (.then .body))))))) (.refl _) rfl (r_move rfl) ?_
  refine d_gval 17 rfl (by kernel_rfl) (by kernel_rfl) (by kernel_rfl) (.then (.then (.inBlock (.then (.then (.inBlock (.then .body))))))) (.refl _) rfl rfl rfl (r_fa fo_107_1 rfl) ?_
  refine d_gval 18 rfl (by kernel_rfl) (by kernel_rfl) (by kernel_rfl) (.then (.then (.inBlock (.then (.then (.inBlock (.then .body))))))) (.refl _) rfl rfl rfl (r_load ca_3 rfl (rd_m (.head _) rfl)) ?_
  refine d_gval 19 rfl (by kernel_rfl) (by kernel_rfl) (by kernel_rfl) (.then (.then (.inBlock (.then (.then (.inBlock (.then .body))))))) (.refl _) rfl rfl rfl (r_ge rfl rfl) ?_
  refine d_val 20 rfl (by kernel_rfl) (by kernel_rfl) (by kernel_rfl) (.then (.then (.inBlock (.then (.then (.inBlock (.then .body))))))) (.refl _) rfl (r_pick_f rfl rfl) ?_
  refine d_end (by kernel_rfl) ?_
  refine Tr.keep (env' := [(1, _), (4, _), (26, _), (27, _), (28, _), (53, _)]) ⟨rfl, rfl, rfl, rfl, rfl, rfl, trivial⟩ ?_
  refine t_then ?_
  refine t_cond_f rfl ?_
  refine t_skip ?_
  refine t_then ?_
  refine t_seq ?_
  refine t_region ?_
  refine t_val (r_fa fo_107_0 rfl) rfl ?_
  refine t_val (r_load ca_105 rfl (rd_m (.head _) rfl)) rfl ?_
  refine t_nil ?_
  refine Tr.keep (env' := [(1, _), (4, _), (26, _), (27, _), (28, _), (55, _)]) ⟨rfl, rfl, rfl, rfl, rfl, rfl, trivial⟩ ?_
  refine t_then ?_
  refine t_block ?_
  refine t_seq ?_
  refine t_region ?_
  refine t_val (r_eq rfl rfl) rfl ?_
  refine t_val (r_assign rfl) rfl ?_
  refine t_nil ?_
  refine Tr.keep (env' := [(1, _), (4, _), (26, _), (27, _), (28, _), (55, _), (56, _)]) ⟨rfl, rfl, rfl, rfl, rfl, rfl, rfl, trivial⟩ ?_
  refine t_then ?_
  refine t_cond_t rfl ?_
  refine t_seq ?_
  refine t_region ?_
  refine t_val (r_fa fo_107_2 rfl) rfl ?_
  refine t_val (r_load ca_3 rfl (rd_m (.head _) rfl)) rfl ?_
  refine t_eff rfl (e_pcall en_190 rfl rfl rfl rfl (score_within_c _ _ _) ?_)
  refine t_val (r_not rfl) rfl ?_
  refine t_nil ?_
  refine Tr.keep (env' := [(1, _), (26, _), (27, _), (28, _), (61, _)]) ⟨rfl, rfl, rfl, rfl, rfl, trivial⟩ ?_
  refine t_then ?_
  refine t_cond_f rfl ?_
  refine t_skip ?_
  refine t_in ?_
  refine t_in ?_
  refine t_then ?_
  refine t_region ?_
  refine t_val (r_addi rfl rfl (by omega)) rfl ?_
  refine t_val (r_move rfl) rfl ?_
  refine t_nil ?_
  refine Tr.keep (env' := [(1, _), (26, _), (27, _), (28, _)]) ⟨rfl, rfl, rfl, rfl, trivial⟩ ?_
  refine t_then ?_
  refine t_unroll ?_
  refine t_seq ?_
  refine t_region ?_
  refine t_val (r_lt rfl rfl) rfl ?_
  refine t_nil ?_
  refine Tr.keep (env' := [(1, _), (26, _), (27, _), (28, _), (29, _)]) ⟨rfl, rfl, rfl, rfl, rfl, trivial⟩ ?_
  refine t_then ?_
  refine t_seq ?_
  refine t_cond_t rfl ?_
  refine t_skip ?_
  refine t_then ?_
  refine t_seq ?_
  refine t_block ?_
  refine t_seq ?_
  refine t_region ?_
  refine t_val (r_move rfl) rfl ?_
  refine t_val (r_ia (j := 1) Tryz.underlying40 iz_107 rfl rfl rfl (by decide)) rfl ?_
  refine t_val (r_loads ca_107 rfl (rds_m (n := 4) (vs := [_, _, _, _]) (.tail _ (.tail _ h.items)) rfl) rfl) rfl ?_
  refine t_eff rfl (e_alloc inf_107 (l := [.int .i64 0, .int .i64 0, .int .i64 0, .bool false]) rfl rfl fun b4 => ?_)
  refine t_val (r_assign rfl) rfl ?_
  refine t_eff rfl (e_stores iz_107 rfl rfl (vs := [_, _, _, _]) rfl rfl (by simp [Value.oneCell']) (.cons .zero (.cons (.succ .zero) (.cons (.succ (.succ .zero)) (.cons (.succ (.succ (.succ .zero))) .nil)))) .here ?_)
  refine t_nil ?_
  refine Tr.keep (env' := [(1, _), (3, _), (4, _), (26, _), (27, _), (28, _)]) ⟨rfl, rfl, rfl, rfl, rfl, rfl, trivial⟩ ?_
  refine t_then ?_
  refine t_seq ?_
  refine t_seq ?_
  refine d_begin mixed rfl ?_
  refine d_val 0 rfl (by kernel_rfl) (by kernel_rfl) (by kernel_rfl) (.then (.then (.inBlock (.then (.then (.inBlock (.then .body))))))) (.refl _) rfl (r_move rfl) ?_
  refine d_val 1 rfl (by kernel_rfl) (by kernel_rfl) (by kernel_rfl) (.then (.then (.inBlock (.then (.then (.inBlock (.then .body))))))) (.refl _) rfl (r_gt rfl rfl) ?_
  refine d_val 2 rfl (by kernel_rfl) (by kernel_rfl) (by kernel_rfl) (.then (.then (.inBlock (.then (.then (.inBlock (.then .body))))))) (.refl _) rfl (r_move rfl) ?_
  refine d_gval 3 rfl (by kernel_rfl) (by kernel_rfl) (by kernel_rfl) (.then (.then (.inBlock (.then (.then (.inBlock (.then .body))))))) (.refl _) rfl rfl rfl (r_fa fo_107_1 rfl) ?_
  refine d_gval 4 rfl (by kernel_rfl) (by kernel_rfl) (by kernel_rfl) (.then (.then (.inBlock (.then (.then (.inBlock (.then .body))))))) (.refl _) rfl rfl rfl (r_load ca_3 rfl (rd_m (.head _) rfl)) ?_
  refine d_gval 5 rfl (by kernel_rfl) (by kernel_rfl) (by kernel_rfl) (.then (.then (.inBlock (.then (.then (.inBlock (.then .body))))))) (.refl _) rfl rfl rfl (r_fa fo_45_0 rfl) ?_
  refine d_gval 6 rfl (by kernel_rfl) (by kernel_rfl) (by kernel_rfl) (.then (.then (.inBlock (.then (.then (.inBlock (.then .body))))))) (.refl _) rfl rfl rfl (r_load ca_40 rfl (rd_m (.tail _ (.tail _ (.head _))) rfl)) ?_
  refine d_gval 7 rfl (by kernel_rfl) (by kernel_rfl) (by kernel_rfl) (.then (.then (.inBlock (.then (.then (.inBlock (.then .body))))))) (.refl _) rfl rfl rfl (r_move rfl) ?_
  refine d_gval 8 rfl (by kernel_rfl) (by kernel_rfl) (by kernel_rfl) (.then (.then (.inBlock (.then (.then (.inBlock (.then .body))))))) (.refl _) rfl rfl rfl (r_subi rfl rfl (by omega)) ?_
  refine d_gval 9 rfl (by kernel_rfl) (by kernel_rfl) (by kernel_rfl) (.then (.then (.inBlock (.then (.then (.inBlock (.then .body))))))) (.refl _) rfl rfl rfl (r_ia (j := 0) Tryz.underlying40 iz_107 rfl rfl rfl (by decide)) ?_
  refine d_gval 10 rfl (by kernel_rfl) (by kernel_rfl) (by kernel_rfl) (.then (.then (.inBlock (.then (.then (.inBlock (.then .body))))))) (.refl _) rfl rfl rfl (r_fa fo_107_1 rfl) ?_
  refine d_gval 11 rfl (by kernel_rfl) (by kernel_rfl) (by kernel_rfl) (.then (.then (.inBlock (.then (.then (.inBlock (.then .body))))))) (.refl _) rfl rfl rfl (r_load ca_3 rfl (rd_m (.tail _ (.tail _ (.tail _ h.items))) rfl)) ?_
  refine d_gval 12 rfl (by kernel_rfl) (by kernel_rfl) (by kernel_rfl) (.then (.then (.inBlock (.then (.then (.inBlock (.then .body))))))) (.refl _) rfl rfl rfl (r_subi rfl rfl (by omega)) ?_
  refine d_geff 13 rfl (by kernel_rfl) rfl rfl (e_pcall en_190 rfl rfl rfl rfl (score_within_c _ _ _) ?_)
  refine d_held (.refl _) ?_
  refine d_gval 14 rfl (by kernel_rfl) (by kernel_rfl) (by kernel_rfl) (.then (.then (.inBlock (.then (.then (.inBlock (.then .body))))))) (.refl _) rfl rfl rfl (r_not rfl) ?_
  refine d_val 15 rfl (by kernel_rfl) (by kernel_rfl) (by kernel_rfl) (.then (.then (.inBlock (.then (.then (.inBlock (.then .body))))))) (.refl _) rfl (r_pick_t rfl rfl) ?_
  refine d_val 16 rfl (by kernel_rfl) (by kernel_rfl) (by kernel_rfl) (.then (.then (.inBlock (.then (.then (.inBlock (.then .body))))))) (.refl _) rfl (r_move rfl) ?_
  refine d_gval 17 rfl (by kernel_rfl) (by kernel_rfl) (by kernel_rfl) (.then (.then (.inBlock (.then (.then (.inBlock (.then .body))))))) (.refl _) rfl rfl rfl (r_fa fo_107_1 rfl) ?_
  refine d_gval 18 rfl (by kernel_rfl) (by kernel_rfl) (by kernel_rfl) (.then (.then (.inBlock (.then (.then (.inBlock (.then .body))))))) (.refl _) rfl rfl rfl (r_load ca_3 rfl (rd_m (.head _) rfl)) ?_
  refine d_gval 19 rfl (by kernel_rfl) (by kernel_rfl) (by kernel_rfl) (.then (.then (.inBlock (.then (.then (.inBlock (.then .body))))))) (.refl _) rfl rfl rfl (r_ge rfl rfl) ?_
  refine d_val 20 rfl (by kernel_rfl) (by kernel_rfl) (by kernel_rfl) (.then (.then (.inBlock (.then (.then (.inBlock (.then .body))))))) (.refl _) rfl (r_pick_f rfl rfl) ?_
  refine d_end (by kernel_rfl) ?_
  refine Tr.keep (env' := [(1, _), (4, _), (26, _), (27, _), (28, _), (53, _)]) ⟨rfl, rfl, rfl, rfl, rfl, rfl, trivial⟩ ?_
  refine t_then ?_
  refine t_cond_f rfl ?_
  refine t_skip ?_
  refine t_then ?_
  refine t_seq ?_
  refine t_region ?_
  refine t_val (r_fa fo_107_0 rfl) rfl ?_
  refine t_val (r_load ca_105 rfl (rd_m (.head _) rfl)) rfl ?_
  refine t_nil ?_
  refine Tr.keep (env' := [(1, _), (4, _), (26, _), (27, _), (28, _), (55, _)]) ⟨rfl, rfl, rfl, rfl, rfl, rfl, trivial⟩ ?_
  refine t_then ?_
  refine t_block ?_
  refine t_seq ?_
  refine t_region ?_
  refine t_val (r_eq rfl rfl) rfl ?_
  refine t_val (r_assign rfl) rfl ?_
  refine t_nil ?_
  refine Tr.keep (env' := [(1, _), (4, _), (26, _), (27, _), (28, _), (55, _), (56, _)]) ⟨rfl, rfl, rfl, rfl, rfl, rfl, rfl, trivial⟩ ?_
  refine t_then ?_
  refine t_cond_f rfl ?_
  refine t_seq ?_
  refine t_region ?_
  refine t_val (r_eq rfl rfl) rfl ?_
  refine t_val (r_assign rfl) rfl ?_
  refine t_nil ?_
  refine Tr.keep (env' := [(1, _), (4, _), (26, _), (27, _), (28, _), (62, _)]) ⟨rfl, rfl, rfl, rfl, rfl, rfl, trivial⟩ ?_
  refine t_then ?_
  refine t_cond_t rfl ?_
  refine t_seq ?_
  refine t_region ?_
  refine t_val (r_fa fo_107_2 rfl) rfl ?_
  refine t_val (r_load ca_3 rfl (rd_m (.head _) rfl)) rfl ?_
  refine t_val (r_ne rfl rfl) rfl ?_
  refine t_val (r_move rfl) rfl ?_
  refine t_gval rfl rfl (r_fa fo_107_3 rfl) rfl ?_
  refine t_gval rfl rfl (r_load ca_4 rfl (rd_m (.head _) rfl)) rfl ?_
  refine t_val (r_pick_f rfl rfl) rfl ?_
  refine t_nil ?_
  refine Tr.keep (env' := [(1, _), (26, _), (27, _), (28, _), (70, _)]) ⟨rfl, rfl, rfl, rfl, rfl, trivial⟩ ?_
  refine t_then ?_
  refine t_cond_f rfl ?_
  refine t_skip ?_
  refine t_in ?_
  refine t_in ?_
  refine t_then ?_
  refine t_region ?_
  refine t_val (r_addi rfl rfl (by omega)) rfl ?_
  refine t_val (r_move rfl) rfl ?_
  refine t_nil ?_
  refine Tr.keep (env' := [(1, _), (26, _), (27, _), (28, _)]) ⟨rfl, rfl, rfl, rfl, trivial⟩ ?_
  refine t_then ?_
  refine t_unroll ?_
  refine t_seq ?_
  refine t_region ?_
  refine t_val (r_lt rfl rfl) rfl ?_
  refine t_nil ?_
  refine Tr.keep (env' := [(1, _), (26, _), (27, _), (28, _), (29, _)]) ⟨rfl, rfl, rfl, rfl, rfl, trivial⟩ ?_
  refine t_then ?_
  refine t_seq ?_
  refine t_cond_t rfl ?_
  refine t_skip ?_
  refine t_then ?_
  refine t_seq ?_
  refine t_block ?_
  refine t_seq ?_
  refine t_region ?_
  refine t_val (r_move rfl) rfl ?_
  refine t_val (r_ia (j := 2) Tryz.underlying40 iz_107 rfl rfl rfl (by decide)) rfl ?_
  refine t_val (r_loads ca_107 rfl (rds_m (n := 4) (vs := [_, _, _, _]) (.tail _ (.tail _ (.tail _ h.items))) rfl) rfl) rfl ?_
  refine t_eff rfl (e_alloc inf_107 (l := [.int .i64 0, .int .i64 0, .int .i64 0, .bool false]) rfl rfl fun b4 => ?_)
  refine t_val (r_assign rfl) rfl ?_
  refine t_eff rfl (e_stores iz_107 rfl rfl (vs := [_, _, _, _]) rfl rfl (by simp [Value.oneCell']) (.cons .zero (.cons (.succ .zero) (.cons (.succ (.succ .zero)) (.cons (.succ (.succ (.succ .zero))) .nil)))) .here ?_)
  refine t_nil ?_
  refine Tr.keep (env' := [(1, _), (3, _), (4, _), (26, _), (27, _), (28, _)]) ⟨rfl, rfl, rfl, rfl, rfl, rfl, trivial⟩ ?_
  refine t_then ?_
  refine t_seq ?_
  refine t_seq ?_
  refine d_begin mixed rfl ?_
  refine d_val 0 rfl (by kernel_rfl) (by kernel_rfl) (by kernel_rfl) (.then (.then (.inBlock (.then (.then (.inBlock (.then .body))))))) (.refl _) rfl (r_move rfl) ?_
  refine d_val 1 rfl (by kernel_rfl) (by kernel_rfl) (by kernel_rfl) (.then (.then (.inBlock (.then (.then (.inBlock (.then .body))))))) (.refl _) rfl (r_gt rfl rfl) ?_
  refine d_val 2 rfl (by kernel_rfl) (by kernel_rfl) (by kernel_rfl) (.then (.then (.inBlock (.then (.then (.inBlock (.then .body))))))) (.refl _) rfl (r_move rfl) ?_
  refine d_gval 3 rfl (by kernel_rfl) (by kernel_rfl) (by kernel_rfl) (.then (.then (.inBlock (.then (.then (.inBlock (.then .body))))))) (.refl _) rfl rfl rfl (r_fa fo_107_1 rfl) ?_
  refine d_gval 4 rfl (by kernel_rfl) (by kernel_rfl) (by kernel_rfl) (.then (.then (.inBlock (.then (.then (.inBlock (.then .body))))))) (.refl _) rfl rfl rfl (r_load ca_3 rfl (rd_m (.head _) rfl)) ?_
  refine d_gval 5 rfl (by kernel_rfl) (by kernel_rfl) (by kernel_rfl) (.then (.then (.inBlock (.then (.then (.inBlock (.then .body))))))) (.refl _) rfl rfl rfl (r_fa fo_45_0 rfl) ?_
  refine d_gval 6 rfl (by kernel_rfl) (by kernel_rfl) (by kernel_rfl) (.then (.then (.inBlock (.then (.then (.inBlock (.then .body))))))) (.refl _) rfl rfl rfl (r_load ca_40 rfl (rd_m (.tail _ (.tail _ (.tail _ (.head _)))) rfl)) ?_
  refine d_gval 7 rfl (by kernel_rfl) (by kernel_rfl) (by kernel_rfl) (.then (.then (.inBlock (.then (.then (.inBlock (.then .body))))))) (.refl _) rfl rfl rfl (r_move rfl) ?_
  refine d_gval 8 rfl (by kernel_rfl) (by kernel_rfl) (by kernel_rfl) (.then (.then (.inBlock (.then (.then (.inBlock (.then .body))))))) (.refl _) rfl rfl rfl (r_subi rfl rfl (by omega)) ?_
  refine d_gval 9 rfl (by kernel_rfl) (by kernel_rfl) (by kernel_rfl) (.then (.then (.inBlock (.then (.then (.inBlock (.then .body))))))) (.refl _) rfl rfl rfl (r_ia (j := 1) Tryz.underlying40 iz_107 rfl rfl rfl (by decide)) ?_
  refine d_gval 10 rfl (by kernel_rfl) (by kernel_rfl) (by kernel_rfl) (.then (.then (.inBlock (.then (.then (.inBlock (.then .body))))))) (.refl _) rfl rfl rfl (r_fa fo_107_1 rfl) ?_
  refine d_gval 11 rfl (by kernel_rfl) (by kernel_rfl) (by kernel_rfl) (.then (.then (.inBlock (.then (.then (.inBlock (.then .body))))))) (.refl _) rfl rfl rfl (r_load ca_3 rfl (rd_m (.tail _ (.tail _ (.tail _ (.tail _ h.items)))) rfl)) ?_
  refine d_gval 12 rfl (by kernel_rfl) (by kernel_rfl) (by kernel_rfl) (.then (.then (.inBlock (.then (.then (.inBlock (.then .body))))))) (.refl _) rfl rfl rfl (r_subi rfl rfl (by omega)) ?_
  refine d_geff 13 rfl (by kernel_rfl) rfl rfl (e_pcall en_190 rfl rfl rfl rfl (score_within_c _ _ _) ?_)
  refine d_held (.refl _) ?_
  refine d_gval 14 rfl (by kernel_rfl) (by kernel_rfl) (by kernel_rfl) (.then (.then (.inBlock (.then (.then (.inBlock (.then .body))))))) (.refl _) rfl rfl rfl (r_not rfl) ?_
  refine d_val 15 rfl (by kernel_rfl) (by kernel_rfl) (by kernel_rfl) (.then (.then (.inBlock (.then (.then (.inBlock (.then .body))))))) (.refl _) rfl (r_pick_t rfl rfl) ?_
  refine d_val 16 rfl (by kernel_rfl) (by kernel_rfl) (by kernel_rfl) (.then (.then (.inBlock (.then (.then (.inBlock (.then .body))))))) (.refl _) rfl (r_move rfl) ?_
  refine d_gval 17 rfl (by kernel_rfl) (by kernel_rfl) (by kernel_rfl) (.then (.then (.inBlock (.then (.then (.inBlock (.then .body))))))) (.refl _) rfl rfl rfl (r_fa fo_107_1 rfl) ?_
  refine d_gval 18 rfl (by kernel_rfl) (by kernel_rfl) (by kernel_rfl) (.then (.then (.inBlock (.then (.then (.inBlock (.then .body))))))) (.refl _) rfl rfl rfl (r_load ca_3 rfl (rd_m (.head _) rfl)) ?_
  refine d_gval 19 rfl (by kernel_rfl) (by kernel_rfl) (by kernel_rfl) (.then (.then (.inBlock (.then (.then (.inBlock (.then .body))))))) (.refl _) rfl rfl rfl (r_ge rfl rfl) ?_
  refine d_val 20 rfl (by kernel_rfl) (by kernel_rfl) (by kernel_rfl) (.then (.then (.inBlock (.then (.then (.inBlock (.then .body))))))) (.refl _) rfl (r_pick_f rfl rfl) ?_
  refine d_end (by kernel_rfl) ?_
  refine Tr.keep (env' := [(1, _), (4, _), (26, _), (27, _), (28, _), (53, _)]) ⟨rfl, rfl, rfl, rfl, rfl, rfl, trivial⟩ ?_
  refine t_then ?_
  refine t_cond_f rfl ?_
  refine t_skip ?_
  refine t_then ?_
  refine t_seq ?_
  refine t_region ?_
  refine t_val (r_fa fo_107_0 rfl) rfl ?_
  refine t_val (r_load ca_105 rfl (rd_m (.head _) rfl)) rfl ?_
  refine t_nil ?_
  refine Tr.keep (env' := [(1, _), (4, _), (26, _), (27, _), (28, _), (55, _)]) ⟨rfl, rfl, rfl, rfl, rfl, rfl, trivial⟩ ?_
  refine t_then ?_
  refine t_block ?_
  refine t_seq ?_
  refine t_region ?_
  refine t_val (r_eq rfl rfl) rfl ?_
  refine t_val (r_assign rfl) rfl ?_
  refine t_nil ?_
  refine Tr.keep (env' := [(1, _), (4, _), (26, _), (27, _), (28, _), (55, _), (56, _)]) ⟨rfl, rfl, rfl, rfl, rfl, rfl, rfl, trivial⟩ ?_
  refine t_then ?_
  refine t_cond_t rfl ?_
  refine t_seq ?_
  refine t_region ?_
  refine t_val (r_fa fo_107_2 rfl) rfl ?_
  refine t_val (r_load ca_3 rfl (rd_m (.head _) rfl)) rfl ?_
  refine t_eff rfl (e_pcall en_190 rfl rfl rfl rfl (score_within_c _ _ _) ?_)
  refine t_val (r_not rfl) rfl ?_
  refine t_nil ?_
  refine Tr.keep (env' := [(1, _), (26, _), (27, _), (28, _), (61, _)]) ⟨rfl, rfl, rfl, rfl, rfl, trivial⟩ ?_
  refine t_then ?_
  refine t_cond_f rfl ?_
  refine t_skip ?_
  refine t_in ?_
  refine t_in ?_
  refine t_then ?_
  refine t_region ?_
  refine t_val (r_addi rfl rfl (by omega)) rfl ?_
  refine t_val (r_move rfl) rfl ?_
  refine t_nil ?_
  refine Tr.keep (env' := [(1, _), (26, _), (27, _), (28, _)]) ⟨rfl, rfl, rfl, rfl, trivial⟩ ?_
  refine t_then ?_
  refine t_unroll ?_
  refine t_seq ?_
  refine t_region ?_
  refine t_val (r_lt rfl rfl) rfl ?_
  refine t_nil ?_
  refine Tr.keep (env' := [(1, _), (26, _), (27, _), (28, _), (29, _)]) ⟨rfl, rfl, rfl, rfl, rfl, trivial⟩ ?_
  refine t_then ?_
  refine t_seq ?_
  refine t_cond_f rfl ?_
  refine t_exit ?_
  refine t_then_exit ?_
  refine t_then_exit ?_
  refine t_in_hit ?_
  refine t_then ?_
  refine t_seq ?_
  refine t_region ?_
  refine t_val (r_fa fo_45_2 rfl) rfl ?_
  refine t_val (r_loads ca_43 rfl (rds_m (n := 12) (vs := [_, _, _, _, _, _, _, _, _, _, _, _]) (.tail _ (.tail _ (.tail _ (.head _)))) rfl) rfl) rfl ?_
  refine t_eff rfl (e_alloc inf_43 (l := [.int .i64 0, .int .i64 0, .int .i64 0, .int .i64 0, .slice none 0 0, .bool false, .int .i64 0, .int .i64 0, .int .i64 0, .int .i64 0, .slice none 0 0, .slice none 0 0]) rfl rfl fun b5 => ?_)
  refine t_eff rfl (e_stores iz_43 rfl rfl (vs := [_, _, _, _, _, _, _, _, _, _, _, _]) rfl rfl (by simp [Value.oneCell']) (.cons .zero (.cons (.succ .zero) (.cons (.succ (.succ .zero)) (.cons (.succ (.succ (.succ .zero))) (.cons (.succ (.succ (.succ (.succ .zero)))) (.cons (.succ (.succ (.succ (.succ (.succ .zero))))) (.cons (.succ (.succ (.succ (.succ (.succ (.succ .zero)))))) (.cons (.succ (.succ (.succ (.succ (.succ (.succ (.succ .zero))))))) (.cons (.succ (.succ (.succ (.succ (.succ (.succ (.succ (.succ .zero)))))))) (.cons (.succ (.succ (.succ (.succ (.succ (.succ (.succ (.succ (.succ .zero))))))))) (.cons (.succ (.succ (.succ (.succ (.succ (.succ (.succ (.succ (.succ (.succ .zero)))))))))) (.cons (.succ (.succ (.succ (.succ (.succ (.succ (.succ (.succ (.succ (.succ (.succ .zero))))))))))) .nil)))))))))))) .here ?_)
  refine t_nil ?_
  refine Tr.keep (env' := [(1, _), (5, _)]) ⟨rfl, rfl, trivial⟩ ?_
  refine t_then ?_
  refine t_seq ?_
  refine t_seq ?_
  refine t_region ?_
  refine t_val (r_fa fo_43_0 rfl) rfl ?_
  refine t_val (r_load ca_3 rfl (rd_m (.head _) rfl)) rfl ?_
  refine t_val (r_fa fo_43_1 rfl) rfl ?_
  refine t_val (r_load ca_3 rfl (rd_m (.head _) rfl)) rfl ?_
  refine t_val (r_fa fo_43_6 rfl) rfl ?_
  refine t_val (r_load ca_3 rfl (rd_m (.head _) rfl)) rfl ?_
  refine t_eff rfl (e_buildSlice (E := 3) (l := flat ([10000, 60000, 0].map encI)) rfl (fun w => by kernel_rfl) rfl fun b80 => ?_)
  refine t_eff rfl (e_pcall en_191 rfl rfl rfl rfl (times_c (xs := [10000, 60000, 0]) (SlRd.of_list encI encI_len (xs := [10000, 60000, 0]) (.head _) rfl (by decide)) _ _ _) ?_)
  refine t_val (r_not rfl) rfl ?_
  refine t_val (r_move rfl) rfl ?_
  refine t_gval rfl rfl (r_fa fo_43_2 rfl) rfl ?_
  refine t_gval rfl rfl (r_load ca_3 rfl (rd_m (.tail _ (.head _)) rfl)) rfl ?_
  refine t_gval rfl rfl (r_fa fo_43_3 rfl) rfl ?_
  refine t_gval rfl rfl (r_load ca_3 rfl (rd_m (.tail _ (.head _)) rfl)) rfl ?_
  refine t_geff rfl rfl (e_buildSlice (E := 3) (l := flat ([15, 30].map encI)) rfl (fun w => by kernel_rfl) rfl fun b88 => ?_)
  refine t_geff rfl rfl (e_pcall en_191 rfl rfl rfl rfl (times_c (xs := [15, 30]) (SlRd.of_list encI encI_len (xs := [15, 30]) (.head _) rfl (by decide)) _ _ _) ?_)
  refine t_gval rfl rfl (r_not rfl) rfl ?_
  refine t_val (r_pick_f rfl rfl) rfl ?_
  refine t_val (r_move rfl) rfl ?_
  refine t_gval rfl rfl (r_fa fo_43_4 rfl) rfl ?_
  refine t_gval rfl rfl (r_load ca_36 rfl (rd_m (.tail _ (.tail _ (.head _))) rfl)) rfl ?_
  refine t_geff rfl rfl (e_pcall en_191 rfl rfl rfl rfl (times_c (xs := [10000, 60000]) (SlRd.of_cel (T := 3) (xs := [10000, 60000].map encI) (sp := a.jumps.sp) (.tail _ (.tail _ (.tail _ (.tail _ (.tail _ (.tail _ (.tail _ h.jumps))))))) rfl (by simp [encI]) (by decide)) _ _ _) ?_)
  refine t_gval rfl rfl (r_not rfl) rfl ?_
  refine t_val (r_pick_f rfl rfl) rfl ?_
  refine t_nil ?_
  refine Tr.keep (env' := [(1, _), (5, _), (97, _)]) ⟨rfl, rfl, rfl, trivial⟩ ?_
  refine t_then ?_
  refine t_cond_f rfl ?_
  refine t_skip ?_
  refine t_then ?_
  refine t_seq ?_
  refine t_seq ?_
  refine t_region ?_
  refine t_val (r_fa fo_43_7 rfl) rfl ?_
  refine t_val (r_load ca_41 rfl (rd_m (.tail _ (.tail _ (.head _))) rfl)) rfl ?_
  refine t_val (r_lt rfl rfl) rfl ?_
  refine t_val (r_move rfl) rfl ?_
  refine t_gval rfl rfl (r_fa fo_43_7 rfl) rfl ?_
  refine t_gval rfl rfl (r_load ca_41 rfl (rd_m (.tail _ (.tail _ (.head _))) rfl)) rfl ?_
  refine t_gval rfl rfl (r_gt rfl rfl) rfl ?_
  refine t_val (r_pick_f rfl rfl) rfl ?_
  refine t_val (r_move rfl) rfl ?_
  refine t_gval rfl rfl (r_fa fo_43_8 rfl) rfl ?_
  refine t_gval rfl rfl (r_load ca_3 rfl (rd_m (.tail _ (.tail _ (.head _))) rfl)) rfl ?_
  refine t_geff rfl rfl (e_pcall en_190 rfl rfl rfl rfl (score_within_c _ _ _) ?_)
  refine t_gval rfl rfl (r_not rfl) rfl ?_
  refine t_val (r_pick_f rfl rfl) rfl ?_
  refine t_val (r_move rfl) rfl ?_
  refine t_gval rfl rfl (r_fa fo_43_10 rfl) rfl ?_
  refine t_gval rfl rfl (r_load ca_36 rfl (rd_m (.tail _ (.tail _ (.head _))) rfl)) rfl ?_
  refine t_geff rfl rfl (e_pcall en_191 rfl rfl rfl rfl (times_c (xs := [10, 6]) (SlRd.of_cel (T := 3) (xs := [10, 6].map encI) (sp := a.points.sp) (.tail _ (.tail _ (.tail _ (.tail _ (.tail _ (.tail _ (.tail _ h.points))))))) rfl (by simp [encI]) (by decide)) _ _ _) ?_)
  refine t_gval rfl rfl (r_not rfl) rfl ?_
  refine t_val (r_pick_f rfl rfl) rfl ?_
  refine t_val (r_move rfl) rfl ?_
  refine t_gval rfl rfl (r_fa fo_43_11 rfl) rfl ?_
  refine t_gval rfl rfl (r_load ca_36 rfl (rd_m (.tail _ (.tail _ (.head _))) rfl)) rfl ?_
  refine t_geff rfl rfl (e_pcall en_191 rfl rfl rfl rfl (times_c (xs := [3]) (SlRd.of_cel (T := 3) (xs := [3].map encI) (sp := a.extra.sp) (.tail _ (.tail _ (.tail _ (.tail _ (.tail _ (.tail _ (.tail _ h.extra))))))) rfl (by simp [encI]) (by decide)) _ _ _) ?_)
  refine t_gval rfl rfl (r_not rfl) rfl ?_
  refine t_val (r_pick_f rfl rfl) rfl ?_
  refine t_nil ?_
  refine Tr.keep (env' := [(1, _), (5, _), (123, _)]) ⟨rfl, rfl, rfl, trivial⟩ ?_
  refine t_then ?_
  refine t_cond_f rfl ?_
  refine t_skip ?_
  refine t_then ?_
  refine t_seq ?_
  refine t_seq ?_
  refine t_region ?_
  refine t_val (r_fa fo_43_9 rfl) rfl ?_
  refine t_val (r_load ca_3 rfl (rd_m (.tail _ (.tail _ (.head _))) rfl)) rfl ?_
  refine t_val (r_fa fo_45_0 rfl) rfl ?_
  refine t_val (r_load ca_40 rfl (rd_m (.tail _ (.tail _ (.tail _ (.tail _ (.tail _ (.tail _ (.head _))))))) rfl)) rfl ?_
  refine t_val (r_len_slice Tryz.underlying40 rfl) rfl ?_
  refine t_val (r_subi rfl rfl (by omega)) rfl ?_
  refine t_eff rfl (e_pcall en_190 rfl rfl rfl rfl (score_within_c _ _ _) ?_)
  refine t_val (r_not rfl) rfl ?_
  refine t_val (r_move rfl) rfl ?_
  refine t_gval rfl rfl (r_fa fo_43_9 rfl) rfl ?_
  refine t_gval rfl rfl (r_load ca_3 rfl (rd_m (.tail _ (.tail _ (.head _))) rfl)) rfl ?_
  refine t_gval rfl rfl (r_ge rfl rfl) rfl ?_
  refine t_gval rfl rfl (r_move rfl) rfl ?_
  refine t_gval rfl rfl (r_fa fo_45_0 rfl) rfl ?_
  refine t_gval rfl rfl (r_load ca_40 rfl (rd_m (.tail _ (.tail _ (.tail _ (.tail _ (.tail _ (.tail _ (.head _))))))) rfl)) rfl ?_
  refine t_gval rfl rfl (r_fa fo_43_9 rfl) rfl ?_
  refine t_gval rfl rfl (r_load ca_3 rfl (rd_m (.tail _ (.tail _ (.head _))) rfl)) rfl ?_
  refine t_gval rfl rfl (r_ia (j := 1) Tryz.underlying40 iz_107 rfl rfl rfl (by decide)) rfl ?_
  refine t_gval rfl rfl (r_fa fo_107_0 rfl) rfl ?_
  refine t_gval rfl rfl (r_load ca_105 rfl (rd_m (.tail _ (.tail _ (.tail _ (.tail _ (.tail _ (.tail _ (.tail _ h.items))))))) rfl)) rfl ?_
  refine t_gval rfl rfl (r_ne rfl rfl) rfl ?_
  refine t_gval rfl rfl (r_pick_t rfl rfl) rfl ?_
  refine t_val (r_pick_f rfl rfl) rfl ?_
  refine t_nil ?_
  refine Tr.keep (env' := [(146, _)]) ⟨rfl, trivial⟩ ?_
  refine t_then ?_
  refine t_cond_f rfl ?_
  refine t_skip ?_
  refine t_then ?_
  refine t_seq ?_
  refine t_region ?_
  refine t_val (r_assign rfl) rfl ?_
  refine t_nil ?_
  refine Tr.keep (env' := [(2, _)]) ⟨rfl, trivial⟩ ?_
  refine t_then ?_
  refine t_retc ?_
  refine t_ret1 rfl rfl (fun w hw => ?_)
  exact ⟨rfl, Ok.sub hw (.cons _ (.cons _ (.cons _ (.cons _ (.cons _ (.cons _ (.cons _ (.refl _))))))))⟩
end
end Go.Proofs.W
set_option linter.unusedVariables false
set_option linter.unusedSimpArgs false
set_option linter.unusedSectionVars false
set_option maxRecDepth 100000
namespace Go.Proofs.W
open Go Go.Sl Go.RowKit Go.Proofs
theorem ca_112 : cellsAs Tryz.prog 112 = some (some 4) := by kernel_rfl
theorem ca_46 : cellsAs Tryz.prog 46 = some (none) := by kernel_rfl
theorem ca_48 : cellsAs Tryz.prog 48 = some (some 6) := by kernel_rfl
theorem en_140 : Enters Tryz.prog 140 := enters_of Tryz.func140 (by kernel_rfl) (by kernel_rfl)
theorem en_165 : Enters Tryz.prog 165 := enters_of Tryz.func165 (by kernel_rfl) (by kernel_rfl)
theorem en_166 : Enters Tryz.prog 166 := enters_of Tryz.func166 (by kernel_rfl) (by kernel_rfl)
theorem en_167 : Enters Tryz.prog 167 := enters_of Tryz.func167 (by kernel_rfl) (by kernel_rfl)
theorem en_89 : Enters Tryz.prog 89 := enters_of Tryz.func89 (by kernel_rfl) (by kernel_rfl)
theorem en_90 : Enters Tryz.prog 90 := enters_of Tryz.func90 (by kernel_rfl) (by kernel_rfl)
theorem fo_112_0 : fieldOff Tryz.prog 112 0 = some 0 := by kernel_rfl
theorem fo_112_1 : fieldOff Tryz.prog 112 1 = some 1 := by kernel_rfl
theorem fo_112_2 : fieldOff Tryz.prog 112 2 = some 2 := by kernel_rfl
theorem fo_112_3 : fieldOff Tryz.prog 112 3 = some 3 := by kernel_rfl
theorem fo_48_0 : fieldOff Tryz.prog 48 0 = some 0 := by kernel_rfl
theorem fo_48_1 : fieldOff Tryz.prog 48 1 = some 1 := by kernel_rfl
theorem fo_48_2 : fieldOff Tryz.prog 48 2 = some 2 := by kernel_rfl
theorem fo_48_3 : fieldOff Tryz.prog 48 3 = some 3 := by kernel_rfl
theorem fo_48_4 : fieldOff Tryz.prog 48 4 = some 4 := by kernel_rfl
theorem fo_48_5 : fieldOff Tryz.prog 48 5 = some 5 := by kernel_rfl
theorem fo_50_0 : fieldOff Tryz.prog 50 0 = some 0 := by kernel_rfl
theorem fo_50_1 : fieldOff Tryz.prog 50 1 = some 6 := by kernel_rfl
theorem fo_50_2 : fieldOff Tryz.prog 50 2 = some 9 := by kernel_rfl
theorem fo_50_3 : fieldOff Tryz.prog 50 3 = some 10 := by kernel_rfl
theorem fo_50_4 : fieldOff Tryz.prog 50 4 = some 24 := by kernel_rfl
theorem iz_112 : (Tryz.prog.info? 112).map (·.size) = some 4 := by kernel_rfl
def decItem : List Value → SItem
  | [.int _ a, .int _ b, .int _ c, .bool d] => ⟨a, b, c, d⟩
  | _ => ⟨0, 0, 0, false⟩
@[simp] theorem decItem_cells (s : SItem) : decItem s.cells = s := rfl
abbrev exItems : List SItem := [⟨1, 0, 30, false⟩, ⟨2, 0, 0, false⟩, ⟨1, 0, 60, false⟩]
abbrev exGuard : GPlan := ⟨2, 60, 1, 0, 600, 1⟩
abbrev exSrcs : List Src := [⟨1, 0⟩]
abbrev exLog : WLog := ⟨1, 2, [1000], exSrcs, []⟩
section
variable {w0 : World} {M : List Ent}
theorem SAt.In.rItems {a : SAt} (h : a.In M) : SlRd w0 M 4 (some ⟨a.items.b, 0, none⟩) 3 (exItems.map SItem.cells) :=
  SlRd.of_cel (T := 107) (sp := a.items.sp) h.items rfl (by simp [cells_item]) (by decide)
theorem SAt.In.rLeast {a : SAt} (h : a.In M) : SlRd w0 M 1 (some ⟨a.least.b, 0, none⟩) 1 (([1000] : List Int).map encI) :=
  SlRd.of_cel (T := 3) (sp := a.least.sp) h.least rfl (by simp [encI]) (by decide)
theorem SAt.In.rSrcs {a : SAt} (h : a.In M) : SlRd w0 M 2 (some ⟨a.srcs.b, 0, none⟩) 1 (exSrcs.map Src.cells) :=
  SlRd.of_cel (T := 110) (sp := a.srcs.sp) h.srcs rfl (by simp [cells_src]) (by decide)
theorem appealCheck_c {a : SAt} (h : a.In M) : ∀ w, Ok w0 M w → Calls Tryz.prog 165 #[.agg a.code.toArray] w (fun e w' => e = .returned (.int .i64 0) ∧ Ok w0 M w') := by
  refine enter (vs := [_]) Tryz.func165 rfl Tryz.ntmps165 rfl ?_
  refine t_seq ?_
  refine t_region ?_
  refine t_eff rfl (e_box rfl rfl fun b1 => ?_)
  refine t_val (r_assign rfl) rfl ?_
  refine t_nil ?_
  refine Tr.keep (env' := [(1, _)]) ⟨rfl, trivial⟩ ?_
  refine t_then ?_
  refine t_seq ?_
  refine t_seq ?_
  refine t_region ?_
  refine t_val (r_fa fo_48_0 rfl) rfl ?_
  refine t_val (r_load ca_3 rfl (rd_m (.head _) rfl)) rfl ?_
  refine t_eff rfl (e_pcall en_140 rfl rfl rfl rfl (appeal_within_c _ _ _) ?_)
  refine t_val (r_not rfl) rfl ?_
  refine t_val (r_move rfl) rfl ?_
  refine t_gval rfl rfl (r_fa fo_48_1 rfl) rfl ?_
  refine t_gval rfl rfl (r_load ca_46 rfl (rd_m (.head _) rfl)) rfl ?_
  refine t_gval rfl rfl (r_len_slice Tryz.underlying46 rfl) rfl ?_
  refine t_geff rfl rfl (e_pcall en_140 rfl rfl rfl rfl (appeal_within_c _ _ _) ?_)
  refine t_gval rfl rfl (r_not rfl) rfl ?_
  refine t_val (r_pick_f rfl rfl) rfl ?_
  refine t_val (r_move rfl) rfl ?_
  refine t_gval rfl rfl (r_fa fo_48_2 rfl) rfl ?_
  refine t_gval rfl rfl (r_load ca_3 rfl (rd_m (.head _) rfl)) rfl ?_
  refine t_geff rfl rfl (e_pcall en_140 rfl rfl rfl rfl (appeal_within_c _ _ _) ?_)
  refine t_gval rfl rfl (r_not rfl) rfl ?_
  refine t_val (r_pick_f rfl rfl) rfl ?_
  refine t_val (r_move rfl) rfl ?_
  refine t_gval rfl rfl (r_fa fo_48_3 rfl) rfl ?_
  refine t_gval rfl rfl (r_load ca_3 rfl (rd_m (.head _) rfl)) rfl ?_
  refine t_geff rfl rfl (e_pcall en_140 rfl rfl rfl rfl (appeal_within_c _ _ _) ?_)
  refine t_gval rfl rfl (r_not rfl) rfl ?_
  refine t_val (r_pick_f rfl rfl) rfl ?_
  refine t_val (r_move rfl) rfl ?_
  refine t_gval rfl rfl (r_fa fo_48_4 rfl) rfl ?_
  refine t_gval rfl rfl (r_load ca_3 rfl (rd_m (.head _) rfl)) rfl ?_
  refine t_geff rfl rfl (e_pcall en_140 rfl rfl rfl rfl (appeal_within_c _ _ _) ?_)
  refine t_gval rfl rfl (r_not rfl) rfl ?_
  refine t_val (r_pick_f rfl rfl) rfl ?_
  refine t_val (r_move rfl) rfl ?_
  refine t_gval rfl rfl (r_fa fo_48_5 rfl) rfl ?_
  refine t_gval rfl rfl (r_load ca_3 rfl (rd_m (.head _) rfl)) rfl ?_
  refine t_geff rfl rfl (e_pcall en_140 rfl rfl rfl rfl (appeal_within_c _ _ _) ?_)
  refine t_gval rfl rfl (r_not rfl) rfl ?_
  refine t_val (r_pick_f rfl rfl) rfl ?_
  refine t_nil ?_
  refine Tr.keep (env' := [(1, _), (40, _)]) ⟨rfl, rfl, trivial⟩ ?_
  refine t_then ?_
  refine t_cond_f rfl ?_
  refine t_skip ?_
  refine t_then ?_
  refine t_seq ?_
  refine t_seq ?_
  refine t_region ?_
  refine t_val (r_fa fo_48_1 rfl) rfl ?_
  refine t_val (r_load ca_46 rfl (rd_m (.head _) rfl)) rfl ?_
  refine t_val (r_len_slice Tryz.underlying46 rfl) rfl ?_
  refine t_val (r_move rfl) rfl ?_
  refine t_nil ?_
  refine Tr.keep (env' := [(1, _), (42, _), (43, _), (44, _)]) ⟨rfl, rfl, rfl, rfl, trivial⟩ ?_
  refine t_then ?_
  refine t_block ?_
  refine t_unroll0 ?_
  refine t_unroll ?_
  refine t_seq ?_
  refine t_region ?_
  refine t_val (r_lt rfl rfl) rfl ?_
  refine t_nil ?_
  refine Tr.keep (env' := [(1, _), (42, _), (43, _), (44, _), (45, _)]) ⟨rfl, rfl, rfl, rfl, rfl, trivial⟩ ?_
  refine t_then ?_
  refine t_seq ?_
  refine t_cond_t rfl ?_
  refine t_skip ?_
  refine t_then ?_
  refine t_seq ?_
  refine t_block ?_
  refine t_seq ?_
  refine t_region ?_
  refine t_val (r_move rfl) rfl ?_
  refine t_val (r_ia (j := 0) Tryz.underlying46 iz_112 rfl rfl rfl (by decide)) rfl ?_
  refine t_val (r_loads ca_112 rfl (rds_m (n := 4) (vs := [_, _, _, _]) (.tail _ h.arts) rfl) rfl) rfl ?_
  refine t_eff rfl (e_alloc inf_112 (l := [.int .i64 0, .int .i64 0, .int .i64 0, .int .i64 0]) rfl rfl fun b4 => ?_)
  refine t_val (r_assign rfl) rfl ?_
  refine t_eff rfl (e_stores iz_112 rfl rfl (vs := [_, _, _, _]) rfl rfl (by simp [Value.oneCell']) (.cons .zero (.cons (.succ .zero) (.cons (.succ (.succ .zero)) (.cons (.succ (.succ (.succ .zero))) .nil)))) .here ?_)
  refine t_nil ?_
  refine Tr.keep (env' := [(1, _), (3, _), (4, _), (42, _), (43, _), (44, _)]) ⟨rfl, rfl, rfl, rfl, rfl, rfl, trivial⟩ ?_
  refine t_then ?_
  refine t_seq ?_
  refine t_seq ?_
  refine t_region ?_
  refine t_val (r_fa fo_112_0 rfl) rfl ?_
  refine t_val (r_load ca_3 rfl (rd_m (.head _) rfl)) rfl ?_
  refine t_eff rfl (e_pcall en_140 rfl rfl rfl rfl (appeal_within_c _ _ _) ?_)
  refine t_val (r_not rfl) rfl ?_
  refine t_val (r_move rfl) rfl ?_
  refine t_gval rfl rfl (r_fa fo_112_1 rfl) rfl ?_
  refine t_gval rfl rfl (r_load ca_3 rfl (rd_m (.head _) rfl)) rfl ?_
  refine t_geff rfl rfl (e_pcall en_140 rfl rfl rfl rfl (appeal_within_c _ _ _) ?_)
  refine t_gval rfl rfl (r_not rfl) rfl ?_
  refine t_val (r_pick_f rfl rfl) rfl ?_
  refine t_val (r_move rfl) rfl ?_
  refine t_gval rfl rfl (r_fa fo_112_2 rfl) rfl ?_
  refine t_gval rfl rfl (r_load ca_3 rfl (rd_m (.head _) rfl)) rfl ?_
  refine t_gval rfl rfl (r_fa fo_112_3 rfl) rfl ?_
  refine t_gval rfl rfl (r_load ca_3 rfl (rd_m (.head _) rfl)) rfl ?_
  refine t_geff rfl rfl (e_pcall en_140 rfl rfl rfl rfl (appeal_within_c _ _ _) ?_)
  refine t_gval rfl rfl (r_not rfl) rfl ?_
  refine t_val (r_pick_f rfl rfl) rfl ?_
  refine t_val (r_move rfl) rfl ?_
  refine t_gval rfl rfl (r_fa fo_112_3 rfl) rfl ?_
  refine t_gval rfl rfl (r_load ca_3 rfl (rd_m (.head _) rfl)) rfl ?_
  refine t_gval rfl rfl (r_gt rfl rfl) rfl ?_
  refine t_val (r_pick_f rfl rfl) rfl ?_
  refine t_nil ?_
  refine Tr.keep (env' := [(1, _), (3, _), (4, _), (42, _), (43, _), (44, _), (71, _)]) ⟨rfl, rfl, rfl, rfl, rfl, rfl, rfl, trivial⟩ ?_
  refine t_then ?_
  refine t_cond_f rfl ?_
  refine t_skip ?_
  refine t_then ?_
  refine t_seq ?_
  refine t_region ?_
  refine t_val (r_move rfl) rfl ?_
  refine t_val (r_gt rfl rfl) rfl ?_
  refine t_nil ?_
  refine Tr.keep (env' := [(1, _), (3, _), (4, _), (42, _), (43, _), (44, _), (73, _)]) ⟨rfl, rfl, rfl, rfl, rfl, rfl, rfl, trivial⟩ ?_
  refine t_then ?_
  refine t_cond_f rfl ?_
  refine t_skip ?_
  refine t_in ?_
  refine t_then ?_
  refine t_region ?_
  refine t_val (r_addi rfl rfl (by omega)) rfl ?_
  refine t_val (r_move rfl) rfl ?_
  refine t_nil ?_
  refine Tr.keep (env' := [(1, _), (42, _), (43, _), (44, _)]) ⟨rfl, rfl, rfl, rfl, trivial⟩ ?_
  refine t_then ?_
  refine t_unroll ?_
  refine t_seq ?_
  refine t_region ?_
  refine t_val (r_lt rfl rfl) rfl ?_
  refine t_nil ?_
  refine Tr.keep (env' := [(1, _), (42, _), (43, _), (44, _), (45, _)]) ⟨rfl, rfl, rfl, rfl, rfl, trivial⟩ ?_
  refine t_then ?_
  refine t_seq ?_
  refine t_cond_f rfl ?_
  refine t_exit ?_
  refine t_then_exit ?_
  refine t_then_exit ?_
  refine t_in_hit ?_
  refine t_then ?_
  refine t_seq ?_
  refine t_region ?_
  refine t_val (r_assign rfl) rfl ?_
  refine t_nil ?_
  refine Tr.keep (env' := [(2, _)]) ⟨rfl, trivial⟩ ?_
  refine t_then ?_
  refine t_retc ?_
  refine t_ret1 rfl rfl (fun w hw => ?_)
  exact ⟨rfl, Ok.sub hw (.cons _ (.cons _ (.refl _)))⟩
theorem check1_c (x : SItem) : ∀ w, Ok w0 M w → Calls Tryz.prog 166 #[.agg x.cells.toArray] w (fun e w' => e = .returned (.bool (x.kind == 2)) ∧ Ok w0 M w') := by
  refine enter (vs := [_]) Tryz.func166 rfl Tryz.ntmps166 rfl ?_
  refine t_seq ?_
  refine t_region ?_
  refine t_eff rfl (e_box rfl rfl fun b1 => ?_)
  refine t_val (r_assign rfl) rfl ?_
  refine t_nil ?_
  refine Tr.keep (env' := [(1, _)]) ⟨rfl, trivial⟩ ?_
  refine t_then ?_
  refine t_seq ?_
  refine t_region ?_
  refine t_val (r_fa fo_107_0 rfl) rfl ?_
  refine t_val (r_load ca_105 rfl (rd_m (.head _) rfl)) rfl ?_
  refine t_val (r_eq rfl rfl) rfl ?_
  refine t_val (r_assign rfl) rfl ?_
  refine t_nil ?_
  refine Tr.keep (env' := [(2, _)]) ⟨rfl, trivial⟩ ?_
  refine t_then ?_
  refine t_retc ?_
  refine t_ret1 rfl rfl (fun w hw => ?_)
  exact ⟨rfl, Ok.sub hw (List.sublist_cons_self _ _)⟩
theorem rallyCheck_c {a : SAt} (h : a.In M) : ∀ w, Ok w0 M w → Calls Tryz.prog 87 #[.agg a.setup.toArray] w (fun e w' => e = .returned (.int .i64 0) ∧ Ok w0 M w') := by
  refine enter (vs := [_]) Tryz.func87 rfl Tryz.ntmps87 rfl ?_
  refine t_seq ?_
  refine t_region ?_
  refine t_eff rfl (e_box rfl rfl fun b1 => ?_)
  refine t_val (r_assign rfl) rfl ?_
  refine t_nil ?_
  refine Tr.keep (env' := [(1, _)]) ⟨rfl, trivial⟩ ?_
  refine t_then ?_
  refine t_seq ?_
  refine t_seq ?_
  refine t_region ?_
  refine t_val (r_fa fo_50_0 rfl) rfl ?_
  refine t_val (r_loads ca_35 rfl (rds_m (n := 6) (vs := [_, _, _, _, _, _]) (.head _) rfl) rfl) rfl ?_
  refine t_eff rfl (e_call en_89 rfl rfl rfl rfl (guard_new_yes (p := exGuard) (by decide)) fun gl _ => ?_)
  refine t_val (r_move rfl) rfl ?_
  refine t_val (r_extract rfl rfl) rfl ?_
  refine t_val (r_extract rfl rfl) rfl ?_
  refine t_val (r_assign rfl) rfl ?_
  refine t_val (r_assign rfl) rfl ?_
  refine t_nil ?_
  refine Tr.keep (env' := [(1, _), (4, _)]) ⟨rfl, rfl, trivial⟩ ?_
  refine t_then ?_
  refine t_seq ?_
  refine t_region ?_
  refine t_val (r_move rfl) rfl ?_
  refine t_val (r_ne rfl rfl) rfl ?_
  refine t_nil ?_
  refine Tr.keep (env' := [(1, _), (15, _)]) ⟨rfl, rfl, trivial⟩ ?_
  refine t_then ?_
  refine t_cond_f rfl ?_
  refine t_skip ?_
  refine t_then ?_
  refine t_seq ?_
  refine t_seq ?_
  refine t_region ?_
  refine t_val (r_fa fo_50_1 rfl) rfl ?_
  refine t_val (r_loads ca_38 rfl (rds_m (n := 3) (vs := [_, _, _]) (.tail _ (.tail _ (.tail _ (.tail _ (.head _))))) rfl) rfl) rfl ?_
  refine t_val (r_fa fo_50_2 rfl) rfl ?_
  refine t_val (r_load ca_39 rfl (rd_m (.tail _ (.tail _ (.tail _ (.tail _ (.head _))))) rfl)) rfl ?_
  refine t_eff rfl (e_call en_90 rfl rfl rfl rfl (wire_new_yes (least := [1000]) (srcs := exSrcs) (h.sub (.cons _ (.cons _ (.cons _ (.cons _ (.cons _ (.refl _))))))).rLeast (h.sub (.cons _ (.cons _ (.cons _ (.cons _ (.cons _ (.refl _))))))).rSrcs (by decide) (by intro h; cases h) (by intro h; cases h) (by decide) (by decide)) fun wl hwl => ?_)
  refine t_val (r_move rfl) rfl ?_
  refine t_val (r_extract rfl rfl) rfl ?_
  refine t_val (r_extract rfl rfl) rfl ?_
  refine t_val (r_assign rfl) rfl ?_
  refine t_val (r_assign rfl) rfl ?_
  refine t_nil ?_
  refine Tr.keep (env' := [(1, _), (6, _)]) ⟨rfl, rfl, trivial⟩ ?_
  refine t_then ?_
  refine t_seq ?_
  refine t_region ?_
  refine t_val (r_move rfl) rfl ?_
  refine t_val (r_ne rfl rfl) rfl ?_
  refine t_nil ?_
  refine Tr.keep (env' := [(1, _), (25, _)]) ⟨rfl, rfl, trivial⟩ ?_
  refine t_then ?_
  refine t_cond_f rfl ?_
  refine t_skip ?_
  refine t_then ?_
  refine t_seq ?_
  refine t_seq ?_
  refine t_region ?_
  refine t_val (r_fa fo_50_3 rfl) rfl ?_
  refine t_val (r_loads ca_45 rfl (rds_m (n := 14) (vs := [_, _, _, _, _, _, _, _, _, _, _, _, _, _]) (.tail _ (.tail _ (List.mem_append_right _ (List.mem_append_right _ (.tail _ (.tail _ (.tail _ (.tail _ (.head _))))))))) rfl) rfl) rfl ?_
  refine t_eff rfl (e_pcall en_119 rfl rfl rfl rfl (scoreCheck_c (h.sub (.cons _ (.cons _ (List.Sublist.trans (List.Sublist.trans (.cons _ (.cons _ (.cons _ (.cons _ (.cons _ (.refl _)))))) (List.sublist_append_right _ _)) (List.sublist_append_right _ _)))))) ?_)
  refine t_val (r_ne rfl rfl) rfl ?_
  refine t_val (r_move rfl) rfl ?_
  refine t_gval rfl rfl (r_fa fo_50_4 rfl) rfl ?_
  refine t_gval rfl rfl (r_loads ca_48 rfl (rds_m (n := 6) (vs := [_, _, _, _, _, _]) (.tail _ (.tail _ (List.mem_append_right _ (List.mem_append_right _ (.tail _ (.tail _ (.tail _ (.tail _ (.head _))))))))) rfl) rfl) rfl ?_
  refine t_geff rfl rfl (e_pcall en_165 rfl rfl rfl rfl (appealCheck_c (h.sub (.cons _ (.cons _ (List.Sublist.trans (List.Sublist.trans (.cons _ (.cons _ (.cons _ (.cons _ (.cons _ (.refl _)))))) (List.sublist_append_right _ _)) (List.sublist_append_right _ _)))))) ?_)
  refine t_gval rfl rfl (r_ne rfl rfl) rfl ?_
  refine t_val (r_pick_f rfl rfl) rfl ?_
  refine t_nil ?_
  refine Tr.keep (env' := [(1, _), (35, _)]) ⟨rfl, rfl, trivial⟩ ?_
  refine t_then ?_
  refine t_cond_f rfl ?_
  refine t_skip ?_
  refine t_then ?_
  refine t_seq ?_
  refine t_region ?_
  refine t_val (r_assign rfl) rfl ?_
  refine t_nil ?_
  refine Tr.keep (env' := [(1, _), (7, _)]) ⟨rfl, rfl, trivial⟩ ?_
  refine t_then ?_
  refine t_seq ?_
  refine t_seq ?_
  refine t_region ?_
  refine t_val (r_fa fo_50_0 rfl) rfl ?_
  refine t_val (r_fa fo_35_5 rfl) rfl ?_
  refine t_val (r_load ca_3 rfl (rd_m (.tail _ (.tail _ (List.mem_append_right _ (List.mem_append_right _ (.tail _ (.tail _ (.tail _ (.tail _ (.head _))))))))) rfl)) rfl ?_
  refine t_val (r_fa fo_50_1 rfl) rfl ?_
  refine t_val (r_fa fo_38_0 rfl) rfl ?_
  refine t_val (r_load ca_3 rfl (rd_m (.tail _ (.tail _ (List.mem_append_right _ (List.mem_append_right _ (.tail _ (.tail _ (.tail _ (.tail _ (.head _))))))))) rfl)) rfl ?_
  refine t_val (r_ne rfl rfl) rfl ?_
  refine t_val (r_move rfl) rfl ?_
  refine t_gval rfl rfl (r_fa fo_50_4 rfl) rfl ?_
  refine t_gval rfl rfl (r_fa fo_48_0 rfl) rfl ?_
  refine t_gval rfl rfl (r_load ca_3 rfl (rd_m (.tail _ (.tail _ (List.mem_append_right _ (List.mem_append_right _ (.tail _ (.tail _ (.tail _ (.tail _ (.head _))))))))) rfl)) rfl ?_
  refine t_gval rfl rfl (r_fa fo_50_1 rfl) rfl ?_
  refine t_gval rfl rfl (r_fa fo_38_0 rfl) rfl ?_
  refine t_gval rfl rfl (r_load ca_3 rfl (rd_m (.tail _ (.tail _ (List.mem_append_right _ (List.mem_append_right _ (.tail _ (.tail _ (.tail _ (.tail _ (.head _))))))))) rfl)) rfl ?_
  refine t_gval rfl rfl (r_ne rfl rfl) rfl ?_
  refine t_val (r_pick_f rfl rfl) rfl ?_
  refine t_val (r_move rfl) rfl ?_
  refine t_gval rfl rfl (r_fa fo_50_0 rfl) rfl ?_
  refine t_gval rfl rfl (r_fa fo_35_0 rfl) rfl ?_
  refine t_gval rfl rfl (r_load ca_3 rfl (rd_m (.tail _ (.tail _ (List.mem_append_right _ (List.mem_append_right _ (.tail _ (.tail _ (.tail _ (.tail _ (.head _))))))))) rfl)) rfl ?_
  refine t_gval rfl rfl (r_fa fo_50_1 rfl) rfl ?_
  refine t_gval rfl rfl (r_fa fo_38_1 rfl) rfl ?_
  refine t_gval rfl rfl (r_load ca_3 rfl (rd_m (.tail _ (.tail _ (List.mem_append_right _ (List.mem_append_right _ (.tail _ (.tail _ (.tail _ (.tail _ (.head _))))))))) rfl)) rfl ?_
  refine t_gval rfl rfl (r_ne rfl rfl) rfl ?_
  refine t_val (r_pick_f rfl rfl) rfl ?_
  refine t_val (r_move rfl) rfl ?_
  refine t_gval rfl rfl (r_fa fo_50_3 rfl) rfl ?_
  refine t_gval rfl rfl (r_fa fo_45_0 rfl) rfl ?_
  refine t_gval rfl rfl (r_load ca_40 rfl (rd_m (.tail _ (.tail _ (List.mem_append_right _ (List.mem_append_right _ (.tail _ (.tail _ (.tail _ (.tail _ (.head _))))))))) rfl)) rfl ?_
  refine t_gval rfl rfl (r_move rfl) rfl ?_
  refine t_geff rfl rfl (e_pcall en_167 rfl rfl rfl rfl (containsFunc_item_c (fun y => (decItem y).kind == 2) en_166 (h.sub (.cons _ (.cons _ (List.Sublist.trans (List.Sublist.trans (.cons _ (.cons _ (.cons _ (.cons _ (.cons _ (.refl _)))))) (List.sublist_append_right _ _)) (List.sublist_append_right _ _))))).rItems (by
        intro y hy; obtain ⟨x, hx, rfl⟩ := List.mem_map.1 hy
        exact check1_c x)) ?_)
  refine t_gval rfl rfl (r_not rfl) rfl ?_
  refine t_val (r_pick_f rfl rfl) rfl ?_
  refine t_nil ?_
  refine Tr.keep (env' := [(68, _)]) ⟨rfl, trivial⟩ ?_
  refine t_then ?_
  refine t_cond_f rfl ?_
  refine t_skip ?_
  refine t_then ?_
  refine t_seq ?_
  refine t_region ?_
  refine t_val (r_assign rfl) rfl ?_
  refine t_nil ?_
  refine Tr.keep (env' := [(2, _)]) ⟨rfl, trivial⟩ ?_
  refine t_then ?_
  refine t_retc ?_
  refine t_ret1 rfl rfl (fun w hw => ?_)
  exact ⟨rfl, Ok.sub hw (.cons _ (.cons _ (List.Sublist.trans (List.Sublist.trans (.cons _ (.cons _ (.cons _ (.cons _ (.cons _ (.refl _)))))) (List.sublist_append_right _ _)) (List.sublist_append_right _ _))))⟩
end
end Go.Proofs.W
set_option linter.unusedVariables false
set_option linter.unusedSimpArgs false
set_option linter.unusedSectionVars false
set_option maxRecDepth 100000
namespace Go.Proofs.W
open Go Go.Sl Go.RowKit Go.Proofs
theorem ca_50 : cellsAs Tryz.prog 50 = some (some 30) := by kernel_rfl
theorem en_169 : Enters Tryz.prog 169 := enters_of Tryz.func169 (by kernel_rfl) (by kernel_rfl)
theorem en_170 : Enters Tryz.prog 170 := enters_of Tryz.func170 (by kernel_rfl) (by kernel_rfl)
theorem inf_50 : (Tryz.prog.info? 50).map (fun i => (i.zero, i.size, i.bytes)) = some (some (.agg #[.int .i64 0, .int .i64 0, .int .i64 0, .int .i64 0, .int .i64 0, .int .i64 0, .int .i64 0, .int .i64 0, .slice none 0 0, .slice none 0 0, .slice none 0 0, .int .i64 0, .int .i64 0, .int .i64 0, .int .i64 0, .int .i64 0, .slice none 0 0, .bool false, .int .i64 0, .int .i64 0, .int .i64 0, .int .i64 0, .slice none 0 0, .slice none 0 0, .int .i64 0, .slice none 0 0, .int .i64 0, .int .i64 0, .int .i64 0, .int .i64 0]), 30, 352) := by kernel_rfl
theorem iz_39 : (Tryz.prog.info? 39).map (·.size) = some 1 := by kernel_rfl
theorem iz_40 : (Tryz.prog.info? 40).map (·.size) = some 1 := by kernel_rfl
theorem iz_46 : (Tryz.prog.info? 46).map (·.size) = some 1 := by kernel_rfl
theorem iz_50 : (Tryz.prog.info? 50).map (·.size) = some 30 := by kernel_rfl
abbrev SAt.ents (a : SAt) : List Ent := [a.eItems, a.eJumps, a.ePoints, a.eExtra, a.eLeast, a.eSrcs, a.eArts]
theorem SAt.in_ents {a : SAt} {X : List Ent} : a.In (a.ents ++ X) := by constructor <;> simp
theorem own_sl {T : TypeId} {z n : Nat} {v : Value} {xs : List (List Value)} {E : List Ent} (h : Own T z v xs E) (hn : xs.length = n) (h0 : 0 < n) : ∃ s : Sl3, v = s.v n ∧ E = [cel s.b T (flat xs ++ s.sp)] := by
  subst hn
  rcases h.sh with ⟨_, rfl, _⟩ | ⟨b, c, l, rfl, rfl, h2, h3, h4, h5⟩
  · simp at h0
  · refine ⟨⟨b, c, l.drop (xs.length * z)⟩, rfl, ?_⟩
    rw [← h5, List.take_append_drop]
abbrev exArts : List (List Value) := [[.int .i64 1, .int .i64 0, .int .i64 0, .int .i64 1000]]
section
variable {w0 : World} {M : List Ent}
theorem SAt.In.rInts {a : SAt} {s : Sl3} {T : TypeId} {xs : List Int} {n : Nat} (h : cel s.b 3 (flat (xs.map encI) ++ s.sp) ∈ M) (hn : xs.length = n) (hb : n ≤ 100) : SlRd w0 M 1 (some ⟨s.b, 0, none⟩) n (xs.map encI) :=
  SlRd.of_cel (T := 3) (sp := s.sp) h (by simpa using hn) (by simp [encI]) (by omega)
theorem SAt.In.rArts {a : SAt} (h : a.In M) : SlRd w0 M 4 (some ⟨a.arts.b, 0, none⟩) 1 exArts :=
  SlRd.of_cel (T := 112) (sp := a.arts.sp) h.arts rfl (by simp) (by decide)
theorem owned_c {a : SAt} (h : a.In M) : ∀ w, Ok w0 M w → Calls Tryz.prog 88 #[.agg a.setup.toArray] w (fun e w' => ∃ a' : SAt, e = .returned (.agg a'.setup.toArray) ∧ True ∧ Ok w0 (a'.ents ++ M) w') := by
  refine enter (vs := [_]) Tryz.func88 rfl Tryz.ntmps88 rfl ?_
  refine t_seq ?_
  refine t_region ?_
  refine t_eff rfl (e_box rfl rfl fun b1 => ?_)
  refine t_eff rfl (e_alloc inf_50 (l := [.int .i64 0, .int .i64 0, .int .i64 0, .int .i64 0, .int .i64 0, .int .i64 0, .int .i64 0, .int .i64 0, .slice none 0 0, .slice none 0 0, .slice none 0 0, .int .i64 0, .int .i64 0, .int .i64 0, .int .i64 0, .int .i64 0, .slice none 0 0, .bool false, .int .i64 0, .int .i64 0, .int .i64 0, .int .i64 0, .slice none 0 0, .slice none 0 0, .int .i64 0, .slice none 0 0, .int .i64 0, .int .i64 0, .int .i64 0, .int .i64 0]) rfl rfl fun b2 => ?_)
  refine t_nil ?_
  refine Tr.keep (env' := [(1, _), (2, _)]) ⟨rfl, rfl, trivial⟩ ?_
  refine t_then ?_
  refine t_seq ?_
  refine t_region ?_
  refine t_val (r_fa fo_50_1 rfl) rfl ?_
  refine t_val (r_fa fo_38_2 rfl) rfl ?_
  refine t_val (r_load ca_36 rfl (rd_m (.tail _ (.head _)) rfl)) rfl ?_
  refine t_eff rfl (e_call en_85 rfl rfl rfl rfl (clone_int_c ((h.sub (.cons _ (.cons _ (.refl _)))).rLeast) (by simp [encI, Value.oneCell']) (by intro h; cases h) (by decide)) fun x hx => ?_)
  obtain ⟨vNLE, ENLE⟩ := x
  obtain ⟨hONLE, _⟩ := hx
  obtain ⟨sNLE, hv, hE⟩ := own_sl hONLE rfl (by decide)
  dsimp only at hv hE ⊢
  subst hv hE
  show Tr _ _ _ _ (cel sNLE.b 3 (.int .i64 1000 :: sNLE.sp) :: _) _
  refine t_val (r_fa fo_50_1 rfl) rfl ?_
  refine t_val (r_fa fo_38_2 rfl) rfl ?_
  refine t_eff rfl (e_store iz_36 rfl rfl rfl (.succ (.succ (.succ (.succ (.succ (.succ (.succ (.succ .zero)))))))) (.there (.there .here)) ?_)
  refine t_nil ?_
  refine Tr.keep (env' := [(1, _), (2, _)]) ⟨rfl, rfl, trivial⟩ ?_
  refine t_then ?_
  refine t_seq ?_
  refine t_region ?_
  refine t_val (r_fa fo_50_2 rfl) rfl ?_
  refine t_val (r_load ca_39 rfl (rd_m (.tail _ (.tail _ (.head _))) rfl)) rfl ?_
  refine t_eff rfl (e_call en_168 rfl rfl rfl rfl (clone_source_c ((h.sub (.cons _ (.cons _ (.cons _ (.refl _))))).rSrcs) (by simp [exSrcs, Src.cells, Value.oneCell']) (by intro h; cases h) (by decide)) fun x hx => ?_)
  obtain ⟨vNSR, ENSR⟩ := x
  obtain ⟨hONSR, _⟩ := hx
  obtain ⟨sNSR, hv, hE⟩ := own_sl hONSR rfl (by decide)
  dsimp only at hv hE ⊢
  subst hv hE
  show Tr _ _ _ _ (cel sNSR.b 110 (.int .i64 1 :: .int .i64 0 :: sNSR.sp) :: _) _
  refine t_val (r_fa fo_50_2 rfl) rfl ?_
  refine t_eff rfl (e_store iz_39 rfl rfl rfl (.succ (.succ (.succ (.succ (.succ (.succ (.succ (.succ (.succ .zero))))))))) (.there (.there (.there .here))) ?_)
  refine t_nil ?_
  refine Tr.keep (env' := [(1, _), (2, _)]) ⟨rfl, rfl, trivial⟩ ?_
  refine t_then ?_
  refine t_seq ?_
  refine t_region ?_
  refine t_val (r_fa fo_50_3 rfl) rfl ?_
  refine t_val (r_fa fo_45_0 rfl) rfl ?_
  refine t_val (r_load ca_40 rfl (rd_m (.tail _ (.tail _ (.tail _ (.head _)))) rfl)) rfl ?_
  refine t_eff rfl (e_call en_169 rfl rfl rfl rfl (clone_item_c ((h.sub (.cons _ (.cons _ (.cons _ (.cons _ (.refl _)))))).rItems) (by simp [exItems, SItem.cells, Value.oneCell']) (by intro h; cases h) (by decide)) fun x hx => ?_)
  obtain ⟨vNI, ENI⟩ := x
  obtain ⟨hONI, _⟩ := hx
  obtain ⟨sNI, hv, hE⟩ := own_sl hONI rfl (by decide)
  dsimp only at hv hE ⊢
  subst hv hE
  show Tr _ _ _ _ (cel sNI.b 107 (.int .i64 1 :: .int .i64 0 :: .int .i64 30 :: .bool false :: .int .i64 2 :: .int .i64 0 :: .int .i64 0 :: .bool false :: .int .i64 1 :: .int .i64 0 :: .int .i64 60 :: .bool false :: sNI.sp) :: _) _
  refine t_val (r_fa fo_50_3 rfl) rfl ?_
  refine t_val (r_fa fo_45_0 rfl) rfl ?_
  refine t_eff rfl (e_store iz_40 rfl rfl rfl (.succ (.succ (.succ (.succ (.succ (.succ (.succ (.succ (.succ (.succ .zero)))))))))) (.there (.there (.there (.there .here)))) ?_)
  refine t_nil ?_
  refine Tr.keep (env' := [(1, _), (2, _)]) ⟨rfl, rfl, trivial⟩ ?_
  refine t_then ?_
  refine t_seq ?_
  refine t_region ?_
  refine t_val (r_fa fo_50_3 rfl) rfl ?_
  refine t_val (r_fa fo_45_2 rfl) rfl ?_
  refine t_val (r_assign rfl) rfl ?_
  refine t_nil ?_
  refine Tr.keep (env' := [(1, _), (2, _), (3, _)]) ⟨rfl, rfl, rfl, trivial⟩ ?_
  refine t_then ?_
  refine t_seq ?_
  refine k_begin 20 (.cons_cons _ (.cons_cons _ (.cons_cons _ (.cons_cons _ (.cons _ (.refl _)))))) mixed rfl ?_
  refine k_val1 0 rfl (by kernel_rfl) (by kernel_rfl) (by kernel_rfl) rfl (by kernel_rfl) (.cons_cons _ (.cons_cons _ (.cons_cons _ (.cons_cons _ (.cons _ (.refl _)))))) (.then .body) (.refl _) rfl (r_move rfl) ?_
  refine k_val1 1 rfl (by kernel_rfl) (by kernel_rfl) (by kernel_rfl) rfl (by kernel_rfl) (.cons_cons _ (.cons_cons _ (.cons_cons _ (.cons_cons _ (.cons _ (.refl _)))))) (.then .body) (.refl _) rfl (r_move rfl) ?_
  refine k_val1 2 rfl (by kernel_rfl) (by kernel_rfl) (by kernel_rfl) rfl (by kernel_rfl) (.cons_cons _ (.cons_cons _ (.cons_cons _ (.cons_cons _ (.cons _ (.refl _)))))) (.then .body) (.refl _) rfl (r_move rfl) ?_
  refine k_val1 3 rfl (by kernel_rfl) (by kernel_rfl) (by kernel_rfl) rfl (by kernel_rfl) (.cons_cons _ (.cons_cons _ (.cons_cons _ (.cons_cons _ (.cons _ (.refl _)))))) (.then .body) (.refl _) rfl (r_move rfl) ?_
  refine k_val1 4 rfl (by kernel_rfl) (by kernel_rfl) (by kernel_rfl) rfl (by kernel_rfl) (.cons_cons _ (.cons_cons _ (.cons_cons _ (.cons_cons _ (.cons _ (.refl _)))))) (.then .body) (.refl _) rfl (r_nilCheck rfl) ?_
  refine k_val1 5 rfl (by kernel_rfl) (by kernel_rfl) (by kernel_rfl) rfl (by kernel_rfl) (.cons_cons _ (.cons_cons _ (.cons_cons _ (.cons_cons _ (.cons _ (.refl _)))))) (.then .body) (.refl _) rfl (r_fa fo_43_4 rfl) ?_
  refine k_val 6 rfl (by kernel_rfl) (by kernel_rfl) (by kernel_rfl) rfl (by kernel_rfl) (by kernel_rfl) (.then .body) (.refl _) rfl (r_load ca_36 rfl (rd_m (.tail _ (.tail _ (.tail _ (.tail _ (.head _))))) rfl)) ?_
  refine k_val1 8 rfl (by kernel_rfl) (by kernel_rfl) (by kernel_rfl) rfl (by kernel_rfl) (.cons_cons _ (.cons_cons _ (.cons_cons _ (.cons_cons _ (.cons _ (.refl _)))))) (.then .body) (.refl _) rfl (r_move rfl) ?_
  refine k_val1 9 rfl (by kernel_rfl) (by kernel_rfl) (by kernel_rfl) rfl (by kernel_rfl) (.cons_cons _ (.cons_cons _ (.cons_cons _ (.cons_cons _ (.cons _ (.refl _)))))) (.then .body) (.refl _) rfl (r_nilCheck rfl) ?_
  refine k_val1 10 rfl (by kernel_rfl) (by kernel_rfl) (by kernel_rfl) rfl (by kernel_rfl) (.cons_cons _ (.cons_cons _ (.cons_cons _ (.cons_cons _ (.cons _ (.refl _)))))) (.then .body) (.refl _) rfl (r_fa fo_43_10 rfl) ?_
  refine k_val 11 rfl (by kernel_rfl) (by kernel_rfl) (by kernel_rfl) rfl (by kernel_rfl) (by kernel_rfl) (.then .body) (.refl _) rfl (r_load ca_36 rfl (rd_m (.tail _ (.tail _ (.tail _ (.tail _ (.head _))))) rfl)) ?_
  refine k_val1 13 rfl (by kernel_rfl) (by kernel_rfl) (by kernel_rfl) rfl (by kernel_rfl) (.cons_cons _ (.cons_cons _ (.cons_cons _ (.cons_cons _ (.cons _ (.refl _)))))) (.then .body) (.refl _) rfl (r_move rfl) ?_
  refine k_val1 14 rfl (by kernel_rfl) (by kernel_rfl) (by kernel_rfl) rfl (by kernel_rfl) (.cons_cons _ (.cons_cons _ (.cons_cons _ (.cons_cons _ (.cons _ (.refl _)))))) (.then .body) (.refl _) rfl (r_nilCheck rfl) ?_
  refine k_val1 15 rfl (by kernel_rfl) (by kernel_rfl) (by kernel_rfl) rfl (by kernel_rfl) (.cons_cons _ (.cons_cons _ (.cons_cons _ (.cons_cons _ (.cons _ (.refl _)))))) (.then .body) (.refl _) rfl (r_fa fo_43_11 rfl) ?_
  refine k_val 16 rfl (by kernel_rfl) (by kernel_rfl) (by kernel_rfl) rfl (by kernel_rfl) (by kernel_rfl) (.then .body) (.refl _) rfl (r_load ca_36 rfl (rd_m (.tail _ (.tail _ (.tail _ (.tail _ (.head _))))) rfl)) ?_
  refine k_eff 7 rfl rfl (by kernel_rfl) (e_call en_85 rfl rfl rfl rfl (clone_int_c ((SAt.In.rInts (a := a) (T := 3) (s := a.jumps) (xs := [10000, 60000]) (h.sub (.cons _ (.cons _ (.cons _ (.cons _ (.cons _ (.refl _))))))).jumps rfl (by decide))) (by simp [encI, Value.oneCell']) (by intro h; cases h) (by decide)) fun x hx => ?_)
  obtain ⟨vNJ, ENJ⟩ := x
  obtain ⟨hONJ, _⟩ := hx
  obtain ⟨sNJ, hv, hE⟩ := own_sl hONJ rfl (by decide)
  dsimp only at hv hE ⊢
  subst hv hE
  show Tr _ _ _ _ (cel sNJ.b 3 (.int .i64 10000 :: .int .i64 60000 :: sNJ.sp) :: _) _
  refine k_held1 (by kernel_rfl) (.cons _ (.refl _)) ?_
  refine k_eff 12 rfl rfl (by kernel_rfl) (e_call en_85 rfl rfl rfl rfl (clone_int_c ((SAt.In.rInts (a := a) (T := 3) (s := a.points) (xs := [10, 6]) (h.sub (.cons _ (.cons _ (.cons _ (.cons _ (.cons _ (.cons _ (.refl _)))))))).points rfl (by decide))) (by simp [encI, Value.oneCell']) (by intro h; cases h) (by decide)) fun x hx => ?_)
  obtain ⟨vNP, ENP⟩ := x
  obtain ⟨hONP, _⟩ := hx
  obtain ⟨sNP, hv, hE⟩ := own_sl hONP rfl (by decide)
  dsimp only at hv hE ⊢
  subst hv hE
  show Tr _ _ _ _ (cel sNP.b 3 (.int .i64 10 :: .int .i64 6 :: sNP.sp) :: _) _
  refine k_held1 (by kernel_rfl) (.cons _ (.cons _ (.refl _))) ?_
  refine k_eff 17 rfl rfl (by kernel_rfl) (e_call en_85 rfl rfl rfl rfl (clone_int_c ((SAt.In.rInts (a := a) (T := 3) (s := a.extra) (xs := [3]) (h.sub (.cons _ (.cons _ (.cons _ (.cons _ (.cons _ (.cons _ (.cons _ (.refl _))))))))).extra rfl (by decide))) (by simp [encI, Value.oneCell']) (by intro h; cases h) (by decide)) fun x hx => ?_)
  obtain ⟨vNX, ENX⟩ := x
  obtain ⟨hONX, _⟩ := hx
  obtain ⟨sNX, hv, hE⟩ := own_sl hONX rfl (by decide)
  dsimp only at hv hE ⊢
  subst hv hE
  show Tr _ _ _ _ (cel sNX.b 3 (.int .i64 3 :: sNX.sp) :: _) _
  refine k_held1 (by kernel_rfl) (.cons _ (.cons _ (.cons _ (.refl _)))) ?_
  refine k_val1 18 rfl (by kernel_rfl) (by kernel_rfl) (by kernel_rfl) rfl (by kernel_rfl) (.cons_cons _ (.cons_cons _ (.cons_cons _ (.cons_cons _ (.cons _ (.refl _)))))) (.then .body) (.cons _ (.cons _ (.cons _ (.refl _)))) rfl (r_nilCheck rfl) ?_
  refine k_val1 19 rfl (by kernel_rfl) (by kernel_rfl) (by kernel_rfl) rfl (by kernel_rfl) (.cons_cons _ (.cons_cons _ (.cons_cons _ (.cons_cons _ (.cons _ (.refl _)))))) (.then .body) (.cons _ (.cons _ (.cons _ (.refl _)))) rfl (r_fa fo_43_4 rfl) ?_
  refine k_eff 20 rfl rfl (by kernel_rfl) (e_store iz_36 rfl rfl rfl (.succ (.succ (.succ (.succ (.succ (.succ (.succ (.succ (.succ (.succ (.succ (.succ (.succ (.succ (.succ (.succ .zero)))))))))))))))) (.there (.there (.there (.there (.there (.there (.there .here))))))) ?_)
  refine k_held2 (by kernel_rfl) (.cons _ (.cons _ (.cons _ (.cons_cons _ (.cons_cons _ (.cons_cons _ (.cons_cons _ (.cons _ (.refl _))))))))) ?_
  refine k_eff 21 rfl rfl (by kernel_rfl) (e_val (r_nilCheck rfl) rfl ?_)
  refine k_held2 (by kernel_rfl) (.cons _ (.cons _ (.cons _ (.cons_cons _ (.cons_cons _ (.cons_cons _ (.cons_cons _ (.cons _ (.refl _))))))))) ?_
  refine k_eff 22 rfl rfl (by kernel_rfl) (e_val (r_fa fo_43_10 rfl) rfl ?_)
  refine k_held2 (by kernel_rfl) (.cons _ (.cons _ (.cons _ (.cons_cons _ (.cons_cons _ (.cons_cons _ (.cons_cons _ (.cons _ (.refl _))))))))) ?_
  refine k_eff 23 rfl rfl (by kernel_rfl) (e_store iz_36 rfl rfl rfl (.succ (.succ (.succ (.succ (.succ (.succ (.succ (.succ (.succ (.succ (.succ (.succ (.succ (.succ (.succ (.succ (.succ (.succ (.succ (.succ (.succ (.succ .zero)))))))))))))))))))))) (.there (.there (.there (.there (.there (.there (.there .here))))))) ?_)
  refine k_held2 (by kernel_rfl) (.cons _ (.cons _ (.cons _ (.cons_cons _ (.cons_cons _ (.cons_cons _ (.cons_cons _ (.cons _ (.refl _))))))))) ?_
  refine k_eff 24 rfl rfl (by kernel_rfl) (e_val (r_nilCheck rfl) rfl ?_)
  refine k_held2 (by kernel_rfl) (.cons _ (.cons _ (.cons _ (.cons_cons _ (.cons_cons _ (.cons_cons _ (.cons_cons _ (.cons _ (.refl _))))))))) ?_
  refine k_eff 25 rfl rfl (by kernel_rfl) (e_val (r_fa fo_43_11 rfl) rfl ?_)
  refine k_held2 (by kernel_rfl) (.cons _ (.cons _ (.cons _ (.cons_cons _ (.cons_cons _ (.cons_cons _ (.cons_cons _ (.cons _ (.refl _))))))))) ?_
  refine k_eff 26 rfl rfl (by kernel_rfl) (e_store iz_36 rfl rfl rfl (.succ (.succ (.succ (.succ (.succ (.succ (.succ (.succ (.succ (.succ (.succ (.succ (.succ (.succ (.succ (.succ (.succ (.succ (.succ (.succ (.succ (.succ (.succ .zero))))))))))))))))))))))) (.there (.there (.there (.there (.there (.there (.there .here))))))) ?_)
  refine k_held2 (by kernel_rfl) (.cons _ (.cons _ (.cons _ (.cons_cons _ (.cons_cons _ (.cons_cons _ (.cons_cons _ (.cons _ (.refl _))))))))) ?_
  refine k_end (by kernel_rfl) ?_
  refine Tr.keep (env' := [(1, _), (2, _)]) ⟨rfl, rfl, trivial⟩ ?_
  refine t_then ?_
  refine t_seq ?_
  refine t_region ?_
  refine t_val (r_fa fo_50_4 rfl) rfl ?_
  refine t_val (r_fa fo_48_1 rfl) rfl ?_
  refine t_val (r_load ca_46 rfl (rd_m (.tail _ (.tail _ (.tail _ (.tail _ (.tail _ (.tail _ (.tail _ (.head _)))))))) rfl)) rfl ?_
  refine t_eff rfl (e_call en_170 rfl rfl rfl rfl (clone_article_c ((h.sub (.cons _ (.cons _ (.cons _ (.cons _ (.cons _ (.cons _ (.cons _ (.cons _ (.refl _)))))))))).rArts) (by simp [exArts, Value.oneCell']) (by intro h; cases h) (by decide)) fun x hx => ?_)
  obtain ⟨vNA, ENA⟩ := x
  obtain ⟨hONA, _⟩ := hx
  obtain ⟨sNA, hv, hE⟩ := own_sl hONA rfl (by decide)
  dsimp only at hv hE ⊢
  subst hv hE
  show Tr _ _ _ _ (cel sNA.b 112 (.int .i64 1 :: .int .i64 0 :: .int .i64 0 :: .int .i64 1000 :: sNA.sp) :: _) _
  refine t_val (r_fa fo_50_4 rfl) rfl ?_
  refine t_val (r_fa fo_48_1 rfl) rfl ?_
  refine t_eff rfl (e_store iz_46 rfl rfl rfl (.succ (.succ (.succ (.succ (.succ (.succ (.succ (.succ (.succ (.succ (.succ (.succ (.succ (.succ (.succ (.succ (.succ (.succ (.succ (.succ (.succ (.succ (.succ (.succ (.succ .zero))))))))))))))))))))))))) (.there (.there (.there (.there (.there (.there (.there (.there .here)))))))) ?_)
  refine t_nil ?_
  refine Tr.keep (env' := [(1, _), (2, _)]) ⟨rfl, rfl, trivial⟩ ?_
  refine t_then ?_
  refine t_seq ?_
  refine t_region ?_
  refine t_val (r_loads ca_50 rfl (rds_m (n := 30) (vs := [_, _, _, _, _, _, _, _, _, _, _, _, _, _, _, _, _, _, _, _, _, _, _, _, _, _, _, _, _, _]) (.tail _ (.tail _ (.tail _ (.tail _ (.tail _ (.tail _ (.tail _ (.tail _ (.head _))))))))) rfl) rfl) rfl ?_
  refine t_eff rfl (e_stores iz_50 rfl rfl (vs := [_, _, _, _, _, _, _, _, _, _, _, _, _, _, _, _, _, _, _, _, _, _, _, _, _, _, _, _, _, _]) rfl rfl (by simp [Value.oneCell']) (.cons .zero (.cons (.succ .zero) (.cons (.succ (.succ .zero)) (.cons (.succ (.succ (.succ .zero))) (.cons (.succ (.succ (.succ (.succ .zero)))) (.cons (.succ (.succ (.succ (.succ (.succ .zero))))) (.cons (.succ (.succ (.succ (.succ (.succ (.succ .zero)))))) (.cons (.succ (.succ (.succ (.succ (.succ (.succ (.succ .zero))))))) (.cons (.succ (.succ (.succ (.succ (.succ (.succ (.succ (.succ .zero)))))))) (.cons (.succ (.succ (.succ (.succ (.succ (.succ (.succ (.succ (.succ .zero))))))))) (.cons (.succ (.succ (.succ (.succ (.succ (.succ (.succ (.succ (.succ (.succ .zero)))))))))) (.cons (.succ (.succ (.succ (.succ (.succ (.succ (.succ (.succ (.succ (.succ (.succ .zero))))))))))) (.cons (.succ (.succ (.succ (.succ (.succ (.succ (.succ (.succ (.succ (.succ (.succ (.succ .zero)))))))))))) (.cons (.succ (.succ (.succ (.succ (.succ (.succ (.succ (.succ (.succ (.succ (.succ (.succ (.succ .zero))))))))))))) (.cons (.succ (.succ (.succ (.succ (.succ (.succ (.succ (.succ (.succ (.succ (.succ (.succ (.succ (.succ .zero)))))))))))))) (.cons (.succ (.succ (.succ (.succ (.succ (.succ (.succ (.succ (.succ (.succ (.succ (.succ (.succ (.succ (.succ .zero))))))))))))))) (.cons (.succ (.succ (.succ (.succ (.succ (.succ (.succ (.succ (.succ (.succ (.succ (.succ (.succ (.succ (.succ (.succ .zero)))))))))))))))) (.cons (.succ (.succ (.succ (.succ (.succ (.succ (.succ (.succ (.succ (.succ (.succ (.succ (.succ (.succ (.succ (.succ (.succ .zero))))))))))))))))) (.cons (.succ (.succ (.succ (.succ (.succ (.succ (.succ (.succ (.succ (.succ (.succ (.succ (.succ (.succ (.succ (.succ (.succ (.succ .zero)))))))))))))))))) (.cons (.succ (.succ (.succ (.succ (.succ (.succ (.succ (.succ (.succ (.succ (.succ (.succ (.succ (.succ (.succ (.succ (.succ (.succ (.succ .zero))))))))))))))))))) (.cons (.succ (.succ (.succ (.succ (.succ (.succ (.succ (.succ (.succ (.succ (.succ (.succ (.succ (.succ (.succ (.succ (.succ (.succ (.succ (.succ .zero)))))))))))))))))))) (.cons (.succ (.succ (.succ (.succ (.succ (.succ (.succ (.succ (.succ (.succ (.succ (.succ (.succ (.succ (.succ (.succ (.succ (.succ (.succ (.succ (.succ .zero))))))))))))))))))))) (.cons (.succ (.succ (.succ (.succ (.succ (.succ (.succ (.succ (.succ (.succ (.succ (.succ (.succ (.succ (.succ (.succ (.succ (.succ (.succ (.succ (.succ (.succ .zero)))))))))))))))))))))) (.cons (.succ (.succ (.succ (.succ (.succ (.succ (.succ (.succ (.succ (.succ (.succ (.succ (.succ (.succ (.succ (.succ (.succ (.succ (.succ (.succ (.succ (.succ (.succ .zero))))))))))))))))))))))) (.cons (.succ (.succ (.succ (.succ (.succ (.succ (.succ (.succ (.succ (.succ (.succ (.succ (.succ (.succ (.succ (.succ (.succ (.succ (.succ (.succ (.succ (.succ (.succ (.succ .zero)))))))))))))))))))))))) (.cons (.succ (.succ (.succ (.succ (.succ (.succ (.succ (.succ (.succ (.succ (.succ (.succ (.succ (.succ (.succ (.succ (.succ (.succ (.succ (.succ (.succ (.succ (.succ (.succ (.succ .zero))))))))))))))))))))))))) (.cons (.succ (.succ (.succ (.succ (.succ (.succ (.succ (.succ (.succ (.succ (.succ (.succ (.succ (.succ (.succ (.succ (.succ (.succ (.succ (.succ (.succ (.succ (.succ (.succ (.succ (.succ .zero)))))))))))))))))))))))))) (.cons (.succ (.succ (.succ (.succ (.succ (.succ (.succ (.succ (.succ (.succ (.succ (.succ (.succ (.succ (.succ (.succ (.succ (.succ (.succ (.succ (.succ (.succ (.succ (.succ (.succ (.succ (.succ .zero))))))))))))))))))))))))))) (.cons (.succ (.succ (.succ (.succ (.succ (.succ (.succ (.succ (.succ (.succ (.succ (.succ (.succ (.succ (.succ (.succ (.succ (.succ (.succ (.succ (.succ (.succ (.succ (.succ (.succ (.succ (.succ (.succ .zero)))))))))))))))))))))))))))) (.cons (.succ (.succ (.succ (.succ (.succ (.succ (.succ (.succ (.succ (.succ (.succ (.succ (.succ (.succ (.succ (.succ (.succ (.succ (.succ (.succ (.succ (.succ (.succ (.succ (.succ (.succ (.succ (.succ (.succ .zero))))))))))))))))))))))))))))) .nil)))))))))))))))))))))))))))))) (.there (.there (.there (.there (.there (.there (.there .here))))))) ?_)
  refine t_nil ?_
  refine Tr.keep (env' := [(2, _)]) ⟨rfl, trivial⟩ ?_
  refine t_then ?_
  refine t_retc ?_
  refine t_ret1c rfl ca_50 rfl (rds_m (n := 30) (vs := [_, _, _, _, _, _, _, _, _, _, _, _, _, _, _, _, _, _, _, _, _, _, _, _, _, _, _, _, _, _]) (.tail _ (.tail _ (.tail _ (.tail _ (.tail _ (.tail _ (.tail _ (.head _)))))))) rfl) rfl (fun w hw => ?_)
  exact ⟨⟨sNI, sNJ, sNP, sNX, sNLE, sNSR, sNA⟩, rfl, trivial, Ok.sub (hw.perm (pk (.there (.there (.there (.there .here)))) (pk (.there (.there (.there .here))) (pk (.there (.there .here)) (pk (.there .here) (pk (.there (.there .here)) (pk (.there .here) (pk .here (.refl _))))))))) (.cons_cons _ (.cons_cons _ (.cons_cons _ (.cons_cons _ (.cons_cons _ (.cons_cons _ (.cons_cons _ (.cons _ (.cons _ (.refl _))))))))))⟩
end
end Go.Proofs.W
set_option linter.unusedVariables false
set_option linter.unusedSimpArgs false
set_option linter.unusedSectionVars false
set_option maxRecDepth 100000
namespace Go.Proofs.W
open Go Go.Sl Go.RowKit Go.Proofs
theorem inf_45 : (Tryz.prog.info? 45).map (fun i => (i.zero, i.size, i.bytes)) = some (some (.agg #[.slice none 0 0, .int .i64 0, .int .i64 0, .int .i64 0, .int .i64 0, .int .i64 0, .slice none 0 0, .bool false, .int .i64 0, .int .i64 0, .int .i64 0, .int .i64 0, .slice none 0 0, .slice none 0 0]), 14, 176) := by kernel_rfl
theorem iz_45 : (Tryz.prog.info? 45).map (·.size) = some 14 := by kernel_rfl
section
variable {w0 : World} {M : List Ent}
theorem simple_c : ∀ w, Ok w0 M w → Calls Tryz.prog 19 #[] w (fun e w' => ∃ a : SAt, e = .returned (.agg a.setup.toArray) ∧ True ∧ Ok w0 (a.ents ++ M) w') := by
  refine enter (vs := []) Tryz.func19 rfl Tryz.ntmps19 rfl ?_
  refine t_seq ?_
  refine t_region ?_
  refine t_eff rfl (e_alloc inf_50 (l := [.int .i64 0, .int .i64 0, .int .i64 0, .int .i64 0, .int .i64 0, .int .i64 0, .int .i64 0, .int .i64 0, .slice none 0 0, .slice none 0 0, .slice none 0 0, .int .i64 0, .int .i64 0, .int .i64 0, .int .i64 0, .int .i64 0, .slice none 0 0, .bool false, .int .i64 0, .int .i64 0, .int .i64 0, .int .i64 0, .slice none 0 0, .slice none 0 0, .int .i64 0, .slice none 0 0, .int .i64 0, .int .i64 0, .int .i64 0, .int .i64 0]) rfl rfl fun b0 => ?_)
  refine t_nil ?_
  refine Tr.keep (env' := [(0, _)]) ⟨rfl, trivial⟩ ?_
  refine t_then ?_
  refine t_seq ?_
  refine t_region ?_
  refine t_val (r_build rfl (v := .agg #[.int .i64 1, .int .i64 0, .int .i64 30, .bool false]) (fun w => by kernel_rfl)) rfl ?_
  refine t_val (r_build rfl (v := .agg #[.int .i64 2, .int .i64 0, .int .i64 0, .bool false]) (fun w => by kernel_rfl)) rfl ?_
  refine t_val (r_build rfl (v := .agg #[.int .i64 1, .int .i64 0, .int .i64 60, .bool false]) (fun w => by kernel_rfl)) rfl ?_
  refine t_eff rfl (e_buildSlice (E := 107) (l := [.int .i64 1, .int .i64 0, .int .i64 30, .bool false, .int .i64 2, .int .i64 0, .int .i64 0, .bool false, .int .i64 1, .int .i64 0, .int .i64 60, .bool false]) rfl (fun w => by kernel_rfl) rfl fun b5 => ?_)
  refine t_eff rfl (e_buildSlice (E := 3) (l := [.int .i64 10000, .int .i64 60000]) rfl (fun w => by kernel_rfl) rfl fun b6 => ?_)
  refine t_eff rfl (e_buildSlice (E := 3) (l := [.int .i64 10, .int .i64 6]) rfl (fun w => by kernel_rfl) rfl fun b7 => ?_)
  refine t_eff rfl (e_buildSlice (E := 3) (l := [.int .i64 3]) rfl (fun w => by kernel_rfl) rfl fun b8 => ?_)
  refine t_val (r_build rfl (v := .agg #[.int .i64 10000, .int .i64 60000, .int .i64 15, .int .i64 30, .slice (some ⟨b6, 0, none⟩) 2 2, .bool false, .int .i64 0, .int .i64 1, .int .i64 100, .int .i64 1, .slice (some ⟨b7, 0, none⟩) 2 2, .slice (some ⟨b8, 0, none⟩) 1 1]) (fun w => by kernel_rfl)) rfl ?_
  refine t_val (r_build rfl (v := .agg #[.slice (some ⟨b5, 0, none⟩) 3 3, .int .i64 1, .int .i64 10000, .int .i64 60000, .int .i64 15, .int .i64 30, .slice (some ⟨b6, 0, none⟩) 2 2, .bool false, .int .i64 0, .int .i64 1, .int .i64 100, .int .i64 1, .slice (some ⟨b7, 0, none⟩) 2 2, .slice (some ⟨b8, 0, none⟩) 1 1]) (fun w => by kernel_rfl)) rfl ?_
  refine t_eff rfl (e_alloc inf_45 (l := [.slice none 0 0, .int .i64 0, .int .i64 0, .int .i64 0, .int .i64 0, .int .i64 0, .slice none 0 0, .bool false, .int .i64 0, .int .i64 0, .int .i64 0, .int .i64 0, .slice none 0 0, .slice none 0 0]) rfl rfl fun b1 => ?_)
  refine t_eff rfl (e_stores iz_45 rfl rfl (vs := [_, _, _, _, _, _, _, _, _, _, _, _, _, _]) rfl rfl (by simp [Value.oneCell']) (.cons .zero (.cons (.succ .zero) (.cons (.succ (.succ .zero)) (.cons (.succ (.succ (.succ .zero))) (.cons (.succ (.succ (.succ (.succ .zero)))) (.cons (.succ (.succ (.succ (.succ (.succ .zero))))) (.cons (.succ (.succ (.succ (.succ (.succ (.succ .zero)))))) (.cons (.succ (.succ (.succ (.succ (.succ (.succ (.succ .zero))))))) (.cons (.succ (.succ (.succ (.succ (.succ (.succ (.succ (.succ .zero)))))))) (.cons (.succ (.succ (.succ (.succ (.succ (.succ (.succ (.succ (.succ .zero))))))))) (.cons (.succ (.succ (.succ (.succ (.succ (.succ (.succ (.succ (.succ (.succ .zero)))))))))) (.cons (.succ (.succ (.succ (.succ (.succ (.succ (.succ (.succ (.succ (.succ (.succ .zero))))))))))) (.cons (.succ (.succ (.succ (.succ (.succ (.succ (.succ (.succ (.succ (.succ (.succ (.succ .zero)))))))))))) (.cons (.succ (.succ (.succ (.succ (.succ (.succ (.succ (.succ (.succ (.succ (.succ (.succ (.succ .zero))))))))))))) .nil)))))))))))))) .here ?_)
  refine t_nil ?_
  refine Tr.keep (env' := [(0, _), (1, _)]) ⟨rfl, rfl, trivial⟩ ?_
  refine t_then ?_
  refine t_seq ?_
  refine t_region ?_
  refine t_val (r_build rfl (v := .agg #[.int .i64 2, .int .i64 60, .int .i64 1, .int .i64 0, .int .i64 600, .int .i64 1]) (fun w => by kernel_rfl)) rfl ?_
  refine t_eff rfl (e_buildSlice (E := 3) (l := [.int .i64 1000]) rfl (fun w => by kernel_rfl) rfl fun b12 => ?_)
  refine t_val (r_build rfl (v := .agg #[.int .i64 1, .int .i64 2, .slice (some ⟨b12, 0, none⟩) 1 1]) (fun w => by kernel_rfl)) rfl ?_
  refine t_val (r_build rfl (v := .agg #[.int .i64 1, .int .i64 0]) (fun w => by kernel_rfl)) rfl ?_
  refine t_eff rfl (e_buildSlice (E := 110) (l := [.int .i64 1, .int .i64 0]) rfl (fun w => by kernel_rfl) rfl fun b15 => ?_)
  refine t_val (r_loads ca_45 rfl (rds_m (n := 14) (vs := [_, _, _, _, _, _, _, _, _, _, _, _, _, _]) (.tail _ (.tail _ (.head _))) rfl) rfl) rfl ?_
  refine t_val (r_build rfl (v := .agg #[.int .i64 1, .int .i64 0, .int .i64 0, .int .i64 1000]) (fun w => by kernel_rfl)) rfl ?_
  refine t_eff rfl (e_buildSlice (E := 112) (l := [.int .i64 1, .int .i64 0, .int .i64 0, .int .i64 1000]) rfl (fun w => by kernel_rfl) rfl fun b18 => ?_)
  refine t_val (r_build rfl (v := .agg #[.int .i64 1, .slice (some ⟨b18, 0, none⟩) 1 1, .int .i64 30, .int .i64 60, .int .i64 0, .int .i64 0]) (fun w => by kernel_rfl)) rfl ?_
  refine t_val (r_build rfl (v := .agg #[.int .i64 2, .int .i64 60, .int .i64 1, .int .i64 0, .int .i64 600, .int .i64 1, .int .i64 1, .int .i64 2, .slice (some ⟨b12, 0, none⟩) 1 1, .slice (some ⟨b15, 0, none⟩) 1 1, .slice (some ⟨b5, 0, none⟩) 3 3, .int .i64 1, .int .i64 10000, .int .i64 60000, .int .i64 15, .int .i64 30, .slice (some ⟨b6, 0, none⟩) 2 2, .bool false, .int .i64 0, .int .i64 1, .int .i64 100, .int .i64 1, .slice (some ⟨b7, 0, none⟩) 2 2, .slice (some ⟨b8, 0, none⟩) 1 1, .int .i64 1, .slice (some ⟨b18, 0, none⟩) 1 1, .int .i64 30, .int .i64 60, .int .i64 0, .int .i64 0]) (fun w => by kernel_rfl)) rfl ?_
  refine t_eff rfl (e_stores iz_50 rfl rfl (vs := [_, _, _, _, _, _, _, _, _, _, _, _, _, _, _, _, _, _, _, _, _, _, _, _, _, _, _, _, _, _]) rfl rfl (by simp [Value.oneCell']) (.cons .zero (.cons (.succ .zero) (.cons (.succ (.succ .zero)) (.cons (.succ (.succ (.succ .zero))) (.cons (.succ (.succ (.succ (.succ .zero)))) (.cons (.succ (.succ (.succ (.succ (.succ .zero))))) (.cons (.succ (.succ (.succ (.succ (.succ (.succ .zero)))))) (.cons (.succ (.succ (.succ (.succ (.succ (.succ (.succ .zero))))))) (.cons (.succ (.succ (.succ (.succ (.succ (.succ (.succ (.succ .zero)))))))) (.cons (.succ (.succ (.succ (.succ (.succ (.succ (.succ (.succ (.succ .zero))))))))) (.cons (.succ (.succ (.succ (.succ (.succ (.succ (.succ (.succ (.succ (.succ .zero)))))))))) (.cons (.succ (.succ (.succ (.succ (.succ (.succ (.succ (.succ (.succ (.succ (.succ .zero))))))))))) (.cons (.succ (.succ (.succ (.succ (.succ (.succ (.succ (.succ (.succ (.succ (.succ (.succ .zero)))))))))))) (.cons (.succ (.succ (.succ (.succ (.succ (.succ (.succ (.succ (.succ (.succ (.succ (.succ (.succ .zero))))))))))))) (.cons (.succ (.succ (.succ (.succ (.succ (.succ (.succ (.succ (.succ (.succ (.succ (.succ (.succ (.succ .zero)))))))))))))) (.cons (.succ (.succ (.succ (.succ (.succ (.succ (.succ (.succ (.succ (.succ (.succ (.succ (.succ (.succ (.succ .zero))))))))))))))) (.cons (.succ (.succ (.succ (.succ (.succ (.succ (.succ (.succ (.succ (.succ (.succ (.succ (.succ (.succ (.succ (.succ .zero)))))))))))))))) (.cons (.succ (.succ (.succ (.succ (.succ (.succ (.succ (.succ (.succ (.succ (.succ (.succ (.succ (.succ (.succ (.succ (.succ .zero))))))))))))))))) (.cons (.succ (.succ (.succ (.succ (.succ (.succ (.succ (.succ (.succ (.succ (.succ (.succ (.succ (.succ (.succ (.succ (.succ (.succ .zero)))))))))))))))))) (.cons (.succ (.succ (.succ (.succ (.succ (.succ (.succ (.succ (.succ (.succ (.succ (.succ (.succ (.succ (.succ (.succ (.succ (.succ (.succ .zero))))))))))))))))))) (.cons (.succ (.succ (.succ (.succ (.succ (.succ (.succ (.succ (.succ (.succ (.succ (.succ (.succ (.succ (.succ (.succ (.succ (.succ (.succ (.succ .zero)))))))))))))))))))) (.cons (.succ (.succ (.succ (.succ (.succ (.succ (.succ (.succ (.succ (.succ (.succ (.succ (.succ (.succ (.succ (.succ (.succ (.succ (.succ (.succ (.succ .zero))))))))))))))))))))) (.cons (.succ (.succ (.succ (.succ (.succ (.succ (.succ (.succ (.succ (.succ (.succ (.succ (.succ (.succ (.succ (.succ (.succ (.succ (.succ (.succ (.succ (.succ .zero)))))))))))))))))))))) (.cons (.succ (.succ (.succ (.succ (.succ (.succ (.succ (.succ (.succ (.succ (.succ (.succ (.succ (.succ (.succ (.succ (.succ (.succ (.succ (.succ (.succ (.succ (.succ .zero))))))))))))))))))))))) (.cons (.succ (.succ (.succ (.succ (.succ (.succ (.succ (.succ (.succ (.succ (.succ (.succ (.succ (.succ (.succ (.succ (.succ (.succ (.succ (.succ (.succ (.succ (.succ (.succ .zero)))))))))))))))))))))))) (.cons (.succ (.succ (.succ (.succ (.succ (.succ (.succ (.succ (.succ (.succ (.succ (.succ (.succ (.succ (.succ (.succ (.succ (.succ (.succ (.succ (.succ (.succ (.succ (.succ (.succ .zero))))))))))))))))))))))))) (.cons (.succ (.succ (.succ (.succ (.succ (.succ (.succ (.succ (.succ (.succ (.succ (.succ (.succ (.succ (.succ (.succ (.succ (.succ (.succ (.succ (.succ (.succ (.succ (.succ (.succ (.succ .zero)))))))))))))))))))))))))) (.cons (.succ (.succ (.succ (.succ (.succ (.succ (.succ (.succ (.succ (.succ (.succ (.succ (.succ (.succ (.succ (.succ (.succ (.succ (.succ (.succ (.succ (.succ (.succ (.succ (.succ (.succ (.succ .zero))))))))))))))))))))))))))) (.cons (.succ (.succ (.succ (.succ (.succ (.succ (.succ (.succ (.succ (.succ (.succ (.succ (.succ (.succ (.succ (.succ (.succ (.succ (.succ (.succ (.succ (.succ (.succ (.succ (.succ (.succ (.succ (.succ .zero)))))))))))))))))))))))))))) (.cons (.succ (.succ (.succ (.succ (.succ (.succ (.succ (.succ (.succ (.succ (.succ (.succ (.succ (.succ (.succ (.succ (.succ (.succ (.succ (.succ (.succ (.succ (.succ (.succ (.succ (.succ (.succ (.succ (.succ .zero))))))))))))))))))))))))))))) .nil)))))))))))))))))))))))))))))) (.there (.there (.there (.there (.there (.there (.there (.there .here)))))))) ?_)
  refine t_nil ?_
  refine Tr.keep (env' := [(0, _)]) ⟨rfl, trivial⟩ ?_
  refine t_then ?_
  refine t_retc ?_
  refine t_ret1c rfl ca_50 rfl (rds_m (n := 30) (vs := [_, _, _, _, _, _, _, _, _, _, _, _, _, _, _, _, _, _, _, _, _, _, _, _, _, _, _, _, _, _]) (.tail _ (.tail _ (.tail _ (.tail _ (.tail _ (.tail _ (.tail _ (.tail _ (.head _))))))))) rfl) rfl (fun w hw => ?_)
  exact ⟨⟨⟨b5, 3, []⟩, ⟨b6, 2, []⟩, ⟨b7, 2, []⟩, ⟨b8, 1, []⟩, ⟨b12, 1, []⟩, ⟨b15, 1, []⟩, ⟨b18, 1, []⟩⟩, rfl, trivial, Ok.sub (hw.perm (pk (.there (.there (.there (.there (.there (.there (.there .here))))))) (pk (.there (.there (.there (.there (.there (.there .here)))))) (pk (.there (.there (.there (.there (.there .here))))) (pk (.there (.there (.there (.there .here)))) (pk (.there (.there .here)) (pk (.there .here) (pk .here (.refl _))))))))) (.cons_cons _ (.cons_cons _ (.cons_cons _ (.cons_cons _ (.cons_cons _ (.cons_cons _ (.cons_cons _ (.cons _ (.cons _ (.refl _))))))))))⟩
theorem appealOpen_c {a : SAt} (h : a.In M) : ∀ w, Ok w0 M w → Calls Tryz.prog 91 #[.agg a.code.toArray] w (fun e w' => ∃ cb : Nat, e = .returned (.tuple #[.pointer (some ⟨cb, 0, none⟩), .int .i64 0]) ∧ True ∧ Ok w0 M w') := by
  refine enter (vs := [_]) Tryz.func91 rfl Tryz.ntmps91 rfl ?_
  refine t_seq ?_
  refine t_region ?_
  refine t_eff rfl (e_box rfl rfl fun b1 => ?_)
  refine t_val (r_assign rfl) rfl ?_
  refine t_val (r_assign rfl) rfl ?_
  refine t_nil ?_
  refine Tr.keep (env' := [(1, _)]) ⟨rfl, trivial⟩ ?_
  refine t_then ?_
  refine t_seq ?_
  refine t_seq ?_
  refine t_region ?_
  refine t_val (r_loads ca_48 rfl (rds_m (n := 6) (vs := [_, _, _, _, _, _]) (.head _) rfl) rfl) rfl ?_
  refine t_eff rfl (e_pcall en_165 rfl rfl rfl rfl (appealCheck_c (h.sub (.cons _ (.refl _)))) ?_)
  refine t_val (r_assign rfl) rfl ?_
  refine t_nil ?_
  refine Tr.keep (env' := [(1, _), (4, _)]) ⟨rfl, rfl, trivial⟩ ?_
  refine t_then ?_
  refine t_seq ?_
  refine t_region ?_
  refine t_val (r_move rfl) rfl ?_
  refine t_val (r_ne rfl rfl) rfl ?_
  refine t_nil ?_
  refine Tr.keep (env' := [(1, _), (4, _), (8, _)]) ⟨rfl, rfl, rfl, trivial⟩ ?_
  refine t_then ?_
  refine t_cond_f rfl ?_
  refine t_skip ?_
  refine t_then ?_
  refine t_seq ?_
  refine t_region ?_
  refine t_val (r_fa fo_48_1 rfl) rfl ?_
  refine t_val (r_load ca_46 rfl (rd_m (.head _) rfl)) rfl ?_
  refine t_eff rfl (e_call en_170 rfl rfl rfl rfl (clone_article_c ((h.sub (.cons _ (.refl _))).rArts) (by simp [exArts, Value.oneCell']) (by intro h; cases h) (by decide)) fun x hx => ?_)
  obtain ⟨vNA, ENA⟩ := x
  obtain ⟨hONA, _⟩ := hx
  dsimp only at hONA ⊢
  refine t_val (r_fa fo_48_1 rfl) rfl ?_
  refine t_eff rfl (e_store iz_46 rfl rfl (Own.one hONA) (.succ .zero) (.right .here) ?_)
  refine t_nil ?_
  refine Tr.keep (env' := [(1, _)]) ⟨rfl, trivial⟩ ?_
  refine t_then ?_
  refine t_seq ?_
  refine t_region ?_
  refine t_val (r_loads ca_48 rfl (rds_m (n := 6) (vs := [_, _, _, _, _, _]) (List.mem_append_right _ (.head _)) rfl) rfl) rfl ?_
  refine t_val (r_build rfl (v := .agg #[.int .i64 1, vNA, .int .i64 30, .int .i64 60, .int .i64 0, .int .i64 0, .bool true, .slice none 0 0, .slice none 0 0]) (fun w => by kernel_rfl)) rfl ?_
  refine t_eff rfl (e_box rfl rfl fun b16 => ?_)
  refine t_val (r_assign rfl) rfl ?_
  refine t_val (r_assign rfl) rfl ?_
  refine t_nil ?_
  refine Tr.keep (env' := [(2, _), (3, _)]) ⟨rfl, rfl, trivial⟩ ?_
  refine t_then ?_
  refine t_retc ?_
  refine t_ret2 rfl rfl rfl (fun w hw => ?_)
  exact ⟨b16, rfl, trivial, Ok.sub hw (.cons _ (List.Sublist.trans (.cons _ (.refl _)) (List.sublist_append_right _ _)))⟩
end
end Go.Proofs.W
