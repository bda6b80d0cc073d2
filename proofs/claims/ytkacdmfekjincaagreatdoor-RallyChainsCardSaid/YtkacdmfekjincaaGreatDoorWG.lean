/-
  What functions of the program that RallyChains reaches do, one contract each, part 7.
-/
import Derived.Test.YtkacdmfekjincaaGreatDoorWF
import Derived.Test.YtkacdmfekjincaaGreatDoorSlB
set_option linter.unusedVariables false
set_option linter.unusedSimpArgs false
set_option linter.unusedSectionVars false
set_option maxRecDepth 100000
namespace Go.Proofs.W
open Go Go.Sl Go.RowKit Go.Proofs
theorem ca_54 : cellsAs Tryz.prog 54 = some (none) := by kernel_rfl
theorem ca_78 : cellsAs Tryz.prog 78 = some (some 3) := by kernel_rfl
theorem en_87 : Enters Tryz.prog 87 := enters_of Tryz.func87 (by kernel_rfl) (by kernel_rfl)
theorem en_88 : Enters Tryz.prog 88 := enters_of Tryz.func88 (by kernel_rfl) (by kernel_rfl)
theorem en_91 : Enters Tryz.prog 91 := enters_of Tryz.func91 (by kernel_rfl) (by kernel_rfl)
theorem fo_56_0 : fieldOff Tryz.prog 56 0 = some 0 := by kernel_rfl
theorem fo_56_1 : fieldOff Tryz.prog 56 1 = some 30 := by kernel_rfl
theorem fo_56_2 : fieldOff Tryz.prog 56 2 = some 31 := by kernel_rfl
theorem fo_56_3 : fieldOff Tryz.prog 56 3 = some 32 := by kernel_rfl
theorem fo_56_4 : fieldOff Tryz.prog 56 4 = some 33 := by kernel_rfl
theorem inf_78 : (Tryz.prog.info? 78).map (fun i => (i.zero, i.size, i.bytes)) = some (some (.agg #[.int .i64 0, .slice none 0 0, .slice none 0 0]), 3, 56) := by kernel_rfl
theorem iz_51 : (Tryz.prog.info? 51).map (·.size) = some 1 := by kernel_rfl
theorem iz_52 : (Tryz.prog.info? 52).map (·.size) = some 1 := by kernel_rfl
theorem iz_53 : (Tryz.prog.info? 53).map (·.size) = some 1 := by kernel_rfl
theorem iz_54 : (Tryz.prog.info? 54).map (·.size) = some 1 := by kernel_rfl
theorem iz_78 : (Tryz.prog.info? 78).map (·.size) = some 3 := by kernel_rfl
theorem iz_79 : (Tryz.prog.info? 79).map (·.size) = some 1 := by kernel_rfl
structure CardM where
  cls : Int
  starts : List Int
  lines : List CLine
structure EvAt where
  eb : Nat
  sa : SAt
  gl : GAt
  wl : WAt
  cb : Nat
  cards : Sl3
  starts : Sl3
  lines : Sl3
abbrev EvAt.ev (e : EvAt) (logv : Value) : Ent := cel e.eb 56 (e.sa.setup ++ [.pointer (some ⟨e.gl.g, 0, none⟩), .pointer (some ⟨e.wl.b, 0, none⟩), .pointer (some ⟨e.cb, 0, none⟩), e.cards.v 1, logv])
abbrev EvAt.ec (e : EvAt) (c : CardM) : Ent := cel e.cards.b 78 ([.int .i64 c.cls, e.starts.v c.starts.length, e.lines.v c.lines.length] ++ e.cards.sp)
abbrev EvAt.es (e : EvAt) (c : CardM) : Ent := cel e.starts.b 3 (flat (c.starts.map encI) ++ e.starts.sp)
abbrev EvAt.el (e : EvAt) (c : CardM) : Ent := cel e.lines.b 81 (flat (c.lines.map CLine.cells) ++ e.lines.sp)
abbrev missedL : CLine := ⟨0, 0, false, 2⟩
abbrev card0 : CardM := ⟨0, [0], [missedL, missedL, missedL]⟩
section
variable {w0 : World} {M : List Ent}
theorem open_c {a : SAt} (h : a.In M) : ∀ w, Ok w0 M w → Calls Tryz.prog 37 #[.agg a.setup.toArray] w (fun e w' => ∃ e' : EvAt, e = .returned (.tuple #[.pointer (some ⟨e'.eb, 0, none⟩), .int .i64 0]) ∧ exLog.Lies e'.wl ∧
   Ok w0 (e'.ev (.slice none 0 0) :: e'.ec card0 :: e'.es card0 :: e'.el card0 :: (GuardSt.new exGuard).eg e'.gl :: (GuardSt.new exGuard).er e'.gl :: (GuardSt.new exGuard).ep e'.gl :: (GuardSt.new exGuard).ec e'.gl :: exLog.eb e'.wl :: exLog.em e'.wl :: (e'.wl.lE ++ (e'.wl.sE ++ (e'.sa.ents ++ M)))) w') := by
  refine enter (vs := [_]) Tryz.func37 rfl Tryz.ntmps37 rfl ?_
  refine t_seq ?_
  refine t_region ?_
  refine t_eff rfl (e_box rfl rfl fun b1 => ?_)
  refine t_val (r_assign rfl) rfl ?_
  refine t_val (r_assign rfl) rfl ?_
  refine t_nil ?_
  refine Tr.keep (env' := [(1, _)]) ⟨rfl, trivial⟩ ?_
  refine t_then ?_
  refine t_seq ?_
  refine t_seq ?_
  refine t_region ?_
  refine t_val (r_loads ca_50 rfl (rds_m (n := 30) (vs := [_, _, _, _, _, _, _, _, _, _, _, _, _, _, _, _, _, _, _, _, _, _, _, _, _, _, _, _, _, _]) (.head _) rfl) rfl) rfl ?_
  refine t_eff rfl (e_pcall en_87 rfl rfl rfl rfl (rallyCheck_c (h.sub (.cons _ (.refl _)))) ?_)
  refine t_val (r_assign rfl) rfl ?_
  refine t_nil ?_
  refine Tr.keep (env' := [(1, _), (4, _)]) ⟨rfl, rfl, trivial⟩ ?_
  refine t_then ?_
  refine t_seq ?_
  refine t_region ?_
  refine t_val (r_move rfl) rfl ?_
  refine t_val (r_ne rfl rfl) rfl ?_
  refine t_nil ?_
  refine Tr.keep (env' := [(1, _), (4, _), (12, _)]) ⟨rfl, rfl, rfl, trivial⟩ ?_
  refine t_then ?_
  refine t_cond_f rfl ?_
  refine t_skip ?_
  refine t_then ?_
  refine t_seq ?_
  refine t_region ?_
  refine t_val (r_loads ca_50 rfl (rds_m (n := 30) (vs := [_, _, _, _, _, _, _, _, _, _, _, _, _, _, _, _, _, _, _, _, _, _, _, _, _, _, _, _, _, _]) (.head _) rfl) rfl) rfl ?_
  refine t_eff rfl (e_call en_88 rfl rfl rfl rfl (owned_c (h.sub (.cons _ (.refl _)))) fun sa _ => ?_)
  have hin : sa.In (sa.ents ++ M) := SAt.in_ents
  simp only [SAt.ents, List.cons_append, List.nil_append] at hin ⊢
  refine t_val (r_build rfl (v := .agg (sa.setup ++ [Value.pointer none, Value.pointer none, Value.pointer none, Value.slice none 0 0, Value.slice none 0 0]).toArray) (fun w => by kernel_rfl)) rfl ?_
  refine t_eff rfl (e_box rfl rfl fun b17 => ?_)
  refine t_val (r_assign rfl) rfl ?_
  refine t_nil ?_
  refine Tr.keep (env' := [(5, _)]) ⟨rfl, trivial⟩ ?_
  refine t_then ?_
  refine t_seq ?_
  refine t_region ?_
  refine t_val (r_move rfl) rfl ?_
  refine t_val (r_move rfl) rfl ?_
  refine t_val (r_nilCheck rfl) rfl ?_
  refine t_val (r_fa fo_56_0 rfl) rfl ?_
  refine t_val (r_fa fo_50_0 rfl) rfl ?_
  refine t_val (r_loads ca_35 rfl (rds_m (n := 6) (vs := [_, _, _, _, _, _]) (.head _) rfl) rfl) rfl ?_
  refine t_eff rfl (e_call en_89 rfl rfl rfl rfl (guard_new_yes (p := exGuard) (by decide)) fun gl _ => ?_)
  refine t_val (r_move rfl) rfl ?_
  refine t_val (r_extract rfl rfl) rfl ?_
  refine t_val (r_extract rfl rfl) rfl ?_
  refine t_val (r_nilCheck rfl) rfl ?_
  refine t_val (r_fa fo_56_1 rfl) rfl ?_
  refine t_eff rfl (e_store iz_51 rfl rfl rfl (.succ (.succ (.succ (.succ (.succ (.succ (.succ (.succ (.succ (.succ (.succ (.succ (.succ (.succ (.succ (.succ (.succ (.succ (.succ (.succ (.succ (.succ (.succ (.succ (.succ (.succ (.succ (.succ (.succ (.succ .zero)))))))))))))))))))))))))))))) (.there (.there (.there (.there .here)))) ?_)
  refine t_nil ?_
  refine Tr.keep (env' := [(5, _)]) ⟨rfl, trivial⟩ ?_
  refine t_then ?_
  refine t_seq ?_
  refine k_begin 17 (.cons_cons _ (.cons_cons _ (.cons_cons _ (.cons_cons _ (.cons _ (.refl _)))))) mixed rfl ?_
  refine k_val1 0 rfl (by kernel_rfl) (by kernel_rfl) (by kernel_rfl) rfl (by kernel_rfl) (.cons_cons _ (.cons_cons _ (.cons_cons _ (.cons_cons _ (.cons _ (.refl _)))))) (.then .body) (.refl _) rfl (r_move rfl) ?_
  refine k_val1 1 rfl (by kernel_rfl) (by kernel_rfl) (by kernel_rfl) rfl (by kernel_rfl) (.cons_cons _ (.cons_cons _ (.cons_cons _ (.cons_cons _ (.cons _ (.refl _)))))) (.then .body) (.refl _) rfl (r_move rfl) ?_
  refine k_val1 2 rfl (by kernel_rfl) (by kernel_rfl) (by kernel_rfl) rfl (by kernel_rfl) (.cons_cons _ (.cons_cons _ (.cons_cons _ (.cons_cons _ (.cons _ (.refl _)))))) (.then .body) (.refl _) rfl (r_nilCheck rfl) ?_
  refine k_val1 3 rfl (by kernel_rfl) (by kernel_rfl) (by kernel_rfl) rfl (by kernel_rfl) (.cons_cons _ (.cons_cons _ (.cons_cons _ (.cons_cons _ (.cons _ (.refl _)))))) (.then .body) (.refl _) rfl (r_fa fo_56_0 rfl) ?_
  refine k_val1 4 rfl (by kernel_rfl) (by kernel_rfl) (by kernel_rfl) rfl (by kernel_rfl) (.cons_cons _ (.cons_cons _ (.cons_cons _ (.cons_cons _ (.cons _ (.refl _)))))) (.then .body) (.refl _) rfl (r_fa fo_50_1 rfl) ?_
  refine k_val 5 rfl (by kernel_rfl) (by kernel_rfl) (by kernel_rfl) rfl (by kernel_rfl) (by kernel_rfl) (.then .body) (.refl _) rfl (r_loads ca_38 rfl (rds_m (n := 3) (vs := [_, _, _]) (.tail _ (.tail _ (.tail _ (.tail _ (.head _))))) rfl) rfl) ?_
  refine k_val1 6 rfl (by kernel_rfl) (by kernel_rfl) (by kernel_rfl) rfl (by kernel_rfl) (.cons_cons _ (.cons_cons _ (.cons_cons _ (.cons_cons _ (.cons _ (.refl _)))))) (.then .body) (.refl _) rfl (r_move rfl) ?_
  refine k_val1 7 rfl (by kernel_rfl) (by kernel_rfl) (by kernel_rfl) rfl (by kernel_rfl) (.cons_cons _ (.cons_cons _ (.cons_cons _ (.cons_cons _ (.cons _ (.refl _)))))) (.then .body) (.refl _) rfl (r_nilCheck rfl) ?_
  refine k_val1 8 rfl (by kernel_rfl) (by kernel_rfl) (by kernel_rfl) rfl (by kernel_rfl) (.cons_cons _ (.cons_cons _ (.cons_cons _ (.cons_cons _ (.cons _ (.refl _)))))) (.then .body) (.refl _) rfl (r_fa fo_56_0 rfl) ?_
  refine k_val1 9 rfl (by kernel_rfl) (by kernel_rfl) (by kernel_rfl) rfl (by kernel_rfl) (.cons_cons _ (.cons_cons _ (.cons_cons _ (.cons_cons _ (.cons _ (.refl _)))))) (.then .body) (.refl _) rfl (r_fa fo_50_2 rfl) ?_
  refine k_val 10 rfl (by kernel_rfl) (by kernel_rfl) (by kernel_rfl) rfl (by kernel_rfl) (by kernel_rfl) (.then .body) (.refl _) rfl (r_load ca_39 rfl (rd_m (.tail _ (.tail _ (.tail _ (.tail _ (.head _))))) rfl)) ?_
  refine k_eff 11 rfl rfl (by kernel_rfl) (e_call en_90 rfl rfl rfl rfl (wire_new_yes (least := [1000]) (srcs := exSrcs) (hin.sub (.cons _ (.cons _ (.cons _ (.cons _ (.cons _ (.cons_cons _ (.cons_cons _ (.cons_cons _ (.cons_cons _ (.cons_cons _ (.cons_cons _ (.cons_cons _ (.cons _ (.refl _))))))))))))))).rLeast (hin.sub (.cons _ (.cons _ (.cons _ (.cons _ (.cons _ (.cons_cons _ (.cons_cons _ (.cons_cons _ (.cons_cons _ (.cons_cons _ (.cons_cons _ (.cons_cons _ (.cons _ (.refl _))))))))))))))).rSrcs (by decide) (by intro h; cases h) (by intro h; cases h) (by decide) (by decide)) fun wl hwl => ?_)
  refine k_held1 (by kernel_rfl) (.cons _ (.cons _ (List.Sublist.trans (List.Sublist.trans (.refl _) (List.sublist_append_right _ _)) (List.sublist_append_right _ _)))) ?_
  refine k_val1 12 rfl (by kernel_rfl) (by kernel_rfl) (by kernel_rfl) rfl (by kernel_rfl) (.cons_cons _ (.cons_cons _ (.cons_cons _ (.cons_cons _ (.cons _ (.refl _)))))) (.then .body) (.cons _ (.cons _ (List.Sublist.trans (List.Sublist.trans (.refl _) (List.sublist_append_right _ _)) (List.sublist_append_right _ _)))) rfl (r_move rfl) ?_
  refine k_val1 13 rfl (by kernel_rfl) (by kernel_rfl) (by kernel_rfl) rfl (by kernel_rfl) (.cons_cons _ (.cons_cons _ (.cons_cons _ (.cons_cons _ (.cons _ (.refl _)))))) (.then .body) (.cons _ (.cons _ (List.Sublist.trans (List.Sublist.trans (.refl _) (List.sublist_append_right _ _)) (List.sublist_append_right _ _)))) rfl (r_extract rfl rfl) ?_
  refine k_val1 14 rfl (by kernel_rfl) (by kernel_rfl) (by kernel_rfl) rfl (by kernel_rfl) (.cons_cons _ (.cons_cons _ (.cons_cons _ (.cons_cons _ (.cons _ (.refl _)))))) (.then .body) (.cons _ (.cons _ (List.Sublist.trans (List.Sublist.trans (.refl _) (List.sublist_append_right _ _)) (List.sublist_append_right _ _)))) rfl (r_extract rfl rfl) ?_
  refine k_val1 15 rfl (by kernel_rfl) (by kernel_rfl) (by kernel_rfl) rfl (by kernel_rfl) (.cons_cons _ (.cons_cons _ (.cons_cons _ (.cons_cons _ (.cons _ (.refl _)))))) (.then .body) (.cons _ (.cons _ (List.Sublist.trans (List.Sublist.trans (.refl _) (List.sublist_append_right _ _)) (List.sublist_append_right _ _)))) rfl (r_nilCheck rfl) ?_
  refine k_val1 16 rfl (by kernel_rfl) (by kernel_rfl) (by kernel_rfl) rfl (by kernel_rfl) (.cons_cons _ (.cons_cons _ (.cons_cons _ (.cons_cons _ (.cons _ (.refl _)))))) (.then .body) (.cons _ (.cons _ (List.Sublist.trans (List.Sublist.trans (.refl _) (List.sublist_append_right _ _)) (List.sublist_append_right _ _)))) rfl (r_fa fo_56_2 rfl) ?_
  refine k_eff 17 rfl rfl (by kernel_rfl) (e_store iz_52 rfl rfl rfl (.succ (.succ (.succ (.succ (.succ (.succ (.succ (.succ (.succ (.succ (.succ (.succ (.succ (.succ (.succ (.succ (.succ (.succ (.succ (.succ (.succ (.succ (.succ (.succ (.succ (.succ (.succ (.succ (.succ (.succ (.succ .zero))))))))))))))))))))))))))))))) (.there (.there (.right (.right (.there (.there (.there (.there .here)))))))) ?_)
  refine k_held2 (by kernel_rfl) (.cons _ (.cons _ (List.Sublist.trans (List.Sublist.trans (.cons_cons _ (.cons_cons _ (.cons_cons _ (.cons_cons _ (.cons _ (.refl _)))))) (List.sublist_append_right _ _)) (List.sublist_append_right _ _)))) ?_
  refine k_end (by kernel_rfl) ?_
  refine Tr.keep (env' := [(5, _)]) ⟨rfl, trivial⟩ ?_
  refine t_then ?_
  refine t_seq ?_
  refine t_region ?_
  refine t_val (r_move rfl) rfl ?_
  refine t_val (r_move rfl) rfl ?_
  refine t_val (r_nilCheck rfl) rfl ?_
  refine t_val (r_fa fo_56_0 rfl) rfl ?_
  refine t_val (r_fa fo_50_4 rfl) rfl ?_
  refine t_val (r_loads ca_48 rfl (rds_m (n := 6) (vs := [_, _, _, _, _, _]) (.tail _ (.tail _ (List.mem_append_right _ (List.mem_append_right _ (.tail _ (.tail _ (.tail _ (.tail _ (.head _))))))))) rfl) rfl) rfl ?_
  refine t_eff rfl (e_call en_91 rfl rfl rfl rfl (appealOpen_c (hin.sub (.cons _ (.cons _ (List.Sublist.trans (List.Sublist.trans (.cons _ (.cons _ (.cons _ (.cons _ (.cons _ (.cons_cons _ (.cons_cons _ (.cons_cons _ (.cons_cons _ (.cons_cons _ (.cons_cons _ (.cons_cons _ (.cons _ (.refl _)))))))))))))) (List.sublist_append_right _ _)) (List.sublist_append_right _ _)))))) fun cb _ => ?_)
  refine t_val (r_move rfl) rfl ?_
  refine t_val (r_extract rfl rfl) rfl ?_
  refine t_val (r_extract rfl rfl) rfl ?_
  refine t_val (r_nilCheck rfl) rfl ?_
  refine t_val (r_fa fo_56_3 rfl) rfl ?_
  refine t_eff rfl (e_store iz_53 rfl rfl rfl (.succ (.succ (.succ (.succ (.succ (.succ (.succ (.succ (.succ (.succ (.succ (.succ (.succ (.succ (.succ (.succ (.succ (.succ (.succ (.succ (.succ (.succ (.succ (.succ (.succ (.succ (.succ (.succ (.succ (.succ (.succ (.succ .zero)))))))))))))))))))))))))))))))) (.there (.there (.right (.right (.there (.there (.there (.there .here)))))))) ?_)
  refine t_nil ?_
  refine Tr.keep (env' := [(5, _)]) ⟨rfl, trivial⟩ ?_
  refine t_then ?_
  refine t_seq ?_
  refine t_region ?_
  refine t_val (r_move rfl) rfl ?_
  refine t_val (r_nilCheck rfl) rfl ?_
  refine t_val (r_fa fo_56_0 rfl) rfl ?_
  refine t_val (r_fa fo_50_3 rfl) rfl ?_
  refine t_val (r_fa fo_45_0 rfl) rfl ?_
  refine t_val (r_load ca_40 rfl (rd_m (.tail _ (.tail _ (List.mem_append_right _ (List.mem_append_right _ (.tail _ (.tail _ (.tail _ (.tail _ (.head _))))))))) rfl)) rfl ?_
  refine t_val (r_len_slice Tryz.underlying40 rfl) rfl ?_
  refine t_val (r_assign rfl) rfl ?_
  refine t_nil ?_
  refine Tr.keep (env' := [(5, _), (6, _)]) ⟨rfl, rfl, trivial⟩ ?_
  refine t_then ?_
  refine t_seq ?_
  refine t_seq ?_
  refine t_region ?_
  refine t_val (r_move rfl) rfl ?_
  refine t_val (r_nilCheck rfl) rfl ?_
  refine t_val (r_fa fo_56_0 rfl) rfl ?_
  refine t_val (r_fa fo_50_1 rfl) rfl ?_
  refine t_val (r_fa fo_38_0 rfl) rfl ?_
  refine t_val (r_load ca_3 rfl (rd_m (.tail _ (.tail _ (List.mem_append_right _ (List.mem_append_right _ (.tail _ (.tail _ (.tail _ (.tail _ (.head _))))))))) rfl)) rfl ?_
  refine t_val (r_move rfl) rfl ?_
  refine t_nil ?_
  refine Tr.keep (env' := [(5, _), (6, _), (71, _), (72, _)]) ⟨rfl, rfl, rfl, rfl, trivial⟩ ?_
  refine t_then ?_
  refine t_block ?_
  refine t_unroll0 ?_
  refine t_unroll ?_
  refine t_seq ?_
  refine t_region ?_
  refine t_val (r_lt rfl rfl) rfl ?_
  refine t_nil ?_
  refine Tr.keep (env' := [(5, _), (6, _), (71, _), (72, _), (73, _)]) ⟨rfl, rfl, rfl, rfl, rfl, trivial⟩ ?_
  refine t_then ?_
  refine t_seq ?_
  refine t_cond_t rfl ?_
  refine t_skip ?_
  refine t_then ?_
  refine t_seq ?_
  refine t_block ?_
  refine t_seq ?_
  refine Tr.keep (env' := [(5, _), (6, _), (71, _), (72, _)]) ⟨rfl, rfl, rfl, rfl, trivial⟩ ?_
  refine t_cutA (α := Nat × Nat × Nat) (fun x => [(5, .pointer (some ⟨b17, 0, none⟩)), (6, .int .i64 3), (7, .pointer (some ⟨x.1, 0, none⟩)), (71, .int .i64 1), (72, .int .i64 0)]) (fun x => [cel x.1 78 [.int .i64 0, .slice (some ⟨x.2.1, 0, none⟩) 1 1, .slice (some ⟨x.2.2, 0, none⟩) 3 3], cel x.2.1 3 [.int .i64 0], cel x.2.2 81 [.int .i64 0, .int .i64 0, .bool false, .int .i64 0, .int .i64 0, .int .i64 0, .bool false, .int .i64 0, .int .i64 0, .int .i64 0, .bool false, .int .i64 0]]) (fun _ => True) ?_ ?_
  · intro K hK
    refine d_begin mixed rfl ?_
    refine d_val 0 rfl (by kernel_rfl) (by kernel_rfl) (by kernel_rfl) (.then (.then (.inBlock (.then (.then (.inBlock (.then .body))))))) (.refl _) rfl (r_move rfl) ?_
    refine d_val 1 rfl (by kernel_rfl) (by kernel_rfl) (by kernel_rfl) (.then (.then (.inBlock (.then (.then (.inBlock (.then .body))))))) (.refl _) rfl (r_nilCheck rfl) ?_
    refine d_val 2 rfl (by kernel_rfl) (by kernel_rfl) (by kernel_rfl) (.then (.then (.inBlock (.then (.then (.inBlock (.then .body))))))) (.refl _) rfl (r_fa fo_56_0 rfl) ?_
    refine d_val 3 rfl (by kernel_rfl) (by kernel_rfl) (by kernel_rfl) (.then (.then (.inBlock (.then (.then (.inBlock (.then .body))))))) (.refl _) rfl (r_fa fo_50_3 rfl) ?_
    refine d_val 4 rfl (by kernel_rfl) (by kernel_rfl) (by kernel_rfl) (.then (.then (.inBlock (.then (.then (.inBlock (.then .body))))))) (.refl _) rfl (r_fa fo_45_0 rfl) ?_
    refine d_val 5 rfl (by kernel_rfl) (by kernel_rfl) (by kernel_rfl) (.then (.then (.inBlock (.then (.then (.inBlock (.then .body))))))) (.refl _) rfl (r_load ca_40 rfl (rd_m (.tail _ (.tail _ (List.mem_append_right _ (List.mem_append_right _ (.tail _ (.tail _ (.tail _ (.tail _ (.head _))))))))) rfl)) ?_
    refine d_val 6 rfl (by kernel_rfl) (by kernel_rfl) (by kernel_rfl) (.then (.then (.inBlock (.then (.then (.inBlock (.then .body))))))) (.refl _) rfl (r_move rfl) ?_
    refine d_val 7 rfl (by kernel_rfl) (by kernel_rfl) (by kernel_rfl) (.then (.then (.inBlock (.then (.then (.inBlock (.then .body))))))) (.refl _) rfl (r_subi rfl rfl (by omega)) ?_
    refine d_val 8 rfl (by kernel_rfl) (by kernel_rfl) (by kernel_rfl) (.then (.then (.inBlock (.then (.then (.inBlock (.then .body))))))) (.refl _) rfl (r_ia (j := 2) Tryz.underlying40 iz_107 rfl rfl rfl (by decide)) ?_
    refine d_val 9 rfl (by kernel_rfl) (by kernel_rfl) (by kernel_rfl) (.then (.then (.inBlock (.then (.then (.inBlock (.then .body))))))) (.refl _) rfl (r_fa fo_107_1 rfl) ?_
    refine d_val 10 rfl (by kernel_rfl) (by kernel_rfl) (by kernel_rfl) (.then (.then (.inBlock (.then (.then (.inBlock (.then .body))))))) (.refl _) rfl (r_load ca_3 rfl (rd_m (.tail _ (.tail _ (List.mem_append_right _ (List.mem_append_right _ (.tail _ (.tail _ (.tail _ (.tail _ (.tail _ (.head _)))))))))) rfl)) ?_
    refine d_val 11 rfl (by kernel_rfl) (by kernel_rfl) (by kernel_rfl) (.then (.then (.inBlock (.then (.then (.inBlock (.then .body))))))) (.refl _) rfl (r_addi rfl rfl (by omega)) ?_
    refine d_val 13 rfl (by kernel_rfl) (by kernel_rfl) (by kernel_rfl) (.then (.then (.inBlock (.then (.then (.inBlock (.then .body))))))) (.refl _) rfl (r_move rfl) ?_
    refine d_eff3 12 14 16 rfl rfl rfl  rfl rfl rfl  (by kernel_rfl) ?_ ?_ ?_
    · refine (e_make (zs := [.int .i64 0]) Tryz.underlying36 inf_3 rfl (by decide) (m := 1) rfl (by decide) (by decide) rfl fun b86 => ?_)
      refine d_held (.cons _ (.refl _)) ?_
      refine d_eff2 14 16 rfl rfl  rfl rfl  (by kernel_rfl) ?_ ?_
      · refine (e_make (zs := [.int .i64 0, .int .i64 0, .bool false, .int .i64 0]) Tryz.underlying76 inf_81 rfl (by decide) (m := 3) rfl (by decide) (by decide) rfl fun b88 => ?_)
        refine d_held (.cons _ (.cons _ (.refl _))) ?_
        refine d_val 15 rfl (by kernel_rfl) (by kernel_rfl) (by kernel_rfl) (.then (.then (.inBlock (.then (.then (.inBlock (.then .body))))))) (.cons _ (.cons _ (.refl _))) rfl (r_build rfl (v := .agg #[.int .i64 0, .slice (some ⟨b86, 0, none⟩) 1 1, .slice (some ⟨b88, 0, none⟩) 3 3]) (fun w => by kernel_rfl)) ?_
        refine d_eff 16 rfl rfl (by kernel_rfl) (e_alloc inf_78 (l := [.int .i64 0, .slice none 0 0, .slice none 0 0]) rfl rfl fun b7 => ?_)
        refine d_held (.cons _ (.cons _ (.cons _ (.refl _)))) ?_
        refine d_eff 17 rfl rfl (by kernel_rfl) (e_stores iz_78 rfl rfl (vs := [_, _, _]) rfl rfl (by simp [Value.oneCell']) (.cons .zero (.cons (.succ .zero) (.cons (.succ (.succ .zero)) .nil))) .here ?_)
        refine d_held (.cons _ (.cons _ (.cons _ (.refl _)))) ?_
        refine d_end (by kernel_rfl) ?_
        exact t_thenX (hK ⟨b7, b86, b88⟩ trivial) ⟨rfl, rfl, rfl, rfl, rfl, trivial⟩ (pk .here (pk (.there .here) (pk .here (.refl _)))) (.refl _)
      · refine (e_alloc inf_78 (l := [.int .i64 0, .slice none 0 0, .slice none 0 0]) rfl rfl fun b7 => ?_)
        refine d_held (.cons _ (.cons _ (.refl _))) ?_
        refine d_eff 14 rfl rfl (by kernel_rfl) (e_make (zs := [.int .i64 0, .int .i64 0, .bool false, .int .i64 0]) Tryz.underlying76 inf_81 rfl (by decide) (m := 3) rfl (by decide) (by decide) rfl fun b88 => ?_)
        refine d_held (.cons _ (.cons _ (.cons _ (.refl _)))) ?_
        refine d_val 15 rfl (by kernel_rfl) (by kernel_rfl) (by kernel_rfl) (.then (.then (.inBlock (.then (.then (.inBlock (.then .body))))))) (.cons _ (.cons _ (.cons _ (.refl _)))) rfl (r_build rfl (v := .agg #[.int .i64 0, .slice (some ⟨b86, 0, none⟩) 1 1, .slice (some ⟨b88, 0, none⟩) 3 3]) (fun w => by kernel_rfl)) ?_
        refine d_eff 17 rfl rfl (by kernel_rfl) (e_stores iz_78 rfl rfl (vs := [_, _, _]) rfl rfl (by simp [Value.oneCell']) (.cons .zero (.cons (.succ .zero) (.cons (.succ (.succ .zero)) .nil))) (.there .here) ?_)
        refine d_held (.cons _ (.cons _ (.cons _ (.refl _)))) ?_
        refine d_end (by kernel_rfl) ?_
        exact t_thenX (hK ⟨b7, b86, b88⟩ trivial) ⟨rfl, rfl, rfl, rfl, rfl, trivial⟩ (pk (.there .here) (pk (.there .here) (pk .here (.refl _)))) (.refl _)
    · refine (e_make (zs := [.int .i64 0, .int .i64 0, .bool false, .int .i64 0]) Tryz.underlying76 inf_81 rfl (by decide) (m := 3) rfl (by decide) (by decide) rfl fun b88 => ?_)
      refine d_held (.cons _ (.refl _)) ?_
      refine d_eff2 12 16 rfl rfl  rfl rfl  (by kernel_rfl) ?_ ?_
      · refine (e_make (zs := [.int .i64 0]) Tryz.underlying36 inf_3 rfl (by decide) (m := 1) rfl (by decide) (by decide) rfl fun b86 => ?_)
        refine d_held (.cons _ (.cons _ (.refl _))) ?_
        refine d_val 15 rfl (by kernel_rfl) (by kernel_rfl) (by kernel_rfl) (.then (.then (.inBlock (.then (.then (.inBlock (.then .body))))))) (.cons _ (.cons _ (.refl _))) rfl (r_build rfl (v := .agg #[.int .i64 0, .slice (some ⟨b86, 0, none⟩) 1 1, .slice (some ⟨b88, 0, none⟩) 3 3]) (fun w => by kernel_rfl)) ?_
        refine d_eff 16 rfl rfl (by kernel_rfl) (e_alloc inf_78 (l := [.int .i64 0, .slice none 0 0, .slice none 0 0]) rfl rfl fun b7 => ?_)
        refine d_held (.cons _ (.cons _ (.cons _ (.refl _)))) ?_
        refine d_eff 17 rfl rfl (by kernel_rfl) (e_stores iz_78 rfl rfl (vs := [_, _, _]) rfl rfl (by simp [Value.oneCell']) (.cons .zero (.cons (.succ .zero) (.cons (.succ (.succ .zero)) .nil))) .here ?_)
        refine d_held (.cons _ (.cons _ (.cons _ (.refl _)))) ?_
        refine d_end (by kernel_rfl) ?_
        exact t_thenX (hK ⟨b7, b86, b88⟩ trivial) ⟨rfl, rfl, rfl, rfl, rfl, trivial⟩ (pk .here (pk .here (pk .here (.refl _)))) (.refl _)
      · refine (e_alloc inf_78 (l := [.int .i64 0, .slice none 0 0, .slice none 0 0]) rfl rfl fun b7 => ?_)
        refine d_held (.cons _ (.cons _ (.refl _))) ?_
        refine d_eff 12 rfl rfl (by kernel_rfl) (e_make (zs := [.int .i64 0]) Tryz.underlying36 inf_3 rfl (by decide) (m := 1) rfl (by decide) (by decide) rfl fun b86 => ?_)
        refine d_held (.cons _ (.cons _ (.cons _ (.refl _)))) ?_
        refine d_val 15 rfl (by kernel_rfl) (by kernel_rfl) (by kernel_rfl) (.then (.then (.inBlock (.then (.then (.inBlock (.then .body))))))) (.cons _ (.cons _ (.cons _ (.refl _)))) rfl (r_build rfl (v := .agg #[.int .i64 0, .slice (some ⟨b86, 0, none⟩) 1 1, .slice (some ⟨b88, 0, none⟩) 3 3]) (fun w => by kernel_rfl)) ?_
        refine d_eff 17 rfl rfl (by kernel_rfl) (e_stores iz_78 rfl rfl (vs := [_, _, _]) rfl rfl (by simp [Value.oneCell']) (.cons .zero (.cons (.succ .zero) (.cons (.succ (.succ .zero)) .nil))) (.there .here) ?_)
        refine d_held (.cons _ (.cons _ (.cons _ (.refl _)))) ?_
        refine d_end (by kernel_rfl) ?_
        exact t_thenX (hK ⟨b7, b86, b88⟩ trivial) ⟨rfl, rfl, rfl, rfl, rfl, trivial⟩ (pk (.there .here) (pk .here (pk .here (.refl _)))) (.refl _)
    · refine (e_alloc inf_78 (l := [.int .i64 0, .slice none 0 0, .slice none 0 0]) rfl rfl fun b7 => ?_)
      refine d_held (.cons _ (.refl _)) ?_
      refine d_eff2 12 14 rfl rfl  rfl rfl  (by kernel_rfl) ?_ ?_
      · refine (e_make (zs := [.int .i64 0]) Tryz.underlying36 inf_3 rfl (by decide) (m := 1) rfl (by decide) (by decide) rfl fun b86 => ?_)
        refine d_held (.cons _ (.cons _ (.refl _))) ?_
        refine d_eff 14 rfl rfl (by kernel_rfl) (e_make (zs := [.int .i64 0, .int .i64 0, .bool false, .int .i64 0]) Tryz.underlying76 inf_81 rfl (by decide) (m := 3) rfl (by decide) (by decide) rfl fun b88 => ?_)
        refine d_held (.cons _ (.cons _ (.cons _ (.refl _)))) ?_
        refine d_val 15 rfl (by kernel_rfl) (by kernel_rfl) (by kernel_rfl) (.then (.then (.inBlock (.then (.then (.inBlock (.then .body))))))) (.cons _ (.cons _ (.cons _ (.refl _)))) rfl (r_build rfl (v := .agg #[.int .i64 0, .slice (some ⟨b86, 0, none⟩) 1 1, .slice (some ⟨b88, 0, none⟩) 3 3]) (fun w => by kernel_rfl)) ?_
        refine d_eff 17 rfl rfl (by kernel_rfl) (e_stores iz_78 rfl rfl (vs := [_, _, _]) rfl rfl (by simp [Value.oneCell']) (.cons .zero (.cons (.succ .zero) (.cons (.succ (.succ .zero)) .nil))) (.there (.there .here)) ?_)
        refine d_held (.cons _ (.cons _ (.cons _ (.refl _)))) ?_
        refine d_end (by kernel_rfl) ?_
        exact t_thenX (hK ⟨b7, b86, b88⟩ trivial) ⟨rfl, rfl, rfl, rfl, rfl, trivial⟩ (pk (.there (.there .here)) (pk (.there .here) (pk .here (.refl _)))) (.refl _)
      · refine (e_make (zs := [.int .i64 0, .int .i64 0, .bool false, .int .i64 0]) Tryz.underlying76 inf_81 rfl (by decide) (m := 3) rfl (by decide) (by decide) rfl fun b88 => ?_)
        refine d_held (.cons _ (.cons _ (.refl _))) ?_
        refine d_eff 12 rfl rfl (by kernel_rfl) (e_make (zs := [.int .i64 0]) Tryz.underlying36 inf_3 rfl (by decide) (m := 1) rfl (by decide) (by decide) rfl fun b86 => ?_)
        refine d_held (.cons _ (.cons _ (.cons _ (.refl _)))) ?_
        refine d_val 15 rfl (by kernel_rfl) (by kernel_rfl) (by kernel_rfl) (.then (.then (.inBlock (.then (.then (.inBlock (.then .body))))))) (.cons _ (.cons _ (.cons _ (.refl _)))) rfl (r_build rfl (v := .agg #[.int .i64 0, .slice (some ⟨b86, 0, none⟩) 1 1, .slice (some ⟨b88, 0, none⟩) 3 3]) (fun w => by kernel_rfl)) ?_
        refine d_eff 17 rfl rfl (by kernel_rfl) (e_stores iz_78 rfl rfl (vs := [_, _, _]) rfl rfl (by simp [Value.oneCell']) (.cons .zero (.cons (.succ .zero) (.cons (.succ (.succ .zero)) .nil))) (.there (.there .here)) ?_)
        refine d_held (.cons _ (.cons _ (.cons _ (.refl _)))) ?_
        refine d_end (by kernel_rfl) ?_
        exact t_thenX (hK ⟨b7, b86, b88⟩ trivial) ⟨rfl, rfl, rfl, rfl, rfl, trivial⟩ (pk (.there (.there .here)) (pk .here (pk .here (.refl _)))) (.refl _)
  intro x _
  simp only [List.cons_append, List.nil_append]
  refine Tr.keep (env' := [(5, _), (6, _), (7, _), (71, _), (72, _)]) ⟨rfl, rfl, rfl, rfl, rfl, trivial⟩ ?_
  refine t_then ?_
  refine t_seq ?_
  refine t_seq ?_
  refine t_region ?_
  refine t_val (r_fa fo_78_2 rfl) rfl ?_
  refine t_val (r_load ca_76 rfl (rd_m (.head _) rfl)) rfl ?_
  refine t_val (r_len_slice Tryz.underlying76 rfl) rfl ?_
  refine t_val (r_move rfl) rfl ?_
  refine t_nil ?_
  refine Tr.keep (env' := [(5, _), (6, _), (7, _), (71, _), (72, _), (92, _), (93, _)]) ⟨rfl, rfl, rfl, rfl, rfl, rfl, rfl, trivial⟩ ?_
  refine t_then ?_
  refine t_block ?_
  refine t_unroll0 ?_
  refine t_unroll ?_
  refine t_seq ?_
  refine t_region ?_
  refine t_val (r_lt rfl rfl) rfl ?_
  refine t_nil ?_
  refine Tr.keep (env' := [(5, _), (6, _), (7, _), (71, _), (72, _), (92, _), (93, _), (94, _)]) ⟨rfl, rfl, rfl, rfl, rfl, rfl, rfl, rfl, trivial⟩ ?_
  refine t_then ?_
  refine t_seq ?_
  refine t_cond_t rfl ?_
  refine t_skip ?_
  refine t_then ?_
  refine t_seq ?_
  refine t_block ?_
  refine t_seq ?_
  refine t_region ?_
  refine t_val (r_move rfl) rfl ?_
  refine t_val (r_assign rfl) rfl ?_
  refine t_nil ?_
  refine Tr.keep (env' := [(5, _), (6, _), (7, _), (8, _), (71, _), (72, _), (92, _), (93, _)]) ⟨rfl, rfl, rfl, rfl, rfl, rfl, rfl, rfl, trivial⟩ ?_
  refine t_then ?_
  refine t_region ?_
  refine t_val (r_fa fo_78_2 rfl) rfl ?_
  refine t_val (r_load ca_76 rfl (rd_m (.head _) rfl)) rfl ?_
  refine t_val (r_move rfl) rfl ?_
  refine t_val (r_ia (j := 0) Tryz.underlying76 iz_81 rfl rfl rfl (by decide)) rfl ?_
  refine t_val (r_fa fo_81_3 rfl) rfl ?_
  refine t_eff rfl (e_store iz_79 rfl rfl rfl (.succ (.succ (.succ .zero))) (.there (.there .here)) ?_)
  refine t_nil ?_
  refine Tr.keep (env' := [(5, _), (6, _), (7, _), (71, _), (72, _), (92, _), (93, _)]) ⟨rfl, rfl, rfl, rfl, rfl, rfl, rfl, trivial⟩ ?_
  refine t_in ?_
  refine t_then ?_
  refine t_region ?_
  refine t_val (r_addi rfl rfl (by omega)) rfl ?_
  refine t_val (r_move rfl) rfl ?_
  refine t_nil ?_
  refine Tr.keep (env' := [(5, _), (6, _), (7, _), (71, _), (72, _), (92, _), (93, _)]) ⟨rfl, rfl, rfl, rfl, rfl, rfl, rfl, trivial⟩ ?_
  refine t_then ?_
  refine t_unroll ?_
  refine t_seq ?_
  refine t_region ?_
  refine t_val (r_lt rfl rfl) rfl ?_
  refine t_nil ?_
  refine Tr.keep (env' := [(5, _), (6, _), (7, _), (71, _), (72, _), (92, _), (93, _), (94, _)]) ⟨rfl, rfl, rfl, rfl, rfl, rfl, rfl, rfl, trivial⟩ ?_
  refine t_then ?_
  refine t_seq ?_
  refine t_cond_t rfl ?_
  refine t_skip ?_
  refine t_then ?_
  refine t_seq ?_
  refine t_block ?_
  refine t_seq ?_
  refine t_region ?_
  refine t_val (r_move rfl) rfl ?_
  refine t_val (r_assign rfl) rfl ?_
  refine t_nil ?_
  refine Tr.keep (env' := [(5, _), (6, _), (7, _), (8, _), (71, _), (72, _), (92, _), (93, _)]) ⟨rfl, rfl, rfl, rfl, rfl, rfl, rfl, rfl, trivial⟩ ?_
  refine t_then ?_
  refine t_region ?_
  refine t_val (r_fa fo_78_2 rfl) rfl ?_
  refine t_val (r_load ca_76 rfl (rd_m (.head _) rfl)) rfl ?_
  refine t_val (r_move rfl) rfl ?_
  refine t_val (r_ia (j := 1) Tryz.underlying76 iz_81 rfl rfl rfl (by decide)) rfl ?_
  refine t_val (r_fa fo_81_3 rfl) rfl ?_
  refine t_eff rfl (e_store iz_79 rfl rfl rfl (.succ (.succ (.succ (.succ (.succ (.succ (.succ .zero))))))) (.there (.there .here)) ?_)
  refine t_nil ?_
  refine Tr.keep (env' := [(5, _), (6, _), (7, _), (71, _), (72, _), (92, _), (93, _)]) ⟨rfl, rfl, rfl, rfl, rfl, rfl, rfl, trivial⟩ ?_
  refine t_in ?_
  refine t_then ?_
  refine t_region ?_
  refine t_val (r_addi rfl rfl (by omega)) rfl ?_
  refine t_val (r_move rfl) rfl ?_
  refine t_nil ?_
  refine Tr.keep (env' := [(5, _), (6, _), (7, _), (71, _), (72, _), (92, _), (93, _)]) ⟨rfl, rfl, rfl, rfl, rfl, rfl, rfl, trivial⟩ ?_
  refine t_then ?_
  refine t_unroll ?_
  refine t_seq ?_
  refine t_region ?_
  refine t_val (r_lt rfl rfl) rfl ?_
  refine t_nil ?_
  refine Tr.keep (env' := [(5, _), (6, _), (7, _), (71, _), (72, _), (92, _), (93, _), (94, _)]) ⟨rfl, rfl, rfl, rfl, rfl, rfl, rfl, rfl, trivial⟩ ?_
  refine t_then ?_
  refine t_seq ?_
  refine t_cond_t rfl ?_
  refine t_skip ?_
  refine t_then ?_
  refine t_seq ?_
  refine t_block ?_
  refine t_seq ?_
  refine t_region ?_
  refine t_val (r_move rfl) rfl ?_
  refine t_val (r_assign rfl) rfl ?_
  refine t_nil ?_
  refine Tr.keep (env' := [(5, _), (6, _), (7, _), (8, _), (71, _), (72, _), (92, _), (93, _)]) ⟨rfl, rfl, rfl, rfl, rfl, rfl, rfl, rfl, trivial⟩ ?_
  refine t_then ?_
  refine t_region ?_
  refine t_val (r_fa fo_78_2 rfl) rfl ?_
  refine t_val (r_load ca_76 rfl (rd_m (.head _) rfl)) rfl ?_
  refine t_val (r_move rfl) rfl ?_
  refine t_val (r_ia (j := 2) Tryz.underlying76 iz_81 rfl rfl rfl (by decide)) rfl ?_
  refine t_val (r_fa fo_81_3 rfl) rfl ?_
  refine t_eff rfl (e_store iz_79 rfl rfl rfl (.succ (.succ (.succ (.succ (.succ (.succ (.succ (.succ (.succ (.succ (.succ .zero))))))))))) (.there (.there .here)) ?_)
  refine t_nil ?_
  refine Tr.keep (env' := [(5, _), (6, _), (7, _), (71, _), (72, _), (92, _), (93, _)]) ⟨rfl, rfl, rfl, rfl, rfl, rfl, rfl, trivial⟩ ?_
  refine t_in ?_
  refine t_then ?_
  refine t_region ?_
  refine t_val (r_addi rfl rfl (by omega)) rfl ?_
  refine t_val (r_move rfl) rfl ?_
  refine t_nil ?_
  refine Tr.keep (env' := [(5, _), (6, _), (7, _), (71, _), (72, _), (92, _), (93, _)]) ⟨rfl, rfl, rfl, rfl, rfl, rfl, rfl, trivial⟩ ?_
  refine t_then ?_
  refine t_unroll ?_
  refine t_seq ?_
  refine t_region ?_
  refine t_val (r_lt rfl rfl) rfl ?_
  refine t_nil ?_
  refine Tr.keep (env' := [(5, _), (6, _), (7, _), (71, _), (72, _), (92, _), (93, _), (94, _)]) ⟨rfl, rfl, rfl, rfl, rfl, rfl, rfl, rfl, trivial⟩ ?_
  refine t_then ?_
  refine t_seq ?_
  refine t_cond_f rfl ?_
  refine t_exit ?_
  refine t_then_exit ?_
  refine t_then_exit ?_
  refine t_in_hit ?_
  refine t_then ?_
  refine k_begin 10 (.cons_cons _ (.cons_cons _ (.cons_cons _ (.cons_cons _ (.cons_cons _ (List.Sublist.append (.refl _) (List.Sublist.append (.refl _) (.cons_cons _ (.cons_cons _ (.cons_cons _ (.cons_cons _ (.cons _ (.refl _))))))))))))) mixed rfl ?_
  refine k_val1 0 rfl (by kernel_rfl) (by kernel_rfl) (by kernel_rfl) rfl (by kernel_rfl) (.cons_cons _ (.cons_cons _ (.cons_cons _ (.cons_cons _ (.cons_cons _ (List.Sublist.append (.refl _) (List.Sublist.append (.refl _) (.cons_cons _ (.cons_cons _ (.cons_cons _ (.cons_cons _ (.cons _ (.refl _))))))))))))) (.inBlock (.then (.then (.inBlock (.then .body))))) (.refl _) rfl (r_move rfl) ?_
  refine k_val1 1 rfl (by kernel_rfl) (by kernel_rfl) (by kernel_rfl) rfl (by kernel_rfl) (.cons_cons _ (.cons_cons _ (.cons_cons _ (.cons_cons _ (.cons_cons _ (List.Sublist.append (.refl _) (List.Sublist.append (.refl _) (.cons_cons _ (.cons_cons _ (.cons_cons _ (.cons_cons _ (.cons _ (.refl _))))))))))))) (.inBlock (.then (.then (.inBlock (.then .body))))) (.refl _) rfl (r_move rfl) ?_
  refine k_val1 2 rfl (by kernel_rfl) (by kernel_rfl) (by kernel_rfl) rfl (by kernel_rfl) (.cons_cons _ (.cons_cons _ (.cons_cons _ (.cons_cons _ (.cons_cons _ (List.Sublist.append (.refl _) (List.Sublist.append (.refl _) (.cons_cons _ (.cons_cons _ (.cons_cons _ (.cons_cons _ (.cons _ (.refl _))))))))))))) (.inBlock (.then (.then (.inBlock (.then .body))))) (.refl _) rfl (r_nilCheck rfl) ?_
  refine k_val1 3 rfl (by kernel_rfl) (by kernel_rfl) (by kernel_rfl) rfl (by kernel_rfl) (.cons_cons _ (.cons_cons _ (.cons_cons _ (.cons_cons _ (.cons_cons _ (List.Sublist.append (.refl _) (List.Sublist.append (.refl _) (.cons_cons _ (.cons_cons _ (.cons_cons _ (.cons_cons _ (.cons _ (.refl _))))))))))))) (.inBlock (.then (.then (.inBlock (.then .body))))) (.refl _) rfl (r_fa fo_56_4 rfl) ?_
  refine k_val 4 rfl (by kernel_rfl) (by kernel_rfl) (by kernel_rfl) rfl (by kernel_rfl) (by kernel_rfl) (.inBlock (.then (.then (.inBlock (.then .body))))) (.refl _) rfl (r_load ca_54 rfl (rd_m (.tail _ (.tail _ (.tail _ (.tail _ (.tail _ (List.mem_append_right _ (List.mem_append_right _ (.tail _ (.tail _ (.tail _ (.tail _ (.head _)))))))))))) rfl)) ?_
  refine k_val1 5 rfl (by kernel_rfl) (by kernel_rfl) (by kernel_rfl) rfl (by kernel_rfl) (.cons_cons _ (.cons_cons _ (.cons_cons _ (.cons_cons _ (.cons_cons _ (List.Sublist.append (.refl _) (List.Sublist.append (.refl _) (.cons_cons _ (.cons_cons _ (.cons_cons _ (.cons_cons _ (.cons _ (.refl _))))))))))))) (.inBlock (.then (.then (.inBlock (.then .body))))) (.refl _) rfl (r_loads ca_78 rfl (rds_m (n := 3) (vs := [_, _, _]) (.head _) rfl) rfl) ?_
  refine k_eff 6 rfl rfl (by kernel_rfl) (e_buildSlice (E := 78) (l := [.int .i64 0, .slice (some ⟨x.2.1, 0, none⟩) 1 1, .slice (some ⟨x.2.2, 0, none⟩) 3 3]) rfl (fun w => by kernel_rfl) rfl fun b108 => ?_)
  refine k_held1 (by kernel_rfl) (.cons _ (.refl _)) ?_
  refine k_eff 7 rfl rfl (by kernel_rfl) (e_append Tryz.underlying54 inf_78 rfl (by decide) rfl rfl (Own.nil 78 3) (.refl _) rfl (by simp [Value.oneCell']) (by decide) (by decide) rfl fun v1 E1 hO1 => ?_)
  refine k_held1 (by kernel_rfl) (List.Sublist.trans (.refl _) (List.sublist_append_right _ _)) ?_
  refine k_val1 8 rfl (by kernel_rfl) (by kernel_rfl) (by kernel_rfl) rfl (by kernel_rfl) (.cons_cons _ (.cons_cons _ (.cons_cons _ (.cons_cons _ (.cons_cons _ (List.Sublist.append (.refl _) (List.Sublist.append (.refl _) (.cons_cons _ (.cons_cons _ (.cons_cons _ (.cons_cons _ (.cons _ (.refl _))))))))))))) (.inBlock (.then (.then (.inBlock (.then .body))))) (List.Sublist.trans (.refl _) (List.sublist_append_right _ _)) rfl (r_nilCheck rfl) ?_
  refine k_val1 9 rfl (by kernel_rfl) (by kernel_rfl) (by kernel_rfl) rfl (by kernel_rfl) (.cons_cons _ (.cons_cons _ (.cons_cons _ (.cons_cons _ (.cons_cons _ (List.Sublist.append (.refl _) (List.Sublist.append (.refl _) (.cons_cons _ (.cons_cons _ (.cons_cons _ (.cons_cons _ (.cons _ (.refl _))))))))))))) (.inBlock (.then (.then (.inBlock (.then .body))))) (List.Sublist.trans (.refl _) (List.sublist_append_right _ _)) rfl (r_fa fo_56_4 rfl) ?_
  refine k_eff 10 rfl rfl (by kernel_rfl) (e_store iz_54 rfl rfl (Own.one hO1) (.succ (.succ (.succ (.succ (.succ (.succ (.succ (.succ (.succ (.succ (.succ (.succ (.succ (.succ (.succ (.succ (.succ (.succ (.succ (.succ (.succ (.succ (.succ (.succ (.succ (.succ (.succ (.succ (.succ (.succ (.succ (.succ (.succ .zero))))))))))))))))))))))))))))))))) (.right (.there (.there (.there (.there (.there (.right (.right (.there (.there (.there (.there .here)))))))))))) ?_)
  refine k_held2 (by kernel_rfl) (List.Sublist.trans (.cons_cons _ (.cons_cons _ (.cons_cons _ (.cons_cons _ (.cons_cons _ (List.Sublist.append (.refl _) (List.Sublist.append (.refl _) (.cons_cons _ (.cons_cons _ (.cons_cons _ (.cons_cons _ (.cons _ (.refl _))))))))))))) (List.sublist_append_right _ _)) ?_
  refine k_end (by kernel_rfl) ?_
  refine Tr.keep (env' := [(5, _), (6, _), (71, _), (72, _)]) ⟨rfl, rfl, rfl, rfl, trivial⟩ ?_
  refine t_in ?_
  refine t_then ?_
  refine t_region ?_
  refine t_val (r_addi rfl rfl (by omega)) rfl ?_
  refine t_val (r_move rfl) rfl ?_
  refine t_nil ?_
  refine Tr.keep (env' := [(5, _), (6, _), (71, _), (72, _)]) ⟨rfl, rfl, rfl, rfl, trivial⟩ ?_
  refine t_then ?_
  refine t_unroll ?_
  refine t_seq ?_
  refine t_region ?_
  refine t_val (r_lt rfl rfl) rfl ?_
  refine t_nil ?_
  refine Tr.keep (env' := [(5, _), (6, _), (71, _), (72, _), (73, _)]) ⟨rfl, rfl, rfl, rfl, rfl, trivial⟩ ?_
  refine t_then ?_
  refine t_seq ?_
  refine t_cond_f rfl ?_
  refine t_exit ?_
  refine t_then_exit ?_
  refine t_then_exit ?_
  refine t_in_hit ?_
  refine t_then ?_
  refine t_seq ?_
  refine t_region ?_
  refine t_val (r_move rfl) rfl ?_
  refine t_val (r_assign rfl) rfl ?_
  refine t_val (r_assign rfl) rfl ?_
  refine t_nil ?_
  refine Tr.keep (env' := [(2, _), (3, _)]) ⟨rfl, rfl, trivial⟩ ?_
  refine t_then ?_
  refine t_retc ?_
  refine t_ret2 rfl rfl rfl (fun w hw => ?_)
  obtain ⟨sC, hv, hE⟩ := own_sl hO1 rfl (Nat.succ_pos _)
  subst hv hE
  exact ⟨⟨b17, sa, gl, wl, cb, sC, ⟨x.2.1, 1, []⟩, ⟨x.2.2, 3, []⟩⟩, rfl, hwl, Ok.sub (hw.perm (pk (.there (.there (.there (.there (.there (.there (.right (.right (.there (.there (.there (.there .here)))))))))))) (pk .here (pk (.there .here) (pk (.there .here) (pk (.there (.there (.there (.right (.right .here))))) (pk (.there (.there (.there (.right (.right .here))))) (pk (.there (.there (.there (.right (.right .here))))) (pk (.there (.there (.there (.right (.right .here))))) (pk (.there .here) (pk (.there .here) (pkb (.there .here) (pkb (.there .here) (pk (.there .here) (pk (.there .here) (pk (.there .here) (pk (.there .here) (pk (.there .here) (pk (.there .here) (pk (.there .here) (.refl _))))))))))))))))))))) (.cons_cons _ (.cons_cons _ (.cons_cons _ (.cons_cons _ (.cons_cons _ (.cons_cons _ (.cons_cons _ (.cons_cons _ (.cons_cons _ (.cons_cons _ (List.Sublist.append (.refl _) (List.Sublist.append (.refl _) (.cons_cons _ (.cons_cons _ (.cons_cons _ (.cons_cons _ (.cons_cons _ (.cons_cons _ (.cons_cons _ (.cons _ (.cons _ (.refl _))))))))))))))))))))))⟩
end
end Go.Proofs.W
set_option linter.unusedVariables false
set_option linter.unusedSimpArgs false
set_option linter.unusedSectionVars false
set_option maxRecDepth 100000
namespace Go.Proofs.W
open Go Go.Sl Go.RowKit Go.Proofs
attribute [local irreducible] Go.Sl.Eff
theorem en_25 : Enters Tryz.prog 25 := enters_of Tryz.func25 (by kernel_rfl) (by kernel_rfl)
section
variable {w0 : World} {M : List Ent}
theorem b_of {b c : Bool} (h : b = c) : some (Value.bool b) = some (.bool c) := by rw [h]
abbrev refused (e : Int) : List PanicEntry := [{ v := .iface 172 (.agg #[.int .i64 e]), recovered := false }]
theorem need_ok : ∀ w, Ok w0 M w → Calls Tryz.prog 212 #[.int .i64 0] w (fun e w' => e = .returned (.tuple #[]) ∧ Ok w0 M w') := by
  refine enter (vs := [_]) Tryz.func212 rfl Tryz.ntmps212 rfl ?_
  refine t_seq ?_
  refine t_region ?_
  refine t_val (r_move rfl) rfl ?_
  refine t_val (r_ne rfl rfl) rfl ?_
  refine t_nil ?_
  refine Tr.keep (env' := [(0, _), (3, _)]) ⟨rfl, rfl, trivial⟩ ?_
  refine t_then ?_
  refine t_cond_f rfl ?_
  refine t_skip ?_
  refine t_end0 rfl (fun w hw => ?_)
  exact ⟨rfl, hw⟩
theorem need_no (x : Int) (hx : x ≠ 0) : ∀ w, Ok w0 M w → Calls Tryz.prog 212 #[.int .i64 x] w (fun e w' => e = .panicked (refused x) ∧ Ok w0 M w') := by
  refine enter (vs := [_]) Tryz.func212 rfl Tryz.ntmps212 rfl ?_
  refine t_seq ?_
  refine t_region ?_
  refine t_val (r_move rfl) rfl ?_
  refine t_val (r_ne rfl rfl) rfl ?_
  refine t_nil ?_
  refine Tr.keep (env' := [(0, _), (3, _)]) ⟨rfl, rfl, trivial⟩ ?_
  refine t_then ?_
  refine t_cond_t (b_of (by simp [hx])) ?_
  refine t_region ?_
  refine t_val (r_move rfl) rfl ?_
  refine t_val (r_build rfl (v := .agg #[.int .i64 x]) (fun w => by kernel_rfl)) rfl ?_
  refine t_val (r_makeInterface Tryz.underlying172 (by simp) rfl) rfl ?_
  refine t_eff rfl (e_panic rfl ?_)
  exact t_panic_end (fun w hw => ⟨rfl, hw⟩)
theorem car_c {e' : EvAt} {lv : Value} (h : e'.ev lv ∈ M) : ∀ w, Ok w0 M w → Calls Tryz.prog 214 #[.pointer (some ⟨e'.eb, 0, none⟩), .int .i64 1] w (fun e w' => e = .returned (.int .i64 0) ∧ Ok w0 M w') := by
  refine enter (vs := [_, _]) Tryz.func214 rfl Tryz.ntmps214 rfl ?_
  refine t_seq ?_
  refine t_region ?_
  refine t_val (r_assign rfl) rfl ?_
  refine t_nil ?_
  refine Tr.keep (env' := [(0, _), (1, _)]) ⟨rfl, rfl, trivial⟩ ?_
  refine t_then ?_
  refine t_seq ?_
  refine t_seq ?_
  refine t_region ?_
  refine t_val (r_move rfl) rfl ?_
  refine t_val (r_move rfl) rfl ?_
  refine t_val (r_nilCheck rfl) rfl ?_
  refine t_val (r_fa fo_56_0 rfl) rfl ?_
  refine t_val (r_fa fo_50_1 rfl) rfl ?_
  refine t_val (r_fa fo_38_0 rfl) rfl ?_
  refine t_val (r_load ca_3 rfl (rd_m h rfl)) rfl ?_
  refine t_eff rfl (e_pcall en_25 rfl rfl rfl rfl (rally_within_c _ _ _) ?_)
  refine t_val (r_not rfl) rfl ?_
  refine t_nil ?_
  refine Tr.keep (env' := [(1, _), (13, _)]) ⟨rfl, rfl, trivial⟩ ?_
  refine t_then ?_
  refine t_cond_f rfl ?_
  refine t_skip ?_
  refine t_then ?_
  refine t_seq ?_
  refine t_region ?_
  refine t_val (r_move rfl) rfl ?_
  refine t_val (r_subi rfl rfl (by omega)) rfl ?_
  refine t_val (r_assign rfl) rfl ?_
  refine t_nil ?_
  refine Tr.keep (env' := [(4, _)]) ⟨rfl, trivial⟩ ?_
  refine t_then ?_
  refine t_retc ?_
  refine t_ret1 rfl rfl (fun w hw => ?_)
  exact ⟨rfl, hw⟩
end
end Go.Proofs.W
set_option linter.unusedVariables false
set_option linter.unusedSimpArgs false
set_option linter.unusedSectionVars false
set_option maxRecDepth 100000
namespace Go.Proofs.W
open Go Go.Sl Go.RowKit Go.Proofs
section
variable {w0 : World} {N : Nat} {ds : List Deferred} {env : Env} {M : List Ent}
theorem r_to {P : Program} {o : Op} {t : TypeId} {v v2 : Value} (h : Run P w0 N ds env M o t v) (e : v = v2) : Run P w0 N ds env M o t v2 := e ▸ h
theorem i32_in {n : Int} (h : -2147483648 ≤ n ∧ n ≤ 2147483647) : IntKind.i32.wrap n = n := by
  rw [IntKind.wrap_i32]; omega
def numAt (s : ByteArray) : Nat → Int
  | 0 => 0
  | p + 1 => 10 * numAt s p + (((s.get! p).toNat : Int) - 48)
def Digits (s : ByteArray) : Prop := ∀ p, p < s.size → 48 ≤ (s.get! p).toNat ∧ (s.get! p).toNat ≤ 57
theorem numAt_in {s : ByteArray} (hd : Digits s) : ∀ p, p ≤ s.size → 0 ≤ numAt s p ∧ numAt s p < 10 ^ p
  | 0, _ => by simp [numAt]
  | p + 1, h => by
    have h1 := numAt_in hd p (by omega)
    have h2 := hd p (by omega)
    simp only [numAt, Int.pow_succ]
    omega
theorem numAt_le {s : ByteArray} (hd : Digits s) (hs : s.size ≤ 15) (p : Nat) (hp : p ≤ s.size) : 0 ≤ numAt s p ∧ numAt s p ≤ 999999999999999 := by
  have h := numAt_in hd p hp
  have h2 : (10 : Int) ^ p ≤ 10 ^ 15 := by exact_mod_cast Nat.pow_le_pow_right (by decide) (by omega : p ≤ 15)
  have h3 : (10 : Int) ^ 15 = 1000000000000000 := by decide
  omega
def numOk (s : ByteArray) : Bool := s.size != 0 && ((s.get! 0).toNat != 48 || s.size == 1)
theorem get_ix (s : ByteArray) (p : Nat) (h : p < s.size) : s.get! p = s[p]'h := by
  simp [ByteArray.get!, getElem!_pos, h]
  rfl
theorem nonempty {s : ByteArray} {b : Bool} (h : ((!decide (s = ⟨#[]⟩)) && b) = true) : 0 < s.size := by
  rcases Nat.eq_zero_or_pos s.size with h0 | h0
  · have : s = ⟨#[]⟩ := by
      cases s with | mk d => simp [ByteArray.size] at h0; simp [h0]
    simp [this] at h
  · exact h0
theorem num_ok {s : ByteArray} (h : numAt s s.size ≤ 999999999999999) :
    ((!decide (s = ⟨#[]⟩)) && decide (numAt s s.size ≤ 1000000000000000) && (((s.get! 0).toNat : Int) != 48 || (s.size : Int) == 1)) = numOk s := by
  have h1 : decide (numAt s s.size ≤ 1000000000000000) = true := by simp; omega
  have h2 : decide (s = ⟨#[]⟩) = (s.size == 0) := by
    rcases Nat.eq_zero_or_pos s.size with h0 | h0
    · have : s = ⟨#[]⟩ := by cases s with | mk d => simp [ByteArray.size] at h0; simp [h0]
      subst this; rfl
    · have : s ≠ ⟨#[]⟩ := by intro e; subst e; simp [ByteArray.size] at h0
      have h5 : (s.size == 0) = false := by rw [beq_eq_false_iff_ne]; omega
      rw [h5]; simp [this]
  have h3 : (((s.get! 0).toNat : Int) != 48) = ((s.get! 0).toNat != 48) := by
    rw [Bool.eq_iff_iff]; simp; omega
  have h4 : ((s.size : Int) == 1) = (s.size == 1) := by
    rw [Bool.eq_iff_iff]; simp; omega
  rw [h1, h2, h3, h4]
  simp [numOk, bne]
theorem get0 {s : ByteArray} (h : 0 < s.size) : s[0]? = some (s.get! 0) := by
  rw [get_ix s 0 h]; simp [h]
theorem number_c (s : ByteArray) (hd : Digits s) (hs : s.size ≤ 15) : ∀ w, Ok w0 M w → Calls Tryz.prog 268 #[.string s] w (fun e w' => e = .returned (.tuple #[.int .i64 (numAt s s.size), .bool (numOk s)]) ∧ Ok w0 M w') := by
  refine enter (vs := [_]) Tryz.func268 rfl Tryz.ntmps268 rfl ?_
  refine t_seq ?_
  refine t_region ?_
  refine t_val (r_assign rfl) rfl ?_
  refine t_val (r_assign rfl) rfl ?_
  refine t_nil ?_
  refine Tr.keep (env' := [(0, _)]) ⟨rfl, trivial⟩ ?_
  refine t_then ?_
  refine t_seq ?_
  refine t_region ?_
  refine t_val (r_assign rfl) rfl ?_
  refine t_nil ?_
  refine Tr.keep (env' := [(0, _), (4, _)]) ⟨rfl, rfl, trivial⟩ ?_
  refine t_then ?_
  refine t_seq ?_
  refine t_seq ?_
  refine t_region ?_
  refine t_val (r_move rfl) rfl ?_
  refine t_eff rfl (e_rangeS Tryz.underlying9 rfl rfl fun b8 => ?_)
  refine t_nil ?_
  refine Tr.keep (env' := [(0, _), (4, _), (8, _)]) ⟨rfl, rfl, rfl, trivial⟩ ?_
  refine t_then ?_
  refine t_block ?_
  refine t_loop (fun p : Nat => [(0, .string s), (4, .int .i64 (numAt s p)), (8, .pointer (some ⟨b8, 0, none⟩))]) (fun p : Nat => stE b8 s p :: M) (fun p : Nat => p ≤ s.size) (fun p : Nat => s.size - p) 0 (Nat.zero_le _) ⟨rfl, rfl, rfl, trivial⟩ (.refl _) ?_
  intro K p hp IH
  refine t_seq ?_
  refine t_region ?_
  refine t_eff rfl (e_nextS rfl rfl (fun q => .here) (fun hend => ?_) (fun hlt => ?_))
  · refine t_val (r_extract rfl rfl) rfl ?_
    refine t_nil ?_
    refine Tr.keep (env' := [(0, _), (4, _), (8, _), (9, _), (10, _)]) ⟨rfl, rfl, rfl, rfl, rfl, trivial⟩ ?_
    refine t_then ?_
    refine t_seq ?_
    refine t_cond_f rfl ?_
    refine t_exit ?_
    refine t_then_exit ?_
    refine t_then_exit ?_
    refine t_in_hit ?_
    refine t_then ?_
    refine t_seq ?_
    refine t_region ?_
    refine t_val (r_move rfl) rfl ?_
    refine t_val (r_move rfl) rfl ?_
    refine t_val (r_nes rfl rfl) rfl ?_
    refine t_val (r_move rfl) rfl ?_
    apply t_group_and 3 (s := 31) (d := 34) rfl
    · intro hg1 K hK
      refine g_val hg1 rfl rfl (r_move rfl) rfl ?_
      refine g_val hg1 rfl rfl (r_le rfl rfl) rfl ?_
      refine t_val (rp_t hg1 rfl rfl) rfl ?_
      iterate 2 refine Tr.weak2 rfl ?_
      exact hK _ (and_t hg1)
    · intro hg1 K hK
      refine g_skip hg1 rfl rfl rfl rfl ?_
      refine g_skip hg1 rfl rfl rfl rfl ?_
      refine t_val (rp_f hg1 rfl rfl) rfl ?_
      iterate 2 refine Tr.weak2 rfl ?_
      exact hK _ (and_f hg1)
    refine t_val (r_move rfl) rfl ?_
    apply t_group_and 9 (s := 35) (d := 44) rfl
    · intro hg2 K hK
      refine g_val hg2 rfl rfl (r_move rfl) rfl ?_
      refine g_val hg2 rfl rfl (r_sidx (b := s.get! 0) 0 Tryz.underlying9 rfl rfl rfl (get0 (nonempty hg2))) rfl ?_
      refine g_val hg2 rfl rfl (r_ne rfl rfl) rfl ?_
      refine g_val hg2 rfl rfl (r_move rfl) rfl ?_
      apply t_group_or 4 (s := 39) (d := 43) rfl
      · intro hg3 K hK
        refine g_val hg3 rfl rfl (r_move rfl) rfl ?_
        refine g_val hg3 rfl rfl (r_len_str Tryz.underlying9 rfl) rfl ?_
        refine g_val hg3 rfl rfl (r_eq rfl rfl) rfl ?_
        refine g_val hg2 rfl rfl (rp_f hg3 rfl rfl) rfl ?_
        iterate 3 refine Tr.weak2 rfl ?_
        exact hK _ (or_f hg3)
      · intro hg3 K hK
        refine g_skip hg3 rfl rfl rfl rfl ?_
        refine g_skip hg3 rfl rfl rfl rfl ?_
        refine g_skip hg3 rfl rfl rfl rfl ?_
        refine g_val hg2 rfl rfl (rp_t hg3 rfl rfl) rfl ?_
        iterate 3 refine Tr.weak2 rfl ?_
        exact hK _ (or_t hg3)
      refine t_val (rp_t hg2 rfl rfl) rfl ?_
      iterate 5 refine Tr.weak2 rfl ?_
      exact hK _ (and_t hg2)
    · intro hg2 K hK
      refine g_skip hg2 rfl rfl rfl rfl ?_
      refine g_skip hg2 rfl rfl rfl rfl ?_
      refine g_skip hg2 rfl rfl rfl rfl ?_
      refine g_skip hg2 rfl rfl rfl rfl ?_
      refine t_gskip0 rfl rfl rfl ?_
      refine t_gskip0 rfl rfl rfl ?_
      refine t_gskip0 rfl rfl rfl ?_
      refine g_skip hg2 rfl rfl rfl rfl ?_
      refine t_val (rp_f hg2 rfl rfl) rfl ?_
      iterate 8 refine Tr.weak2 rfl ?_
      exact hK _ (and_f hg2)
    refine t_val (r_assign rfl) rfl ?_
    refine t_val (r_assign rfl) rfl ?_
    refine t_nil ?_
    refine Tr.keep (env' := [(2, _), (3, _)]) ⟨rfl, rfl, trivial⟩ ?_
    refine t_then ?_
    refine t_retc ?_
    refine t_ret2 rfl rfl rfl (fun w hw => ?_)
    have hp2 : p = s.size := by omega
    subst hp2
    exact ⟨by rw [num_ok (numAt_le hd hs _ (Nat.le_refl _)).2], hw.sub (.cons _ (.refl _))⟩
  · have hdg := hd p hlt
    rw [decode_ascii s p hlt (by rw [← get_ix s p hlt]; omega), ← get_ix s p hlt]
    dsimp only
    have hn := numAt_le hd hs p (by omega)
    have hn1 := numAt_le hd hs (p + 1) (by omega)
    have hnx : numAt s (p + 1) = 10 * numAt s p + (((s.get! p).toNat : Int) - 48) := rfl
    generalize hc : (s.get! p).toNat = c at hdg hnx ⊢
    refine t_val (r_extract rfl rfl) rfl ?_
    refine t_nil ?_
    refine Tr.keep (env' := [(0, _), (4, _), (8, _), (9, _), (10, _)]) ⟨rfl, rfl, rfl, rfl, rfl, trivial⟩ ?_
    refine t_then ?_
    refine t_seq ?_
    refine t_cond_t rfl ?_
    refine t_skip ?_
    refine t_then ?_
    refine t_block ?_
    refine t_seq ?_
    refine t_region ?_
    refine t_val (r_extract rfl rfl) rfl ?_
    refine t_val (r_assign rfl) rfl ?_
    refine t_nil ?_
    refine Tr.keep (env' := [(0, _), (4, _), (6, _), (8, _)]) ⟨rfl, rfl, rfl, rfl, trivial⟩ ?_
    refine t_then ?_
    refine t_seq ?_
    refine t_seq ?_
    refine t_region ?_
    refine t_val (r_move rfl) rfl ?_
    refine t_val (r_to (v2 := .bool false) (r_lt rfl rfl) (by simp; omega)) rfl ?_
    refine t_val (r_move rfl) rfl ?_
    refine t_gval rfl rfl (r_move rfl) rfl ?_
    refine t_gval rfl rfl (r_to (v2 := .bool false) (r_gt rfl rfl) (by simp; omega)) rfl ?_
    refine t_val (r_pick_f rfl rfl) rfl ?_
    refine t_val (r_move rfl) rfl ?_
    refine t_gval rfl rfl (r_move rfl) rfl ?_
    refine t_gval rfl rfl (r_to (v2 := .bool false) (r_gt rfl rfl) (by simp; omega)) rfl ?_
    refine t_val (r_pick_f rfl rfl) rfl ?_
    refine t_nil ?_
    refine Tr.keep (env' := [(0, _), (4, _), (6, _), (8, _), (21, _)]) ⟨rfl, rfl, rfl, rfl, rfl, trivial⟩ ?_
    refine t_then ?_
    refine t_cond_f rfl ?_
    refine t_skip ?_
    refine t_then ?_
    refine t_region ?_
    refine t_val (r_move rfl) rfl ?_
    refine t_val (r_muli rfl rfl (by omega)) rfl ?_
    refine t_val (r_move rfl) rfl ?_
    refine t_val (r_sub' rfl rfl (s := (c : Int) - 48) (i32_in (by omega))) rfl ?_
    refine t_val (r_convI Tryz.underlying21 Tryz.underlying3 rfl (wrap_i64_in (by omega) : IntKind.i64.wrap ((c : Int) - 48) = (c : Int) - 48)) rfl ?_
    refine t_val (r_to (v2 := .int .i64 (numAt s (p + 1))) (r_addi rfl rfl (by omega)) (by rw [hnx])) rfl ?_
    refine t_val (r_assign rfl) rfl ?_
    refine t_nil ?_
    refine Tr.keep (env' := [(0, _), (4, _), (8, _)]) ⟨rfl, rfl, rfl, trivial⟩ ?_
    refine t_in ?_
    refine t_then ?_
    refine t_K (IH (p + 1) (by omega) (by omega)) ⟨rfl, rfl, rfl, trivial⟩ (.refl _)
end
end Go.Proofs.W
set_option linter.unusedVariables false
set_option linter.unusedSimpArgs false
set_option linter.unusedSectionVars false
set_option maxRecDepth 100000
namespace Go.Proofs.W
open Go Go.Sl Go.RowKit Go.Proofs
theorem ca_22 : cellsAs Tryz.prog 22 = some (none) := by kernel_rfl
theorem ca_9 : cellsAs Tryz.prog 9 = some (none) := by kernel_rfl
theorem en_268 : Enters Tryz.prog 268 := enters_of Tryz.func268 (by kernel_rfl) (by kernel_rfl)
theorem fo_182_1 : fieldOff Tryz.prog 182 1 = some 1 := by kernel_rfl
theorem iz_9 : (Tryz.prog.info? 9).map (·.size) = some 1 := by kernel_rfl
section
variable {w0 : World} {N : Nat} {ds : List Deferred} {env : Env} {M : List Ent}
abbrev encS (s : ByteArray) : List Value := [.string s]
abbrev wordV (s : ByteArray) : Int := numAt s s.size
def Word (s : ByteArray) : Prop := Digits s ∧ s.size ≤ 15 ∧ numOk s = true
theorem numbers_ok {A : Option Addr} {n c : Nat} {ws : List ByteArray} (first : Value) (hs : SlRd w0 M 1 A n (ws.map encS)) (hd : ∀ s ∈ ws, Word s) (hn : n ≤ 100000) : ∀ w, Ok w0 M w → Calls Tryz.prog 211 #[.agg #[first, .slice A n c], .int .i64 n] w (fun e w' => ∃ x : Value × List Ent, e = .returned x.1 ∧ Own 3 1 x.1 ((ws.map wordV).map encI) x.2 ∧ Ok w0 (x.2 ++ M) w') := by
  have hbig := hs.big
  have hlen : ws.length = n := by have := hs.len; simpa using this
  refine enter (vs := [_, _]) Tryz.func211 rfl Tryz.ntmps211 rfl ?_
  refine t_seq ?_
  refine t_region ?_
  refine t_eff rfl (e_box rfl rfl fun b2 => ?_)
  refine t_val (r_assign rfl) rfl ?_
  refine t_nil ?_
  refine Tr.keep (env' := [(1, _), (2, _)]) ⟨rfl, rfl, trivial⟩ ?_
  refine t_then ?_
  refine t_seq ?_
  refine t_seq ?_
  refine t_region ?_
  refine t_val (r_fa fo_182_1 rfl) rfl ?_
  refine t_val (r_load ca_22 rfl (rd_m (.head _) rfl)) rfl ?_
  refine t_val (r_len_slice Tryz.underlying22 rfl) rfl ?_
  refine t_val (r_move rfl) rfl ?_
  refine t_val (r_ne rfl rfl) rfl ?_
  refine t_nil ?_
  refine Tr.keep (env' := [(2, _), (14, _)]) ⟨rfl, rfl, trivial⟩ ?_
  refine t_then ?_
  refine t_cond_f (b_of (by simp)) ?_
  refine t_skip ?_
  refine t_then ?_
  refine t_seq ?_
  refine t_region ?_
  refine t_val (r_assign rfl) rfl ?_
  refine t_nil ?_
  refine Tr.keep (env' := [(2, _), (5, _)]) ⟨rfl, rfl, trivial⟩ ?_
  refine t_then ?_
  refine t_seq ?_
  refine t_seq ?_
  refine t_region ?_
  refine t_val (r_fa fo_182_1 rfl) rfl ?_
  refine t_val (r_load ca_22 rfl (rd_m (.head _) rfl)) rfl ?_
  refine t_val (r_len_slice Tryz.underlying22 rfl) rfl ?_
  refine t_val (r_move rfl) rfl ?_
  refine t_nil ?_
  refine Tr.keep (env' := [(5, _), (17, _), (18, _), (19, _)]) ⟨rfl, rfl, rfl, rfl, trivial⟩ ?_
  refine t_then ?_
  refine t_block ?_
  refine t_loop (fun z : Nat × Value × List Ent => [(5, z.2.1), (17, .slice A n c), (18, .int .i64 n), (19, .int .i64 z.1)]) (fun z : Nat × Value × List Ent => z.2.2 ++ (cel b2 182 [first, .slice A n c] :: M)) (fun z : Nat × Value × List Ent => z.1 ≤ n ∧ Own 3 1 z.2.1 (((ws.take z.1).map wordV).map encI) z.2.2) (fun z : Nat × Value × List Ent => n - z.1) (0, .slice none 0 0, []) ⟨Nat.zero_le _, Own.nil _ _⟩ ⟨rfl, rfl, rfl, rfl, trivial⟩ (.refl _) ?_
  intro K ⟨k, v, E⟩ ⟨hk, hO⟩ IH
  dsimp only at hk hO IH ⊢
  refine t_seq ?_
  refine t_region ?_
  refine t_val (r_lt rfl rfl) rfl ?_
  refine t_nil ?_
  refine Tr.keep (env' := [(5, _), (17, _), (18, _), (19, _), (20, _)]) ⟨rfl, rfl, rfl, rfl, rfl, trivial⟩ ?_
  refine t_then ?_
  refine t_seq ?_
  refine t_cond rfl (fun hc1 => ?_) (fun hc1 => ?_)
  · have hlt : k < n := by simpa using hc1
    obtain ⟨b, o, hA, hrd⟩ := hs.at' (by omega)
    obtain ⟨s, hsk⟩ : ∃ s, ws[k]? = some s := ⟨_, List.getElem?_eq_getElem (by omega)⟩
    have hws := hd s (List.mem_of_getElem? hsk)
    have hx : (ws.map encS)[k]? = some (encS s) := by rw [List.getElem?_map, hsk]; rfl
    refine t_skip ?_
    refine t_then ?_
    refine t_seq ?_
    refine t_block ?_
    refine t_seq ?_
    refine t_region ?_
    refine t_val (r_ia_s k Tryz.underlying22 iz_9 hA rfl rfl rfl hlt) rfl ?_
    refine t_val (r_load ca_9 rfl ((hrd k (encS s) hx 0 (.string s) rfl).sub (List.sublist_append_of_sublist_right (.cons _ (.refl _))))) rfl ?_
    refine t_val (r_assign rfl) rfl ?_
    refine t_nil ?_
    refine Tr.keep (env' := [(5, _), (7, _), (17, _), (18, _), (19, _)]) ⟨rfl, rfl, rfl, rfl, rfl, trivial⟩ ?_
    refine t_then ?_
    refine t_seq ?_
    refine t_region ?_
    refine t_val (r_move rfl) rfl ?_
    refine t_eff rfl (e_pcall en_268 rfl rfl rfl rfl (number_c s hws.1 hws.2.1) ?_)
    refine t_val (r_move rfl) rfl ?_
    refine t_val (r_extract rfl rfl) rfl ?_
    refine t_val (r_extract rfl rfl) rfl ?_
    refine t_val (r_assign rfl) rfl ?_
    refine t_val (r_assign rfl) rfl ?_
    refine t_nil ?_
    refine Tr.keep (env' := [(5, _), (8, _), (9, _), (17, _), (18, _), (19, _)]) ⟨rfl, rfl, rfl, rfl, rfl, rfl, trivial⟩ ?_
    refine t_then ?_
    refine t_seq ?_
    refine t_seq ?_
    refine t_region ?_
    refine t_val (r_move rfl) rfl ?_
    refine t_val (r_not rfl) rfl ?_
    refine t_nil ?_
    refine Tr.keep (env' := [(5, _), (8, _), (17, _), (18, _), (19, _), (29, _)]) ⟨rfl, rfl, rfl, rfl, rfl, rfl, trivial⟩ ?_
    refine t_then ?_
    refine t_cond_f (b_of (by rw [hws.2.2]; rfl)) ?_
    refine t_skip ?_
    refine t_then ?_
    refine t_region ?_
    refine t_val (r_move rfl) rfl ?_
    refine t_val (r_move rfl) rfl ?_
    refine t_eff rfl (e_buildSlice (E := 3) (l := encI (wordV s)) rfl (fun w => by kernel_rfl) rfl fun b33 => ?_)
    refine t_eff rfl (e_append Tryz.underlying36 inf_3 rfl (by decide) rfl rfl hO (pk .here (pkb .here (.refl _))) rfl (by simp [encI, Value.oneCell']) (by simp; omega) (by simp [maxLen]; omega) rfl fun v1 E1 hO1 => ?_)
    refine t_val (r_assign rfl) rfl ?_
    refine t_nil ?_
    refine Tr.keep (env' := [(5, _), (17, _), (18, _), (19, _)]) ⟨rfl, rfl, rfl, rfl, trivial⟩ ?_
    refine t_in ?_
    refine t_then ?_
    refine t_region ?_
    refine t_val (r_addi rfl rfl (by omega)) rfl ?_
    refine t_val (r_move rfl) rfl ?_
    refine t_nil ?_
    refine Tr.keep (env' := [(5, _), (17, _), (18, _), (19, _)]) ⟨rfl, rfl, rfl, rfl, trivial⟩ ?_
    refine t_then ?_
    refine t_K (IH (k + 1, v1, E1) ⟨by omega, by rw [List.take_add_one, hsk]; simpa using hO1⟩ (by simp; omega)) ⟨rfl, rfl, rfl, rfl, trivial⟩ (List.Sublist.append (.refl _) (.cons_cons _ (.refl _)))
  · have hge : ¬ k < n := by simpa using hc1
    refine t_exit ?_
    refine t_then_exit ?_
    refine t_then_exit ?_
    refine t_in_hit ?_
    refine t_then ?_
    refine t_seq ?_
    refine t_region ?_
    refine t_val (r_move rfl) rfl ?_
    refine t_val (r_assign rfl) rfl ?_
    refine t_nil ?_
    refine Tr.keep (env' := [(4, _)]) ⟨rfl, trivial⟩ ?_
    refine t_then ?_
    refine t_retc ?_
    refine t_ret1 rfl rfl (fun w hw => ?_)
    have hk2 : k = n := by omega
    subst hk2
    rw [List.take_of_length_le (by omega)] at hO
    exact ⟨(v, E), rfl, hO, Ok.sub hw (List.Sublist.append (.refl _) (.cons _ (.refl _)))⟩
end
end Go.Proofs.W
set_option linter.unusedVariables false
set_option linter.unusedSimpArgs false
set_option linter.unusedSectionVars false
set_option maxRecDepth 100000
namespace Go.Proofs.W
open Go Go.Sl Go.RowKit Go.Proofs
attribute [local irreducible] Go.Sl.Eff
theorem en_147 : Enters Tryz.prog 147 := enters_of Tryz.func147 (by kernel_rfl) (by kernel_rfl)
theorem en_210 : Enters Tryz.prog 210 := enters_of Tryz.func210 (by kernel_rfl) (by kernel_rfl)
theorem en_267 : Enters Tryz.prog 267 := enters_of Tryz.func267 (by kernel_rfl) (by kernel_rfl)
theorem en_301 : Enters Tryz.prog 301 := enters_of Tryz.func301 (by kernel_rfl) (by kernel_rfl)
theorem xt_322_indexByte : IsExt Tryz.prog 322 Extern.BytealgIndexByte.indexByte := ⟨_, Tryz.func322, by kernel_rfl, by kernel_rfl, by kernel_rfl, by kernel_rfl⟩
theorem ixB_lt {s : ByteArray} {c : UInt8} (h : 0 ≤ ixB s c) : (ixB s c).toNat < s.size := by
  unfold ixB at h ⊢
  cases e : (List.range s.size).find? fun i => s[i]! == c with
  | none => rw [e] at h; simp at h
  | some i =>
    have := List.mem_of_find?_eq_some e
    simp at this
    simpa using this
theorem ixB_self (c : UInt8) : ixB ⟨#[c]⟩ c = 0 := by
  have : (List.range (ByteArray.mk #[c]).size) = [0] := rfl
  unfold ixB
  rw [this]
  have e : (ByteArray.mk #[c])[0]! = c := rfl
  simp [e]
def cutB (s : ByteArray) (c : UInt8) : ByteArray × ByteArray × Bool :=
  if 0 ≤ ixB s c then (s.extract 0 (ixB s c).toNat, s.extract ((ixB s c).toNat + 1) s.size, true) else (s, ⟨#[]⟩, false)
def splitB (c : UInt8) : Nat → ByteArray → List ByteArray
  | 0, s => [s]
  | n + 1, s => if (cutB s c).2.2 then (cutB s c).1 :: splitB c n (cutB s c).2.1 else [s]
abbrev wordsOf (s : ByteArray) : List ByteArray := splitB 32 s.size s
theorem splitB_step (c : UInt8) (n : Nat) (s : ByteArray) (hn : s.size ≤ n) : ∃ post, splitB c n s = (cutB s c).1 :: post ∧
    ((cutB s c).2.2 = true → ∃ k, n = k + 1 ∧ post = splitB c k (cutB s c).2.1 ∧ (cutB s c).2.1.size ≤ k) ∧ ((cutB s c).2.2 = false → post = []) := by
  by_cases h : 0 ≤ ixB s c
  · have hl := ixB_lt h
    have hb : (cutB s c).2.2 = true := by simp [cutB, h]
    obtain ⟨k, rfl⟩ : ∃ k, n = k + 1 := ⟨n - 1, by omega⟩
    refine ⟨splitB c k (cutB s c).2.1, by simp [splitB, hb], fun _ => ⟨k, rfl, rfl, ?_⟩, fun h => absurd (hb.symm.trans h) (by decide)⟩
    simp [cutB, h]
    omega
  · have hb : (cutB s c).2.2 = false := by simp [cutB, h]
    have h1 : (cutB s c).1 = s := by simp [cutB, h]
    refine ⟨[], ?_, fun h => absurd (hb.symm.trans h) (by decide), fun _ => rfl⟩
    cases n <;> simp [splitB, hb, h1]
section
variable {w0 : World} {M : List Ent}
theorem slIndexByte_c (s : ByteArray) (c : UInt8) : ∀ w, Ok w0 M w → Calls Tryz.prog 301 #[.string s, .int .u8 (c.toNat : Int)] w (fun e w' => e = .returned (.int .i64 (ixB s c)) ∧ Ok w0 M w') := by
  refine enter (vs := [_, _]) Tryz.func301 rfl Tryz.ntmps301 rfl ?_
  refine t_seq ?_
  refine t_region ?_
  refine t_val (r_assign rfl) rfl ?_
  refine t_nil ?_
  refine Tr.keep (env' := [(0, _), (1, _)]) ⟨rfl, rfl, trivial⟩ ?_
  refine t_then ?_
  refine t_seq ?_
  refine t_region ?_
  refine t_val (r_move rfl) rfl ?_
  refine t_val (r_move rfl) rfl ?_
  refine t_eff rfl ?_
  refine e_indexByteX (s := s) (c := c) ?_ ?_ ?_ ?_ ?_
  · exact xt_322_indexByte
  · rfl
  · rfl
  · rfl
  refine t_val (r_assign rfl) rfl ?_
  refine t_nil ?_
  refine Tr.keep (env' := [(4, _)]) ⟨rfl, trivial⟩ ?_
  refine t_then ?_
  refine t_retc ?_
  refine t_ret1 rfl rfl (fun w hw => ?_)
  exact ⟨rfl, hw⟩
theorem slIndex_c (s : ByteArray) (c : UInt8) : ∀ w, Ok w0 M w → Calls Tryz.prog 267 #[.string s, .string ⟨#[c]⟩] w (fun e w' => e = .returned (.int .i64 (ixB s c)) ∧ Ok w0 M w') := by
  refine enter (vs := [_, _]) Tryz.func267 rfl Tryz.ntmps267 rfl ?_
  refine t_seq ?_
  refine t_region ?_
  refine t_val (r_assign rfl) rfl ?_
  refine t_nil ?_
  refine Tr.keep (env' := [(0, _), (1, _)]) ⟨rfl, rfl, trivial⟩ ?_
  refine t_then ?_
  refine t_seq ?_
  refine t_region ?_
  refine t_val (r_move rfl) rfl ?_
  refine t_val (r_to (v2 := .int .i64 1) (r_len_str Tryz.underlying9 rfl) rfl) rfl ?_
  refine t_val (r_assign rfl) rfl ?_
  refine t_nil ?_
  refine Tr.keep (env' := [(0, _), (1, _), (5, _)]) ⟨rfl, rfl, rfl, trivial⟩ ?_
  refine t_then ?_
  refine t_seq ?_
  refine t_block ?_
  refine t_seq ?_
  refine t_region ?_
  refine t_val (r_move rfl) rfl ?_
  refine t_val (r_eq rfl rfl) rfl ?_
  refine t_val (r_move rfl) rfl ?_
  refine t_gval rfl rfl (r_move rfl) rfl ?_
  refine t_gval rfl rfl (r_move rfl) rfl ?_
  refine t_gval rfl rfl (r_eqs rfl rfl) rfl ?_
  refine t_val (r_pick_f rfl rfl) rfl ?_
  refine t_val (r_assign rfl) rfl ?_
  refine t_nil ?_
  refine Tr.keep (env' := [(0, _), (1, _), (5, _), (16, _)]) ⟨rfl, rfl, rfl, rfl, trivial⟩ ?_
  refine t_then ?_
  refine t_cond rfl (fun hc => ?_) (fun hc => ?_)
  · skip
    refine t_seq ?_
    refine t_region ?_
    refine t_val (r_assign rfl) rfl ?_
    refine t_nil ?_
    refine Tr.keep (env' := [(4, _)]) ⟨rfl, trivial⟩ ?_
    refine t_then ?_
    refine t_retc ?_
    refine t_in_ret ?_
    refine t_then_ret ?_
    refine t_ret1 rfl rfl (fun w hw => ?_)
    refine ⟨?_, hw⟩
    obtain rfl : s = ⟨#[c]⟩ := (of_decide_eq_true hc).symm
    rw [ixB_self]
  · skip
    refine t_seq ?_
    refine t_region ?_
    refine t_val (r_move rfl) rfl ?_
    refine t_val (r_eq rfl rfl) rfl ?_
    refine t_val (r_assign rfl) rfl ?_
    refine t_nil ?_
    refine Tr.keep (env' := [(0, _), (1, _), (5, _), (24, _)]) ⟨rfl, rfl, rfl, rfl, trivial⟩ ?_
    refine t_then ?_
    refine t_cond_t rfl ?_
    refine t_seq ?_
    refine t_region ?_
    refine t_val (r_move rfl) rfl ?_
    refine t_val (r_move rfl) rfl ?_
    refine t_val (r_sidx (b := c) 0 Tryz.underlying9 rfl rfl rfl rfl) rfl ?_
    refine t_eff rfl (e_pcall en_301 rfl rfl rfl rfl (slIndexByte_c s c) ?_)
    refine t_val (r_assign rfl) rfl ?_
    refine t_nil ?_
    refine Tr.keep (env' := [(4, _)]) ⟨rfl, trivial⟩ ?_
    refine t_then ?_
    refine t_retc ?_
    refine t_in_ret ?_
    refine t_then_ret ?_
    refine t_ret1 rfl rfl (fun w hw => ?_)
    exact ⟨rfl, hw⟩
theorem slCut_c (s : ByteArray) (c : UInt8) (hs : s.size ≤ 4611686018427387904) : ∀ w, Ok w0 M w → Calls Tryz.prog 210 #[.string s, .string ⟨#[c]⟩] w (fun e w' => e = .returned (.tuple #[.string (cutB s c).1, .string (cutB s c).2.1, .bool (cutB s c).2.2]) ∧ Ok w0 M w') := by
  refine enter (vs := [_, _]) Tryz.func210 rfl Tryz.ntmps210 rfl ?_
  refine t_seq ?_
  refine t_region ?_
  refine t_val (r_assign rfl) rfl ?_
  refine t_val (r_assign rfl) rfl ?_
  refine t_val (r_assign rfl) rfl ?_
  refine t_nil ?_
  refine Tr.keep (env' := [(0, _), (1, _)]) ⟨rfl, rfl, trivial⟩ ?_
  refine t_then ?_
  refine t_seq ?_
  refine t_seq ?_
  refine t_region ?_
  refine t_val (r_move rfl) rfl ?_
  refine t_val (r_move rfl) rfl ?_
  refine t_eff rfl (e_pcall en_267 rfl rfl rfl rfl (slIndex_c s c) ?_)
  refine t_val (r_assign rfl) rfl ?_
  refine t_nil ?_
  refine Tr.keep (env' := [(0, _), (1, _), (7, _)]) ⟨rfl, rfl, rfl, trivial⟩ ?_
  refine t_then ?_
  refine t_seq ?_
  refine t_region ?_
  refine t_val (r_move rfl) rfl ?_
  refine t_val (r_ge rfl rfl) rfl ?_
  refine t_nil ?_
  refine Tr.keep (env' := [(0, _), (1, _), (7, _), (12, _)]) ⟨rfl, rfl, rfl, rfl, trivial⟩ ?_
  refine t_then ?_
  refine t_cond rfl (fun hc => ?_) (fun hc => ?_)
  · have hc0 : 0 ≤ ixB s c := of_decide_eq_true hc
    have hlt := ixB_lt hc0
    refine t_seq ?_
    refine d_begin mixed rfl ?_
    refine d_val 0 rfl (by kernel_rfl) (by kernel_rfl) (by kernel_rfl) (.then (.then .body)) (.refl _) rfl (r_move rfl) ?_
    refine d_val 1 rfl (by kernel_rfl) (by kernel_rfl) (by kernel_rfl) (.then (.then .body)) (.refl _) rfl (r_move rfl) ?_
    refine d_val 2 rfl (by kernel_rfl) (by kernel_rfl) (by kernel_rfl) (.then (.then .body)) (.refl _) rfl (r_ss_h (ixB s c).toNat Tryz.underlying9 rfl rfl (by omega) (by omega)) ?_
    refine d_val 3 rfl (by kernel_rfl) (by kernel_rfl) (by kernel_rfl) (.then (.then .body)) (.refl _) rfl (r_move rfl) ?_
    refine d_val 4 rfl (by kernel_rfl) (by kernel_rfl) (by kernel_rfl) (.then (.then .body)) (.refl _) rfl (r_move rfl) ?_
    refine d_val 5 rfl (by kernel_rfl) (by kernel_rfl) (by kernel_rfl) (.then (.then .body)) (.refl _) rfl (r_move rfl) ?_
    refine d_val 6 rfl (by kernel_rfl) (by kernel_rfl) (by kernel_rfl) (.then (.then .body)) (.refl _) rfl (r_to (v2 := .int .i64 1) (r_len_str Tryz.underlying9 rfl) rfl) ?_
    refine d_val 7 rfl (by kernel_rfl) (by kernel_rfl) (by kernel_rfl) (.then (.then .body)) (.refl _) rfl (r_to (v2 := .int .i64 (((ixB s c).toNat + 1 : Nat) : Int)) (r_addi rfl rfl (by omega)) (by congr 1; omega)) ?_
    refine d_val 8 rfl (by kernel_rfl) (by kernel_rfl) (by kernel_rfl) (.then (.then .body)) (.refl _) rfl (r_ss_l ((ixB s c).toNat + 1) Tryz.underlying9 rfl rfl rfl (by omega)) ?_
    refine d_val 9 rfl (by kernel_rfl) (by kernel_rfl) (by kernel_rfl) (.then (.then .body)) (.refl _) rfl (r_assign rfl) ?_
    refine d_val 10 rfl (by kernel_rfl) (by kernel_rfl) (by kernel_rfl) (.then (.then .body)) (.refl _) rfl (r_assign rfl) ?_
    refine d_val 11 rfl (by kernel_rfl) (by kernel_rfl) (by kernel_rfl) (.then (.then .body)) (.refl _) rfl (r_assign rfl) ?_
    refine d_end (by kernel_rfl) ?_
    refine Tr.keep (env' := [(4, _), (5, _), (6, _)]) ⟨rfl, rfl, rfl, trivial⟩ ?_
    refine t_then ?_
    refine t_retc ?_
    refine t_then_ret ?_
    refine t_ret3 rfl rfl rfl rfl (fun w hw => ?_)
    exact ⟨by simp [cutB, hc0], hw⟩
  · have hc0 : ¬ 0 ≤ ixB s c := of_decide_eq_false hc
    refine t_skip ?_
    refine t_then ?_
    refine t_seq ?_
    refine t_region ?_
    refine t_val (r_move rfl) rfl ?_
    refine t_val (r_assign rfl) rfl ?_
    refine t_val (r_assign rfl) rfl ?_
    refine t_val (r_assign rfl) rfl ?_
    refine t_nil ?_
    refine Tr.keep (env' := [(4, _), (5, _), (6, _)]) ⟨rfl, rfl, rfl, trivial⟩ ?_
    refine t_then ?_
    refine t_retc ?_
    refine t_ret3 rfl rfl rfl rfl (fun w hw => ?_)
    exact ⟨by simp [cutB, hc0], hw⟩
theorem cut_c (s : ByteArray) (c : UInt8) (hs : s.size ≤ 4611686018427387904) : ∀ w, Ok w0 M w → Calls Tryz.prog 147 #[.string s, .string ⟨#[c]⟩] w (fun e w' => e = .returned (.tuple #[.string (cutB s c).1, .string (cutB s c).2.1, .bool (cutB s c).2.2]) ∧ Ok w0 M w') := by
  refine enter (vs := [_, _]) Tryz.func147 rfl Tryz.ntmps147 rfl ?_
  refine t_seq ?_
  refine t_region ?_
  refine t_val (r_assign rfl) rfl ?_
  refine t_val (r_assign rfl) rfl ?_
  refine t_val (r_assign rfl) rfl ?_
  refine t_nil ?_
  refine Tr.keep (env' := [(0, _), (1, _)]) ⟨rfl, rfl, trivial⟩ ?_
  refine t_then ?_
  refine t_seq ?_
  refine t_region ?_
  refine t_val (r_move rfl) rfl ?_
  refine t_val (r_move rfl) rfl ?_
  refine t_eff rfl (e_pcall en_210 rfl rfl rfl rfl (slCut_c s c hs) ?_)
  refine t_val (r_extract rfl rfl) rfl ?_
  refine t_val (r_extract rfl rfl) rfl ?_
  refine t_val (r_extract rfl rfl) rfl ?_
  refine t_val (r_assign rfl) rfl ?_
  refine t_val (r_assign rfl) rfl ?_
  refine t_val (r_assign rfl) rfl ?_
  refine t_nil ?_
  refine Tr.keep (env' := [(4, _), (5, _), (6, _)]) ⟨rfl, rfl, rfl, trivial⟩ ?_
  refine t_then ?_
  refine t_retc ?_
  refine t_ret3 rfl rfl rfl rfl (fun w hw => ?_)
  exact ⟨rfl, hw⟩
theorem words1_c {σ : Type} {inv : List ByteArray → σ → Prop} {Me : σ → List Ent} {l lb : Nat} {rr : Loop} {Fr : List Ent} (line : ByteArray) (hs : line.size ≤ 4611686018427387904)
   (hy : Sl.Yields Tryz.prog w0 encS (fun pre (s : σ × ByteArray) => inv pre s.1) (fun s => cel lb 9 [.string s.2] :: Me s.1) (wordsOf line) l rr) (s0 : σ) (h0 : inv [] s0) :
   ∀ w, Ok w0 (recE l rr :: (Fr ++ (cel lb 9 [.string line] :: Me s0))) w → Calls Tryz.prog 146 #[.func (.yield l) #[] #[], .pointer (some ⟨lb, 0, none⟩)] w (fun e w' => (∃ v, e = .returned v) ∧ ∃ s : σ × ByteArray, inv (wordsOf line) s.1 ∧ Ok w0 (recE l rr :: (Fr ++ (cel lb 9 [.string s.2] :: Me s.1))) w') := by
  refine enter (vs := [_, _]) Tryz.func146 rfl Tryz.ntmps146 rfl ?_
  refine t_block ?_
  refine t_loop (fun z : List ByteArray × Nat × ByteArray × σ => [(0, .func (.yield l) #[] #[]), (1, .pointer (some ⟨lb, 0, none⟩))]) (fun z : List ByteArray × Nat × ByteArray × σ => recE l rr :: (Fr ++ (cel lb 9 [.string z.2.2.1] :: Me z.2.2.2))) (fun z : List ByteArray × Nat × ByteArray × σ => z.2.2.1.size ≤ z.2.1 ∧ z.2.1 ≤ line.size ∧ wordsOf line = z.1 ++ splitB 32 z.2.1 z.2.2.1 ∧ inv z.1 z.2.2.2) (fun z : List ByteArray × Nat × ByteArray × σ => z.2.1) ([], line.size, line, s0) ⟨Nat.le_refl _, Nat.le_refl _, rfl, h0⟩ ⟨rfl, rfl, trivial⟩ (.refl _) ?_
  intro K ⟨pre, n, cur, s⟩ ⟨hn, hnl, hxs, hI⟩ IH
  dsimp only at hn hnl hxs hI IH ⊢
  obtain ⟨post, hp, hp1, hp2⟩ := splitB_step 32 n cur hn
  refine t_block ?_
  refine t_seq ?_
  refine t_region ?_
  refine t_val (r_load ca_9 rfl (rd_m (.tail _ (List.mem_append_right _ (.head _))) rfl)) rfl ?_
  refine t_eff rfl (e_pcall en_147 rfl rfl rfl rfl (cut_c cur 32 (by omega)) ?_)
  refine t_val (r_move rfl) rfl ?_
  refine t_val (r_extract rfl rfl) rfl ?_
  refine t_val (r_extract rfl rfl) rfl ?_
  refine t_val (r_extract rfl rfl) rfl ?_
  refine t_val (r_assign rfl) rfl ?_
  refine t_val (r_assign rfl) rfl ?_
  refine t_val (r_assign rfl) rfl ?_
  refine t_nil ?_
  refine Tr.keep (env' := [(0, _), (1, _), (3, _), (4, _), (5, _)]) ⟨rfl, rfl, rfl, rfl, rfl, trivial⟩ ?_
  refine t_then ?_
  refine t_seq ?_
  refine t_seq ?_
  refine t_regionI ?_
  refine i_val (r_move rfl) rfl ?_
  refine i_val (r_move rfl) rfl ?_
  refine i_effI rfl (e_yield rfl rfl rfl (fun w hw => hy Fr pre _ post (by rw [hxs, hp]) (s, cur) hI w hw) (fun s1 h1 => ?_))
  dsimp only at h1 ⊢
  refine i_val (r_not rfl) rfl ?_
  refine i_val (r_move rfl) rfl ?_
  refine i_gval rfl rfl (r_move rfl) rfl ?_
  refine i_gval rfl rfl (r_not rfl) rfl ?_
  refine i_val (r_pick_f rfl rfl) rfl ?_
  refine i_nil ?_
  refine Tr.keep (env' := [(0, _), (1, _), (4, _), (19, _)]) ⟨rfl, rfl, rfl, rfl, trivial⟩ ?_
  refine t_then ?_
  refine t_cond rfl (fun hm => ?_) (fun hm => ?_)
  · have hm1 : (cutB cur 32).2.2 = false := by simpa using hm
    obtain rfl := hp2 hm1
    refine t_retc ?_
    refine t_then_ret ?_
    refine t_in_ret ?_
    refine t_then_ret ?_
    refine t_in_ret ?_
    refine t_ret0 rfl (fun w hw => ?_)
    exact ⟨⟨_, rfl⟩, s1, by rw [hxs, hp]; exact h1, hw⟩
  · have hm1 : (cutB cur 32).2.2 = true := by simpa using hm
    obtain ⟨k, rfl, rfl, hk⟩ := hp1 hm1
    refine t_skip ?_
    refine t_then ?_
    refine t_region ?_
    refine t_val (r_move rfl) rfl ?_
    refine t_eff rfl (e_store iz_9 rfl rfl rfl .zero (.there (.right .here)) ?_)
    refine t_nil ?_
    refine Tr.keep (env' := [(0, _), (1, _)]) ⟨rfl, rfl, trivial⟩ ?_
    refine t_in ?_
    refine t_then ?_
    refine t_K (IH (pre ++ [(cutB cur 32).1], k, (cutB cur 32).2.1, s1.1) ⟨hk, by show k ≤ line.size; omega, by rw [hxs, hp]; simp, h1⟩ (by simp)) ⟨rfl, rfl, trivial⟩ (.refl _)
theorem words_c (line : ByteArray) : ∀ w, Ok w0 M w → Calls Tryz.prog 82 #[.string line] w (fun e w' => ∃ lb, e = .returned (.func (.func 146) #[] #[.pointer (some ⟨lb, 0, none⟩)]) ∧ True ∧ Ok w0 (cel lb 9 [.string line] :: M) w') := by
  refine enter (vs := [_]) Tryz.func82 rfl Tryz.ntmps82 rfl ?_
  refine t_seq ?_
  refine t_region ?_
  refine t_eff rfl (e_box1 rfl rfl rfl fun b1 => ?_)
  refine t_val (r_assign rfl) rfl ?_
  refine t_nil ?_
  refine Tr.keep (env' := [(1, _)]) ⟨rfl, trivial⟩ ?_
  refine t_then ?_
  refine t_seq ?_
  refine t_region ?_
  refine t_val (r_makeFunc rfl rfl) rfl ?_
  refine t_val (r_assign rfl) rfl ?_
  refine t_nil ?_
  refine Tr.keep (env' := [(2, _)]) ⟨rfl, trivial⟩ ?_
  refine t_then ?_
  refine t_retc ?_
  refine t_ret1 rfl rfl (fun w hw => ?_)
  exact ⟨b1, rfl, trivial, hw⟩
end
end Go.Proofs.W
set_option linter.unusedVariables false
set_option linter.unusedSimpArgs false
set_option linter.unusedSectionVars false
set_option maxRecDepth 100000
namespace Go.Proofs.W
open Go Go.Sl Go.RowKit Go.Proofs
attribute [local irreducible] Go.Sl.Eff
theorem mget_mput {α : Type} [DecidableEq α] (a b : α) (v : Value) : ∀ l : List (α × Value), mget a (mput b v l) = if b = a then some v else mget a l
  | [] => by simp [mput, mget]
  | p :: l => by
    unfold mput
    by_cases hp : p.1 = b
    · rw [if_pos hp]
      unfold mget
      by_cases hb : b = a
      · simp [hb]
      · simp [hp, hb]
    · rw [if_neg hp]
      simp only [mget]
      by_cases hpa : p.1 = a
      · rw [if_pos hpa, if_pos hpa, if_neg (fun h => hp (hpa.trans h.symm))]
      · rw [if_neg hpa, if_neg hpa, mget_mput a b v l]
abbrev encK (s : ByteArray) : Value := .string s
theorem keyStr : KeyK Tryz.prog 9 encK := KeyK.str Tryz.underlying9
def verbsL (eb : Nat) : List (ByteArray × Value) := mput ⟨#[100, 114, 111, 112]⟩ (.func (.func 162) #[.pointer (some ⟨eb, 0, none⟩)] #[]) (mput ⟨#[100, 105, 115, 109, 105, 115, 115]⟩ (.func (.func 160) #[.pointer (some ⟨eb, 0, none⟩)] #[]) (mput ⟨#[106, 117, 100, 103, 101]⟩ (.func (.func 160) #[.pointer (some ⟨eb, 0, none⟩)] #[]) (mput ⟨#[97, 112, 112, 101, 97, 108]⟩ (.func (.func 161) #[.pointer (some ⟨eb, 0, none⟩)] #[]) (mput ⟨#[114, 101, 106, 101, 99, 116]⟩ (.func (.func 160) #[.pointer (some ⟨eb, 0, none⟩)] #[]) (mput ⟨#[100, 101, 99, 105, 100, 101]⟩ (.func (.func 160) #[.pointer (some ⟨eb, 0, none⟩)] #[]) (mput ⟨#[112, 114, 111, 116, 101, 115, 116]⟩ (.func (.func 159) #[.pointer (some ⟨eb, 0, none⟩)] #[]) (mput ⟨#[112, 117, 98, 108, 105, 115, 104]⟩ (.func (.func 158) #[.pointer (some ⟨eb, 0, none⟩)] #[]) (mput ⟨#[116, 97, 107, 101]⟩ (.func (.func 157) #[.pointer (some ⟨eb, 0, none⟩)] #[]) (mput ⟨#[108, 105, 110, 101]⟩ (.func (.func 156) #[.pointer (some ⟨eb, 0, none⟩)] #[]) (mput ⟨#[108, 101, 103]⟩ (.func (.func 155) #[.pointer (some ⟨eb, 0, none⟩)] #[]) (mput ⟨#[99, 108, 97, 115, 115]⟩ (.func (.func 154) #[.pointer (some ⟨eb, 0, none⟩)] #[]) (mput ⟨#[118, 111, 105, 100]⟩ (.func (.func 153) #[.pointer (some ⟨eb, 0, none⟩)] #[]) (mput ⟨#[111, 117, 116]⟩ (.func (.func 152) #[.pointer (some ⟨eb, 0, none⟩)] #[]) (mput ⟨#[110, 111, 116]⟩ (.func (.func 151) #[.pointer (some ⟨eb, 0, none⟩)] #[]) (mput ⟨#[112, 97, 115, 115]⟩ (.func (.func 151) #[.pointer (some ⟨eb, 0, none⟩)] #[]) (mput ⟨#[115, 116, 97, 114, 116]⟩ (.func (.func 150) #[.pointer (some ⟨eb, 0, none⟩)] #[]) (mput ⟨#[102, 111, 117, 110, 100]⟩ (.func (.func 149) #[.pointer (some ⟨eb, 0, none⟩)] #[]) (mput ⟨#[115, 97, 102, 101]⟩ (.func (.func 149) #[.pointer (some ⟨eb, 0, none⟩)] #[]) (mput ⟨#[103, 114, 101, 101, 110]⟩ (.func (.func 148) #[.pointer (some ⟨eb, 0, none⟩)] #[]) (mput ⟨#[114, 101, 100]⟩ (.func (.func 148) #[.pointer (some ⟨eb, 0, none⟩)] #[]) (mput ⟨#[112, 111, 115, 116]⟩ (.func (.func 148) #[.pointer (some ⟨eb, 0, none⟩)] #[]) (mput ⟨#[117, 110, 99, 111, 118, 101, 114, 101, 100]⟩ (.func (.func 148) #[.pointer (some ⟨eb, 0, none⟩)] #[]) (mput ⟨#[99, 111, 118, 101, 114, 101, 100]⟩ (.func (.func 148) #[.pointer (some ⟨eb, 0, none⟩)] #[]) (mput ⟨#[99, 108, 111, 115, 101]⟩ (.func (.func 148) #[.pointer (some ⟨eb, 0, none⟩)] #[]) (mput ⟨#[111, 112, 101, 110]⟩ (.func (.func 148) #[.pointer (some ⟨eb, 0, none⟩)] #[]) ([]))))))))))))))))))))))))))
theorem verb_open (eb : Nat) : mget ⟨#[111, 112, 101, 110]⟩ (verbsL eb) = some (.func (.func 148) #[.pointer (some ⟨eb, 0, none⟩)] #[]) := by
  unfold verbsL
  repeat' first | rw [mget_mput, if_pos rfl] | rw [mget_mput, if_neg (by decide)]
theorem verb_covered (eb : Nat) : mget ⟨#[99, 111, 118, 101, 114, 101, 100]⟩ (verbsL eb) = some (.func (.func 148) #[.pointer (some ⟨eb, 0, none⟩)] #[]) := by
  unfold verbsL
  repeat' first | rw [mget_mput, if_pos rfl] | rw [mget_mput, if_neg (by decide)]
theorem verb_post (eb : Nat) : mget ⟨#[112, 111, 115, 116]⟩ (verbsL eb) = some (.func (.func 148) #[.pointer (some ⟨eb, 0, none⟩)] #[]) := by
  unfold verbsL
  repeat' first | rw [mget_mput, if_pos rfl] | rw [mget_mput, if_neg (by decide)]
theorem verb_start (eb : Nat) : mget ⟨#[115, 116, 97, 114, 116]⟩ (verbsL eb) = some (.func (.func 150) #[.pointer (some ⟨eb, 0, none⟩)] #[]) := by
  unfold verbsL
  repeat' first | rw [mget_mput, if_pos rfl] | rw [mget_mput, if_neg (by decide)]
theorem verb_pass (eb : Nat) : mget ⟨#[112, 97, 115, 115]⟩ (verbsL eb) = some (.func (.func 151) #[.pointer (some ⟨eb, 0, none⟩)] #[]) := by
  unfold verbsL
  repeat' first | rw [mget_mput, if_pos rfl] | rw [mget_mput, if_neg (by decide)]
theorem verb_leg (eb : Nat) : mget ⟨#[108, 101, 103]⟩ (verbsL eb) = some (.func (.func 155) #[.pointer (some ⟨eb, 0, none⟩)] #[]) := by
  unfold verbsL
  repeat' first | rw [mget_mput, if_pos rfl] | rw [mget_mput, if_neg (by decide)]
theorem verb_line (eb : Nat) : mget ⟨#[108, 105, 110, 101]⟩ (verbsL eb) = some (.func (.func 156) #[.pointer (some ⟨eb, 0, none⟩)] #[]) := by
  unfold verbsL
  repeat' first | rw [mget_mput, if_pos rfl] | rw [mget_mput, if_neg (by decide)]
theorem verb_take (eb : Nat) : mget ⟨#[116, 97, 107, 101]⟩ (verbsL eb) = some (.func (.func 157) #[.pointer (some ⟨eb, 0, none⟩)] #[]) := by
  unfold verbsL
  repeat' first | rw [mget_mput, if_pos rfl] | rw [mget_mput, if_neg (by decide)]
theorem verb_jump (eb : Nat) : mget ⟨#[106, 117, 109, 112]⟩ (verbsL eb) = none := by
  unfold verbsL
  repeat' first | rw [mget_mput, if_pos rfl] | rw [mget_mput, if_neg (by decide)]
  rfl
section
variable {w0 : World} {M : List Ent}
theorem verbs_c (eb : Nat) : ∀ w, Ok w0 M w → Calls Tryz.prog 83 #[.pointer (some ⟨eb, 0, none⟩)] w (fun e w' => ∃ b, e = .returned (.map (some b)) ∧ True ∧ Ok w0 (mpe b encK (verbsL eb) :: M) w') := by
  refine enter (vs := [_]) Tryz.func83 rfl Tryz.ntmps83 rfl ?_
  refine t_seq ?_
  refine t_region ?_
  refine t_val (r_assign rfl) rfl ?_
  refine t_nil ?_
  refine Tr.keep (env' := [(0, _)]) ⟨rfl, trivial⟩ ?_
  refine t_then ?_
  refine t_seq ?_
  refine t_region ?_
  refine t_eff rfl (e_makeMap (encK) rfl fun b3 => ?_)
  refine t_val (r_move rfl) rfl ?_
  refine t_val (r_makeFunc rfl rfl) rfl ?_
  refine t_eff rfl (e_insert (a := ⟨#[111, 112, 101, 110]⟩) Tryz.underlying179 keyStr rfl rfl rfl .here ?_)
  refine t_val (r_move rfl) rfl ?_
  refine t_val (r_makeFunc rfl rfl) rfl ?_
  refine t_eff rfl (e_insert (a := ⟨#[99, 108, 111, 115, 101]⟩) Tryz.underlying179 keyStr rfl rfl rfl .here ?_)
  refine t_val (r_move rfl) rfl ?_
  refine t_val (r_makeFunc rfl rfl) rfl ?_
  refine t_eff rfl (e_insert (a := ⟨#[99, 111, 118, 101, 114, 101, 100]⟩) Tryz.underlying179 keyStr rfl rfl rfl .here ?_)
  refine t_val (r_move rfl) rfl ?_
  refine t_val (r_makeFunc rfl rfl) rfl ?_
  refine t_eff rfl (e_insert (a := ⟨#[117, 110, 99, 111, 118, 101, 114, 101, 100]⟩) Tryz.underlying179 keyStr rfl rfl rfl .here ?_)
  refine t_val (r_move rfl) rfl ?_
  refine t_val (r_makeFunc rfl rfl) rfl ?_
  refine t_eff rfl (e_insert (a := ⟨#[112, 111, 115, 116]⟩) Tryz.underlying179 keyStr rfl rfl rfl .here ?_)
  refine t_val (r_move rfl) rfl ?_
  refine t_val (r_makeFunc rfl rfl) rfl ?_
  refine t_eff rfl (e_insert (a := ⟨#[114, 101, 100]⟩) Tryz.underlying179 keyStr rfl rfl rfl .here ?_)
  refine t_val (r_move rfl) rfl ?_
  refine t_val (r_makeFunc rfl rfl) rfl ?_
  refine t_eff rfl (e_insert (a := ⟨#[103, 114, 101, 101, 110]⟩) Tryz.underlying179 keyStr rfl rfl rfl .here ?_)
  refine t_val (r_move rfl) rfl ?_
  refine t_val (r_makeFunc rfl rfl) rfl ?_
  refine t_eff rfl (e_insert (a := ⟨#[115, 97, 102, 101]⟩) Tryz.underlying179 keyStr rfl rfl rfl .here ?_)
  refine t_val (r_move rfl) rfl ?_
  refine t_val (r_makeFunc rfl rfl) rfl ?_
  refine t_eff rfl (e_insert (a := ⟨#[102, 111, 117, 110, 100]⟩) Tryz.underlying179 keyStr rfl rfl rfl .here ?_)
  refine t_val (r_move rfl) rfl ?_
  refine t_val (r_makeFunc rfl rfl) rfl ?_
  refine t_eff rfl (e_insert (a := ⟨#[115, 116, 97, 114, 116]⟩) Tryz.underlying179 keyStr rfl rfl rfl .here ?_)
  refine t_val (r_move rfl) rfl ?_
  refine t_val (r_makeFunc rfl rfl) rfl ?_
  refine t_eff rfl (e_insert (a := ⟨#[112, 97, 115, 115]⟩) Tryz.underlying179 keyStr rfl rfl rfl .here ?_)
  refine t_val (r_move rfl) rfl ?_
  refine t_val (r_makeFunc rfl rfl) rfl ?_
  refine t_eff rfl (e_insert (a := ⟨#[110, 111, 116]⟩) Tryz.underlying179 keyStr rfl rfl rfl .here ?_)
  refine t_val (r_move rfl) rfl ?_
  refine t_val (r_makeFunc rfl rfl) rfl ?_
  refine t_eff rfl (e_insert (a := ⟨#[111, 117, 116]⟩) Tryz.underlying179 keyStr rfl rfl rfl .here ?_)
  refine t_val (r_move rfl) rfl ?_
  refine t_val (r_makeFunc rfl rfl) rfl ?_
  refine t_eff rfl (e_insert (a := ⟨#[118, 111, 105, 100]⟩) Tryz.underlying179 keyStr rfl rfl rfl .here ?_)
  refine t_val (r_move rfl) rfl ?_
  refine t_val (r_makeFunc rfl rfl) rfl ?_
  refine t_eff rfl (e_insert (a := ⟨#[99, 108, 97, 115, 115]⟩) Tryz.underlying179 keyStr rfl rfl rfl .here ?_)
  refine t_val (r_move rfl) rfl ?_
  refine t_val (r_makeFunc rfl rfl) rfl ?_
  refine t_eff rfl (e_insert (a := ⟨#[108, 101, 103]⟩) Tryz.underlying179 keyStr rfl rfl rfl .here ?_)
  refine t_val (r_move rfl) rfl ?_
  refine t_val (r_makeFunc rfl rfl) rfl ?_
  refine t_eff rfl (e_insert (a := ⟨#[108, 105, 110, 101]⟩) Tryz.underlying179 keyStr rfl rfl rfl .here ?_)
  refine t_val (r_move rfl) rfl ?_
  refine t_val (r_makeFunc rfl rfl) rfl ?_
  refine t_eff rfl (e_insert (a := ⟨#[116, 97, 107, 101]⟩) Tryz.underlying179 keyStr rfl rfl rfl .here ?_)
  refine t_val (r_move rfl) rfl ?_
  refine t_val (r_makeFunc rfl rfl) rfl ?_
  refine t_eff rfl (e_insert (a := ⟨#[112, 117, 98, 108, 105, 115, 104]⟩) Tryz.underlying179 keyStr rfl rfl rfl .here ?_)
  refine t_val (r_move rfl) rfl ?_
  refine t_val (r_makeFunc rfl rfl) rfl ?_
  refine t_eff rfl (e_insert (a := ⟨#[112, 114, 111, 116, 101, 115, 116]⟩) Tryz.underlying179 keyStr rfl rfl rfl .here ?_)
  refine t_val (r_move rfl) rfl ?_
  refine t_val (r_makeFunc rfl rfl) rfl ?_
  refine t_eff rfl (e_insert (a := ⟨#[100, 101, 99, 105, 100, 101]⟩) Tryz.underlying179 keyStr rfl rfl rfl .here ?_)
  refine t_val (r_move rfl) rfl ?_
  refine t_val (r_makeFunc rfl rfl) rfl ?_
  refine t_eff rfl (e_insert (a := ⟨#[114, 101, 106, 101, 99, 116]⟩) Tryz.underlying179 keyStr rfl rfl rfl .here ?_)
  refine t_val (r_move rfl) rfl ?_
  refine t_val (r_makeFunc rfl rfl) rfl ?_
  refine t_eff rfl (e_insert (a := ⟨#[97, 112, 112, 101, 97, 108]⟩) Tryz.underlying179 keyStr rfl rfl rfl .here ?_)
  refine t_val (r_move rfl) rfl ?_
  refine t_val (r_makeFunc rfl rfl) rfl ?_
  refine t_eff rfl (e_insert (a := ⟨#[106, 117, 100, 103, 101]⟩) Tryz.underlying179 keyStr rfl rfl rfl .here ?_)
  refine t_val (r_move rfl) rfl ?_
  refine t_val (r_makeFunc rfl rfl) rfl ?_
  refine t_eff rfl (e_insert (a := ⟨#[100, 105, 115, 109, 105, 115, 115]⟩) Tryz.underlying179 keyStr rfl rfl rfl .here ?_)
  refine t_val (r_move rfl) rfl ?_
  refine t_val (r_makeFunc rfl rfl) rfl ?_
  refine t_eff rfl (e_insert (a := ⟨#[100, 114, 111, 112]⟩) Tryz.underlying179 keyStr rfl rfl rfl .here ?_)
  refine t_val (r_move rfl) rfl ?_
  refine t_val (r_assign rfl) rfl ?_
  refine t_nil ?_
  refine Tr.keep (env' := [(2, _)]) ⟨rfl, trivial⟩ ?_
  refine t_then ?_
  refine t_retc ?_
  refine t_ret1 rfl rfl (fun w hw => ?_)
  exact ⟨b3, rfl, trivial, hw⟩
end
end Go.Proofs.W
