/-
  What functions of the program that RallyChains reaches do, one contract each, part 11.
-/
import Derived.Test.YtkacdmfekjincaaGreatDoorWJ
import Derived.Test.YtkacdmfekjincaaGreatDoorSlB
set_option linter.unusedVariables false
set_option linter.unusedSimpArgs false
set_option linter.unusedSectionVars false
set_option maxRecDepth 100000
namespace Go.Proofs.W
open Go Go.Sl Go.RowKit Go.Proofs
attribute [local irreducible] Go.Sl.Eff
theorem ca_23 : cellsAs Tryz.prog 23 = some (none) := by kernel_rfl
theorem en_24 : Enters Tryz.prog 24 := enters_of Tryz.func24 (by kernel_rfl) (by kernel_rfl)
theorem en_33 : Enters Tryz.prog 33 := enters_of Tryz.func33 (by kernel_rfl) (by kernel_rfl)
theorem en_34 : Enters Tryz.prog 34 := enters_of Tryz.func34 (by kernel_rfl) (by kernel_rfl)
theorem fo_56_5 : fieldOff Tryz.prog 56 5 = some 34 := by kernel_rfl
theorem inf_27 : (Tryz.prog.info? 27).map (fun i => (i.zero, i.size, i.bytes)) = some (some (.agg #[.string ⟨#[]⟩, .string ⟨#[]⟩]), 2, 32) := by kernel_rfl
theorem iz_23 : (Tryz.prog.info? 23).map (·.size) = some 1 := by kernel_rfl
theorem hexd_hex : ∀ d, d < 16 → isHex (hexd d).toNat := by
  intro d h
  have : ∀ d : Fin 16, (48 ≤ (hexd d.val).toNat ∧ (hexd d.val).toNat ≤ 57) ∨ (97 ≤ (hexd d.val).toNat ∧ (hexd d.val).toNat ≤ 102) := by decide
  exact this ⟨d, h⟩
theorem hexA_hex : ∀ f n acc, (∀ b ∈ acc, isHex b.toNat) → ∀ b ∈ hexA f n acc, isHex b.toNat
  | 0, _, acc, h, b, hb => h b hb
  | f + 1, n, acc, h, b, hb => by
    by_cases hn : n < 16
    · rw [hexA_lt hn] at hb
      rcases List.mem_cons.1 hb with rfl | hb
      · exact hexd_hex n hn
      · exact h b hb
    · rw [hexA_ge hn] at hb
      refine hexA_hex f _ _ (fun b hb => ?_) b hb
      rcases List.mem_cons.1 hb with rfl | hb
      · exact hexd_hex _ (by omega)
      · exact h b hb
theorem digitsV_list (n : Nat) : (digitsV n).data.toList = List.replicate (16 - (hexS n).length) 48 ++ hexS n := by
  unfold digitsV
  rw [ByteArray.data_append]
  simp
theorem digitsV_hex {n : Nat} (h : n < 18446744073709551616) : HexOk (digitsV n) := by
  have hl := hexS_len h
  have hL := digitsV_list n
  have hs : (digitsV n).size = 16 := by
    have := congrArg List.length hL
    simp at this
    omega
  refine ⟨by omega, by omega, fun p hp => ?_⟩
  have hm : (digitsV n).get! p ∈ (digitsV n).data.toList := by
    rw [get_ix _ p hp]
    exact Array.mem_toList_iff.2 (Array.getElem_mem _)
  rw [hL] at hm
  rcases List.mem_append.1 hm with h1 | h1
  · rw [(List.mem_replicate.1 h1).2]; unfold isHex; decide
  · exact hexA_hex 17 n [] (by simp) _ h1
structure St where
  g : GuardSt
  lg : WLog
  s0 : Int
  l0 : CLine
  l1 : CLine
  l2 : CLine
  log : List (ByteArray × ByteArray)
abbrev St.c (s : St) : CardM := cd s.s0 s.l0 s.l1 s.l2
structure Mv where
  wl : WAt
  starts : Sl3
  lines : Sl3
abbrev EvAt.mv (e : EvAt) (x : Mv) : EvAt := { e with wl := x.wl, starts := x.starts, lines := x.lines }
abbrev ents (e : EvAt) (lv : Value) (lE : List Ent) (s : St) (M : List Ent) : List Ent :=
  e.ev lv :: e.ec s.c :: e.es s.c :: e.el s.c :: s.g.eg e.gl :: s.g.er e.gl :: s.g.ep e.gl :: s.g.ec e.gl :: s.lg.eb e.wl :: s.lg.em e.wl :: (lE ++ (e.wl.lE ++ (e.wl.sE ++ (e.sa.ents ++ M))))
structure LogOk (lv : Value) (lE : List Ent) (log : List (ByteArray × ByteArray)) : Prop where
  own : Own 27 2 lv (log.map encE) lE
  hex : ∀ x ∈ log, HexOk x.2
  few : log.length ≤ 100
abbrev St.put (s : St) (line : ByteArray) : St := { s with log := s.log ++ [(line, digitsV (chainN (prevN s.log) line))] }
theorem LogOk.next {lv lv' : Value} {lE lE' : List Ent} {log : List (ByteArray × ByteArray)} {line : ByteArray} (h : LogOk lv lE log) (hn : log.length < 100) (ho : Own 27 2 lv' (log.map encE ++ [encE (line, digitsV (chainN (prevN log) line))]) lE') :
    LogOk lv' lE' (log ++ [(line, digitsV (chainN (prevN log) line))]) :=
  ⟨by simpa using ho, fun x hx => by
    rcases List.mem_append.1 hx with hx | hx
    · exact h.hex x hx
    · rw [List.mem_singleton.1 hx]; exact digitsV_hex (chainN_lt _ _), by simp; omega⟩
section
variable {w0 : World} {M : List Ent}
theorem evReady_c {ea : EvAt} {lv : Value} (hev : ea.ev lv ∈ M) : ∀ w, Ok w0 M w → Calls Tryz.prog 24 #[.pointer (some ⟨ea.eb, 0, none⟩)] w (fun e w' => e = .returned (.bool true) ∧ Ok w0 M w') := by
  refine enter (vs := [_]) Tryz.func24 rfl Tryz.ntmps24 rfl ?_
  refine t_seq ?_
  refine t_region ?_
  refine t_val (r_assign rfl) rfl ?_
  refine t_nil ?_
  refine Tr.keep (env' := [(0, _)]) ⟨rfl, trivial⟩ ?_
  refine t_then ?_
  refine t_seq ?_
  refine t_region ?_
  refine t_val (r_move rfl) rfl ?_
  refine t_val (r_to (v2 := .bool true) (r_nenil Tryz.underlying33 rfl rfl) rfl) rfl ?_
  refine t_val (r_move rfl) rfl ?_
  refine t_gval rfl rfl (r_move rfl) rfl ?_
  refine t_gval rfl rfl (r_nilCheck rfl) rfl ?_
  refine t_gval rfl rfl (r_fa fo_56_1 rfl) rfl ?_
  refine t_gval rfl rfl (r_load ca_51 rfl (rd_m hev rfl)) rfl ?_
  refine t_gval rfl rfl (r_to (v2 := .bool true) (r_nenil Tryz.underlying51 rfl rfl) rfl) rfl ?_
  refine t_val (r_pick_t rfl rfl) rfl ?_
  refine t_val (r_assign rfl) rfl ?_
  refine t_nil ?_
  refine Tr.keep (env' := [(2, _)]) ⟨rfl, trivial⟩ ?_
  refine t_then ?_
  refine t_retc ?_
  refine t_ret1 rfl rfl (fun w hw => ?_)
  exact ⟨rfl, hw⟩
theorem chained_log (hT : Tab w0) {A : Option Addr} {c : Nat} {log : List (ByteArray × ByteArray)} {lE : List Ent} (h : LogOk (.slice A log.length c) lE log) (hs : SlRd w0 M 2 A log.length (log.map encE)) (line : ByteArray) (hl : line.size ≤ 4611686018427387904) :
   ∀ w, Ok w0 M w → Calls Tryz.prog 34 #[.slice A log.length c, .string line] w (fun e w' => e = .returned (.string (digitsV (chainN (prevN log) line))) ∧ Ok w0 M w') := by
  rcases Nat.eq_zero_or_pos log.length with h0 | h0
  · exact chained_0 hT hs (List.eq_nil_of_length_eq_zero h0) line hl
  · obtain ⟨x, hx⟩ : ∃ x, log[log.length - 1]? = some x := ⟨_, List.getElem?_eq_getElem (by omega)⟩
    exact chained_n hT hs h0 x hx (h.hex x (List.mem_of_getElem? hx)) line hl
theorem do_ok (hT : Tab w0) {e : EvAt} {lv : Value} {lE : List Ent} {s s' : St} {line : ByteArray} (hlog : LogOk lv lE s.log) (hlt : s.log.length < 100) (hline : line.size ≤ 1000) (hsl : s'.log = s.log) (hap : ∀ w, Ok w0 (ents e lv lE s M) w → Calls Tryz.prog 33 #[.pointer (some ⟨e.eb, 0, none⟩), .string line] w (fun r w' => ∃ M2, r = .returned (.int .i64 0) ∧ (∃ x : Mv, s'.lg.Lies x.wl ∧ M2 = ents (e.mv x) lv lE s' M) ∧ Ok w0 M2 w')) :
   ∀ w, Ok w0 (ents e lv lE s M) w → Calls Tryz.prog 15 #[.pointer (some ⟨e.eb, 0, none⟩), .string line] w (fun r w' => ∃ x : Mv × Value × List Ent, r = .returned (.int .i64 0) ∧ (s'.lg.Lies x.1.wl ∧ LogOk x.2.1 x.2.2 (s'.put line).log) ∧ Ok w0 (ents (e.mv x.1) x.2.1 x.2.2 (s'.put line) M) w') := by
  have hlog' := hlog
  have hbl := hlog.few
  obtain ⟨A, c, rfl, _, _, hrd⟩ := hlog.own.rd (by simp; omega)
  simp only [List.length_map] at hlog hrd hap ⊢
  obtain ⟨g', lg', a0, b0, b1, b2, lo⟩ := s'
  dsimp only at hsl
  subst hsl
  refine enter (vs := [_, _]) Tryz.func15 rfl Tryz.ntmps15 rfl ?_
  refine t_seq ?_
  refine t_region ?_
  refine t_val (r_assign rfl) rfl ?_
  refine t_nil ?_
  refine Tr.keep (env' := [(0, _), (1, _)]) ⟨rfl, rfl, trivial⟩ ?_
  refine t_then ?_
  refine t_seq ?_
  refine t_seq ?_
  refine t_region ?_
  refine t_val (r_move rfl) rfl ?_
  refine t_eff rfl (e_pcall en_24 rfl rfl rfl rfl (evReady_c (ea := e) (.head _)) ?_)
  refine t_val (r_not rfl) rfl ?_
  refine t_nil ?_
  refine Tr.keep (env' := [(0, _), (1, _), (12, _)]) ⟨rfl, rfl, rfl, trivial⟩ ?_
  refine t_then ?_
  refine t_cond_f rfl ?_
  refine t_skip ?_
  refine t_then ?_
  refine t_seq ?_
  refine t_seq ?_
  refine t_region ?_
  refine t_val (r_move rfl) rfl ?_
  refine t_val (r_nilCheck rfl) rfl ?_
  refine t_val (r_fa fo_56_5 rfl) rfl ?_
  refine t_val (r_load ca_23 rfl (rd_m (.head _) rfl)) rfl ?_
  refine t_val (r_len_slice Tryz.underlying23 rfl) rfl ?_
  refine t_val (r_ge rfl rfl) rfl ?_
  refine t_nil ?_
  refine Tr.keep (env' := [(0, _), (1, _), (18, _)]) ⟨rfl, rfl, rfl, trivial⟩ ?_
  refine t_then ?_
  refine t_cond_f (b_of (by simp; omega)) ?_
  refine t_skip ?_
  refine t_then ?_
  refine t_seq ?_
  refine t_seq ?_
  refine t_region ?_
  refine t_val (r_move rfl) rfl ?_
  refine t_val (r_move rfl) rfl ?_
  refine t_eff rfl (e_call en_33 rfl rfl rfl rfl hap fun M2 hM2 => ?_)
  obtain ⟨x, hx, rfl⟩ := hM2
  refine t_val (r_assign rfl) rfl ?_
  refine t_nil ?_
  refine Tr.keep (env' := [(0, _), (1, _), (9, _)]) ⟨rfl, rfl, rfl, trivial⟩ ?_
  refine t_then ?_
  refine t_seq ?_
  refine t_region ?_
  refine t_val (r_move rfl) rfl ?_
  refine t_val (r_ne rfl rfl) rfl ?_
  refine t_nil ?_
  refine Tr.keep (env' := [(0, _), (1, _), (9, _), (43, _)]) ⟨rfl, rfl, rfl, rfl, trivial⟩ ?_
  refine t_then ?_
  refine t_cond_f rfl ?_
  refine t_skip ?_
  refine t_then ?_
  refine t_seq ?_
  refine k_beginS (S1 := [(e.mv x).ev (.slice A s.log.length c)]) (S2 := []) 17 mixed rfl ?_
  refine k_val1 0 rfl (by kernel_rfl) (by kernel_rfl) (by kernel_rfl) rfl (by kernel_rfl) (List.nil_sublist _) (.then .body) (.cons_cons _ (List.nil_sublist _)) rfl (r_move rfl) ?_
  refine k_val1 1 rfl (by kernel_rfl) (by kernel_rfl) (by kernel_rfl) rfl (by kernel_rfl) (List.nil_sublist _) (.then .body) (.cons_cons _ (List.nil_sublist _)) rfl (r_move rfl) ?_
  refine k_val1 2 rfl (by kernel_rfl) (by kernel_rfl) (by kernel_rfl) rfl (by kernel_rfl) (List.nil_sublist _) (.then .body) (.cons_cons _ (List.nil_sublist _)) rfl (r_nilCheck rfl) ?_
  refine k_val1 3 rfl (by kernel_rfl) (by kernel_rfl) (by kernel_rfl) rfl (by kernel_rfl) (List.nil_sublist _) (.then .body) (.cons_cons _ (List.nil_sublist _)) rfl (r_fa fo_56_5 rfl) ?_
  refine k_val 4 rfl (by kernel_rfl) (by kernel_rfl) (by kernel_rfl) rfl (by kernel_rfl) (by kernel_rfl) (.then .body) (.cons_cons _ (List.nil_sublist _)) rfl (r_load ca_23 rfl (rd_m (.head _) rfl)) ?_
  refine k_val1 5 rfl (by kernel_rfl) (by kernel_rfl) (by kernel_rfl) rfl (by kernel_rfl) (List.nil_sublist _) (.then .body) (.cons_cons _ (List.nil_sublist _)) rfl (r_move rfl) ?_
  refine k_val1 6 rfl (by kernel_rfl) (by kernel_rfl) (by kernel_rfl) rfl (by kernel_rfl) (List.nil_sublist _) (.then .body) (.cons_cons _ (List.nil_sublist _)) rfl (r_move rfl) ?_
  refine k_val1 7 rfl (by kernel_rfl) (by kernel_rfl) (by kernel_rfl) rfl (by kernel_rfl) (List.nil_sublist _) (.then .body) (.cons_cons _ (List.nil_sublist _)) rfl (r_nilCheck rfl) ?_
  refine k_val1 8 rfl (by kernel_rfl) (by kernel_rfl) (by kernel_rfl) rfl (by kernel_rfl) (List.nil_sublist _) (.then .body) (.cons_cons _ (List.nil_sublist _)) rfl (r_fa fo_56_5 rfl) ?_
  refine k_val 9 rfl (by kernel_rfl) (by kernel_rfl) (by kernel_rfl) rfl (by kernel_rfl) (by kernel_rfl) (.then .body) (.cons_cons _ (List.nil_sublist _)) rfl (r_load ca_23 rfl (rd_m (.head _) rfl)) ?_
  refine k_val1 10 rfl (by kernel_rfl) (by kernel_rfl) (by kernel_rfl) rfl (by kernel_rfl) (List.nil_sublist _) (.then .body) (.cons_cons _ (List.nil_sublist _)) rfl (r_move rfl) ?_
  refine k_eff 11 rfl rfl (by kernel_rfl) (e_pcall en_34 rfl rfl rfl rfl (chained_log hT hlog (hrd _ _ (fun z hz => (.tail _ (.tail _ (.tail _ (.tail _ (.tail _ (.tail _ (.tail _ (.tail _ (.tail _ (.tail _ (List.mem_append_left _ hz))))))))))))) line (by omega)) ?_)
  refine k_held1 (by kernel_rfl) (.cons_cons _ (List.nil_sublist _)) ?_
  refine k_val1 12 rfl (by kernel_rfl) (by kernel_rfl) (by kernel_rfl) rfl (by kernel_rfl) (List.nil_sublist _) (.then .body) (.cons_cons _ (List.nil_sublist _)) rfl (r_build rfl (v := .agg #[.string line, .string (digitsV (chainN (prevN s.log) line))]) (fun w => by kernel_rfl)) ?_
  refine k_eff 13 rfl rfl (by kernel_rfl) (e_buildSlice (E := 27) (l := encE (line, digitsV (chainN (prevN s.log) line))) rfl (fun w => by kernel_rfl) rfl fun b58 => ?_)
  refine k_held1 (by kernel_rfl) (.cons _ (.cons_cons _ (List.nil_sublist _))) ?_
  refine k_eff 14 rfl rfl (by kernel_rfl) (e_append Tryz.underlying23 inf_27 rfl (by decide) rfl rfl hlog.own (pk .here (pkb (.there (.there (.there (.there (.there (.there (.there (.there (.there (.there .here)))))))))) (.refl _))) rfl (by simp [encE, Value.oneCell']) (by have := hlog.few; simp; omega) (by have := hlog.few; simp [maxLen]; omega) rfl fun v1 E1 hO1 => ?_)
  refine k_held1 (by kernel_rfl) (List.Sublist.trans (.cons_cons _ (List.nil_sublist _)) (List.sublist_append_right _ _)) ?_
  refine k_val1 15 rfl (by kernel_rfl) (by kernel_rfl) (by kernel_rfl) rfl (by kernel_rfl) (List.nil_sublist _) (.then .body) (List.Sublist.trans (.cons_cons _ (List.nil_sublist _)) (List.sublist_append_right _ _)) rfl (r_nilCheck rfl) ?_
  refine k_val1 16 rfl (by kernel_rfl) (by kernel_rfl) (by kernel_rfl) rfl (by kernel_rfl) (List.nil_sublist _) (.then .body) (List.Sublist.trans (.cons_cons _ (List.nil_sublist _)) (List.sublist_append_right _ _)) rfl (r_fa fo_56_5 rfl) ?_
  refine k_eff 17 rfl rfl (by kernel_rfl) (e_store iz_23 rfl rfl (Own.one hO1) (.succ (.succ (.succ (.succ (.succ (.succ (.succ (.succ (.succ (.succ (.succ (.succ (.succ (.succ (.succ (.succ (.succ (.succ (.succ (.succ (.succ (.succ (.succ (.succ (.succ (.succ (.succ (.succ (.succ (.succ (.succ (.succ (.succ (.succ .zero)))))))))))))))))))))))))))))))))) (.right .here) ?_)
  refine k_held2 (by kernel_rfl) (List.nil_sublist _) ?_
  refine k_end (by kernel_rfl) ?_
  refine Tr.keep (env' := []) trivial ?_
  refine t_then ?_
  refine t_seq ?_
  refine t_region ?_
  refine t_val (r_assign rfl) rfl ?_
  refine t_nil ?_
  refine Tr.keep (env' := [(4, _)]) ⟨rfl, trivial⟩ ?_
  refine t_then ?_
  refine t_retc ?_
  refine t_ret1 rfl rfl (fun w hw => ?_)
  exact ⟨(x, v1, E1), rfl, ⟨hx, hlog'.next (by omega) hO1⟩, hw.perm (pk (.right .here) (pk (.right .here) (pk (.right .here) (pk (.right .here) (pk (.right .here) (pk (.right .here) (pk (.right .here) (pk (.right .here) (pk (.right .here) (pk (.right .here) (pkb .here (.refl _))))))))))))⟩
theorem do_err {e : EvAt} {lv : Value} {lE : List Ent} {s : St} {line : ByteArray} {z : Int} (hz : z ≠ 0) (hlog : LogOk lv lE s.log) (hap : ∀ w, Ok w0 (ents e lv lE s M) w → Calls Tryz.prog 33 #[.pointer (some ⟨e.eb, 0, none⟩), .string line] w (fun r w' => r = .returned (.int .i64 z) ∧ Ok w0 (ents e lv lE s M) w')) :
   ∀ w, Ok w0 (ents e lv lE s M) w → Calls Tryz.prog 15 #[.pointer (some ⟨e.eb, 0, none⟩), .string line] w (fun r w' => r = .returned (.int .i64 z) ∧ Ok w0 (ents e lv lE s M) w') := by
  have hlog' := hlog
  have hbl := hlog.few
  obtain ⟨A, c, rfl, _, _, hrd⟩ := hlog.own.rd (by simp; omega)
  simp only [List.length_map] at hlog hrd hap ⊢
  refine enter (vs := [_, _]) Tryz.func15 rfl Tryz.ntmps15 rfl ?_
  refine t_seq ?_
  refine t_region ?_
  refine t_val (r_assign rfl) rfl ?_
  refine t_nil ?_
  refine Tr.keep (env' := [(0, _), (1, _)]) ⟨rfl, rfl, trivial⟩ ?_
  refine t_then ?_
  refine t_seq ?_
  refine t_seq ?_
  refine t_region ?_
  refine t_val (r_move rfl) rfl ?_
  refine t_eff rfl (e_pcall en_24 rfl rfl rfl rfl (evReady_c (ea := e) (.head _)) ?_)
  refine t_val (r_not rfl) rfl ?_
  refine t_nil ?_
  refine Tr.keep (env' := [(0, _), (1, _), (12, _)]) ⟨rfl, rfl, rfl, trivial⟩ ?_
  refine t_then ?_
  refine t_cond_f rfl ?_
  refine t_skip ?_
  refine t_then ?_
  refine t_seq ?_
  refine t_seq ?_
  refine t_region ?_
  refine t_val (r_move rfl) rfl ?_
  refine t_val (r_nilCheck rfl) rfl ?_
  refine t_val (r_fa fo_56_5 rfl) rfl ?_
  refine t_val (r_load ca_23 rfl (rd_m (.head _) rfl)) rfl ?_
  refine t_val (r_len_slice Tryz.underlying23 rfl) rfl ?_
  refine t_val (r_ge rfl rfl) rfl ?_
  refine t_nil ?_
  refine Tr.keep (env' := [(0, _), (1, _), (18, _)]) ⟨rfl, rfl, rfl, trivial⟩ ?_
  refine t_then ?_
  refine t_cond_f (b_of (by simp; omega)) ?_
  refine t_skip ?_
  refine t_then ?_
  refine t_seq ?_
  refine t_seq ?_
  refine t_region ?_
  refine t_val (r_move rfl) rfl ?_
  refine t_val (r_move rfl) rfl ?_
  refine t_eff rfl (e_pcall en_33 rfl rfl rfl rfl hap ?_)
  refine t_val (r_assign rfl) rfl ?_
  refine t_nil ?_
  refine Tr.keep (env' := [(0, _), (1, _), (9, _)]) ⟨rfl, rfl, rfl, trivial⟩ ?_
  refine t_then ?_
  refine t_seq ?_
  refine t_region ?_
  refine t_val (r_move rfl) rfl ?_
  refine t_val (r_ne rfl rfl) rfl ?_
  refine t_nil ?_
  refine Tr.keep (env' := [(0, _), (1, _), (9, _), (43, _)]) ⟨rfl, rfl, rfl, rfl, trivial⟩ ?_
  refine t_then ?_
  refine t_cond_t (b_of (by simp [hz])) ?_
  refine t_seq ?_
  refine t_region ?_
  refine t_val (r_move rfl) rfl ?_
  refine t_val (r_assign rfl) rfl ?_
  refine t_nil ?_
  refine Tr.keep (env' := [(4, _)]) ⟨rfl, trivial⟩ ?_
  refine t_then ?_
  refine t_retc ?_
  refine t_then_ret ?_
  refine t_ret1 rfl rfl (fun w hw => ?_)
  exact ⟨rfl, hw⟩
end
end Go.Proofs.W
set_option linter.unusedVariables false
set_option linter.unusedSimpArgs false
set_option linter.unusedSectionVars false
set_option maxRecDepth 100000
namespace Go.Proofs.W
open Go Go.Sl Go.RowKit Go.Proofs
attribute [local irreducible] Go.Sl.Eff
theorem ca_199 : cellsAs Tryz.prog 199 = some (none) := by kernel_rfl
theorem ca_200 : cellsAs Tryz.prog 200 = some (none) := by kernel_rfl
theorem en_172 : Enters Tryz.prog 172 := enters_of Tryz.func172 (by kernel_rfl) (by kernel_rfl)
theorem en_173 : Enters Tryz.prog 173 := enters_of Tryz.func173 (by kernel_rfl) (by kernel_rfl)
theorem en_238 : Enters Tryz.prog 238 := enters_of Tryz.func238 (by kernel_rfl) (by kernel_rfl)
theorem fo_202_0 : fieldOff Tryz.prog 202 0 = some 0 := by kernel_rfl
theorem fo_202_1 : fieldOff Tryz.prog 202 1 = some 1 := by kernel_rfl
theorem inf_5 : (Tryz.prog.info? 5).map (fun i => (i.zero, i.size, i.bytes)) = some (some ((.int .u8 0)), 1, 1) := by kernel_rfl
theorem iz_199 : (Tryz.prog.info? 199).map (·.size) = some 1 := by kernel_rfl
theorem iz_200 : (Tryz.prog.info? 200).map (·.size) = some 1 := by kernel_rfl
theorem iz_202 : (Tryz.prog.info? 202).map (·.size) = some 2 := by kernel_rfl
theorem xt_239_noEscape : IsExt Tryz.prog 239 Extern.AbiNoEscape.same := ⟨_, Tryz.func239, by kernel_rfl, by kernel_rfl, by kernel_rfl, by kernel_rfl⟩
section
variable {w0 : World} {M : List Ent}
theorem strIndex_c (s : ByteArray) (c : UInt8) : ∀ w, Ok w0 M w → Calls Tryz.prog 238 #[.string s, .string ⟨#[c]⟩] w (fun e w' => e = .returned (.int .i64 (ixB s c)) ∧ Ok w0 M w') := by
  refine enter (vs := [_, _]) Tryz.func238 rfl Tryz.ntmps238 rfl ?_
  refine t_seq ?_
  refine t_region ?_
  refine t_val (r_assign rfl) rfl ?_
  refine t_nil ?_
  refine Tr.keep (env' := [(0, _), (1, _)]) ⟨rfl, rfl, trivial⟩ ?_
  refine t_then ?_
  refine t_seq ?_
  refine t_region ?_
  refine t_val (r_move rfl) rfl ?_
  refine t_val (r_move rfl) rfl ?_
  refine t_eff rfl (e_pcall en_267 rfl rfl rfl rfl (slIndex_c s c) ?_)
  refine t_val (r_assign rfl) rfl ?_
  refine t_nil ?_
  refine Tr.keep (env' := [(4, _)]) ⟨rfl, trivial⟩ ?_
  refine t_then ?_
  refine t_retc ?_
  refine t_ret1 rfl rfl (fun w hw => ?_)
  exact ⟨rfl, hw⟩
theorem splitSeq_c (s : ByteArray) (c : UInt8) : ∀ w, Ok w0 M w → Calls Tryz.prog 172 #[.string s, .string ⟨#[c]⟩, .int .i64 0] w (fun e w' => ∃ b : Nat × Nat × Nat, e = .returned (.func (.func 236) #[] #[.pointer (some ⟨b.2.1, 0, none⟩), .pointer (some ⟨b.2.2, 0, none⟩), .pointer (some ⟨b.1, 0, none⟩)]) ∧ True ∧ Ok w0 (cel b.1 3 [.int .i64 0] :: cel b.2.1 9 [.string ⟨#[c]⟩] :: cel b.2.2 9 [.string s] :: M) w') := by
  refine enter (vs := [_, _, _]) Tryz.func172 rfl Tryz.ntmps172 rfl ?_
  refine t_seq ?_
  refine t_region ?_
  refine t_eff rfl (e_box1 rfl rfl rfl fun b3 => ?_)
  refine t_eff rfl (e_box1 rfl rfl rfl fun b4 => ?_)
  refine t_eff rfl (e_box1 rfl rfl rfl fun b5 => ?_)
  refine t_val (r_assign rfl) rfl ?_
  refine t_nil ?_
  refine Tr.keep (env' := [(3, _), (4, _), (5, _)]) ⟨rfl, rfl, rfl, trivial⟩ ?_
  refine t_then ?_
  refine t_seq ?_
  refine t_region ?_
  refine t_val (r_makeFunc rfl rfl) rfl ?_
  refine t_val (r_assign rfl) rfl ?_
  refine t_nil ?_
  refine Tr.keep (env' := [(6, _)]) ⟨rfl, trivial⟩ ?_
  refine t_then ?_
  refine t_retc ?_
  refine t_ret1 rfl rfl (fun w hw => ?_)
  exact ⟨(b5, b4, b3), rfl, trivial, hw⟩
theorem splitSeqE_c (s : ByteArray) (c : UInt8) : ∀ w, Ok w0 M w → Calls Tryz.prog 92 #[.string s, .string ⟨#[c]⟩] w (fun e w' => ∃ b : Nat × Nat × Nat, e = .returned (.func (.func 236) #[] #[.pointer (some ⟨b.2.1, 0, none⟩), .pointer (some ⟨b.2.2, 0, none⟩), .pointer (some ⟨b.1, 0, none⟩)]) ∧ True ∧ Ok w0 (cel b.1 3 [.int .i64 0] :: cel b.2.1 9 [.string ⟨#[c]⟩] :: cel b.2.2 9 [.string s] :: M) w') := by
  refine enter (vs := [_, _]) Tryz.func92 rfl Tryz.ntmps92 rfl ?_
  refine t_seq ?_
  refine t_region ?_
  refine t_val (r_assign rfl) rfl ?_
  refine t_nil ?_
  refine Tr.keep (env' := [(0, _), (1, _)]) ⟨rfl, rfl, trivial⟩ ?_
  refine t_then ?_
  refine t_seq ?_
  refine t_region ?_
  refine t_val (r_move rfl) rfl ?_
  refine t_val (r_move rfl) rfl ?_
  refine t_eff rfl (e_call en_172 rfl rfl rfl rfl (splitSeq_c s c) fun b _ => ?_)
  refine t_val (r_assign rfl) rfl ?_
  refine t_nil ?_
  refine Tr.keep (env' := [(4, _)]) ⟨rfl, trivial⟩ ?_
  refine t_then ?_
  refine t_retc ?_
  refine t_ret1 rfl rfl (fun w hw => ?_)
  exact ⟨b, rfl, trivial, hw⟩
theorem split1_c {σ : Type} {inv : List ByteArray → σ → Prop} {Me : σ → List Ent} {l : Nat} {b : Nat × Nat × Nat} {c : UInt8} {rr : Loop} {Fr : List Ent} (str : ByteArray) (hsz : str.size ≤ 4611686018427387904)
   (hy : Sl.Yields Tryz.prog w0 encS inv Me (splitB c str.size str) l rr) (s0 : σ) (h0 : inv [] s0) :
   ∀ w, Ok w0 (recE l rr :: (cel b.1 3 [.int .i64 0] :: cel b.2.1 9 [.string ⟨#[c]⟩] :: cel b.2.2 9 [.string str] :: (Fr ++ Me s0))) w → Calls Tryz.prog 236 #[.func (.yield l) #[] #[], .pointer (some ⟨b.2.1, 0, none⟩), .pointer (some ⟨b.2.2, 0, none⟩), .pointer (some ⟨b.1, 0, none⟩)] w (fun e w' => (∃ v, e = .returned v) ∧ ∃ s : σ, inv (splitB c str.size str) s ∧ Ok w0 (recE l rr :: (Fr ++ Me s)) w') := by
  refine enter (vs := [_, _, _, _]) Tryz.func236 rfl Tryz.ntmps236 rfl ?_
  refine t_seq ?_
  refine t_seq ?_
  refine t_region ?_
  refine t_val (r_load ca_9 rfl (rd_m (.tail _ (.tail _ (.head _))) rfl)) rfl ?_
  refine t_val (r_to (v2 := .int .i64 1) (r_len_str Tryz.underlying9 rfl) rfl) rfl ?_
  refine t_val (r_eq rfl rfl) rfl ?_
  refine t_nil ?_
  refine Tr.keep (env' := [(0, _), (1, _), (2, _), (3, _), (11, _)]) ⟨rfl, rfl, rfl, rfl, rfl, trivial⟩ ?_
  refine t_then ?_
  refine t_cond_f rfl ?_
  refine t_skip ?_
  refine t_then ?_
  refine t_seq ?_
  refine t_block ?_
  refine t_loop (fun z : List ByteArray × Nat × ByteArray × σ => [(0, .func (.yield l) #[] #[]), (1, .pointer (some ⟨b.2.1, 0, none⟩)), (2, .pointer (some ⟨b.2.2, 0, none⟩)), (3, .pointer (some ⟨b.1, 0, none⟩))]) (fun z : List ByteArray × Nat × ByteArray × σ => recE l rr :: (cel b.1 3 [.int .i64 0] :: cel b.2.1 9 [.string ⟨#[c]⟩] :: cel b.2.2 9 [.string z.2.2.1] :: (Fr ++ Me z.2.2.2))) (fun z : List ByteArray × Nat × ByteArray × σ => z.2.2.1.size ≤ z.2.1 ∧ z.2.1 ≤ str.size ∧ splitB c str.size str = z.1 ++ splitB c z.2.1 z.2.2.1 ∧ inv z.1 z.2.2.2) (fun z : List ByteArray × Nat × ByteArray × σ => z.2.1) ([], str.size, str, s0) ⟨Nat.le_refl _, Nat.le_refl _, rfl, h0⟩ ⟨rfl, rfl, rfl, rfl, trivial⟩ (.refl _) ?_
  intro K ⟨pre, n, cur, s⟩ ⟨hn, hnl, hxs, hI⟩ IH
  dsimp only at hn hnl hxs hI IH ⊢
  obtain ⟨post, hp, hp1, hp2⟩ := splitB_step c n cur hn
  refine t_block ?_
  refine t_seq ?_
  refine t_region ?_
  refine t_val (r_load ca_9 rfl (rd_m (.tail _ (.tail _ (.tail _ (.head _)))) rfl)) rfl ?_
  refine t_val (r_load ca_9 rfl (rd_m (.tail _ (.tail _ (.head _))) rfl)) rfl ?_
  refine t_eff rfl (e_pcall en_238 rfl rfl rfl rfl (strIndex_c cur c) ?_)
  refine t_val (r_assign rfl) rfl ?_
  refine t_nil ?_
  refine Tr.keep (env' := [(0, _), (1, _), (2, _), (3, _), (7, _)]) ⟨rfl, rfl, rfl, rfl, rfl, trivial⟩ ?_
  refine t_then ?_
  refine t_seq ?_
  refine t_seq ?_
  refine t_region ?_
  refine t_val (r_move rfl) rfl ?_
  refine t_val (r_lt rfl rfl) rfl ?_
  refine t_nil ?_
  refine Tr.keep (env' := [(0, _), (1, _), (2, _), (3, _), (7, _), (33, _)]) ⟨rfl, rfl, rfl, rfl, rfl, rfl, trivial⟩ ?_
  refine t_then ?_
  refine t_cond rfl (fun hm => ?_) (fun hm => ?_)
  · have h9 : ¬ 0 ≤ ixB cur c := by have := of_decide_eq_true hm; omega
    have hcur : (cutB cur c).1 = cur := by simp [cutB, h9]
    obtain rfl := hp2 (by simp [cutB, h9])
    refine t_exit ?_
    refine t_then_exit ?_
    refine t_in_miss rfl ?_
    refine t_then_exit ?_
    refine t_in_hit ?_
    refine t_then ?_
    refine t_regionI ?_
    refine i_val (r_move rfl) rfl ?_
    refine i_val (r_load ca_9 rfl (rd_m (.tail _ (.tail _ (.tail _ (.head _)))) rfl)) rfl ?_
    refine i_effI rfl (e_yield rfl rfl rfl (fun w hw => hy (_ :: _ :: _ :: Fr) pre cur [] (by rw [hxs, hp, hcur]) s hI w hw) (fun s1 h1 => ?_))
    refine i_nil ?_
    refine Tr.keep (env' := []) trivial ?_
    refine t_end0 rfl (fun w hw => ?_)
    exact ⟨⟨_, rfl⟩, s1, by rw [hxs, hp, hcur]; exact h1, hw.sub (.cons_cons _ (.cons _ (.cons _ (.cons _ (.refl _)))))⟩
  · have h9 : 0 ≤ ixB cur c := by have := of_decide_eq_false hm; omega
    have hlt := ixB_lt h9
    have hc1 : cur.extract 0 (ixB cur c).toNat = (cutB cur c).1 := by simp [cutB, h9]
    have hc2 : cur.extract ((ixB cur c).toNat + 1) cur.size = (cutB cur c).2.1 := by simp [cutB, h9]
    obtain ⟨k, rfl, rfl, hk⟩ := hp1 (by simp [cutB, h9])
    refine t_skip ?_
    refine t_then ?_
    refine t_seq ?_
    refine t_region ?_
    refine t_val (r_load ca_9 rfl (rd_m (.tail _ (.tail _ (.tail _ (.head _)))) rfl)) rfl ?_
    refine t_val (r_move rfl) rfl ?_
    refine t_val (r_load ca_3 rfl (rd_m (.tail _ (.head _)) rfl)) rfl ?_
    refine t_val (r_to (v2 := .int .i64 (ixB cur c)) (r_addi rfl rfl (by omega)) (congrArg (Value.int .i64) (Int.add_zero _))) rfl ?_
    refine t_val (r_to (v2 := .string (cutB cur c).1) (r_ss_h (ixB cur c).toNat Tryz.underlying9 rfl rfl (by omega) (by omega)) (congrArg Value.string hc1)) rfl ?_
    refine t_val (r_assign rfl) rfl ?_
    refine t_nil ?_
    refine Tr.keep (env' := [(0, _), (1, _), (2, _), (3, _), (7, _), (8, _)]) ⟨rfl, rfl, rfl, rfl, rfl, rfl, trivial⟩ ?_
    refine t_then ?_
    refine t_seq ?_
    refine t_seq ?_
    refine t_regionI ?_
    refine i_val (r_move rfl) rfl ?_
    refine i_val (r_move rfl) rfl ?_
    refine i_effI rfl (e_yield rfl rfl rfl (fun w hw => hy (_ :: _ :: _ :: Fr) pre _ _ (by rw [hxs, hp]) s hI w hw) (fun s1 h1 => ?_))
    refine i_val (r_not rfl) rfl ?_
    refine i_nil ?_
    refine Tr.keep (env' := [(0, _), (1, _), (2, _), (3, _), (7, _), (42, _)]) ⟨rfl, rfl, rfl, rfl, rfl, rfl, trivial⟩ ?_
    refine t_then ?_
    refine t_cond_f rfl ?_
    refine t_skip ?_
    refine t_then ?_
    refine t_region ?_
    refine t_val (r_load ca_9 rfl (rd_m (.tail _ (.tail _ (.tail _ (.head _)))) rfl)) rfl ?_
    refine t_val (r_move rfl) rfl ?_
    refine t_val (r_load ca_9 rfl (rd_m (.tail _ (.tail _ (.head _))) rfl)) rfl ?_
    refine t_val (r_to (v2 := .int .i64 1) (r_len_str Tryz.underlying9 rfl) rfl) rfl ?_
    refine t_val (r_to (v2 := .int .i64 (((ixB cur c).toNat + 1 : Nat) : Int)) (r_addi rfl rfl (by omega)) (congrArg (Value.int .i64) (by omega))) rfl ?_
    refine t_val (r_to (v2 := .string (cutB cur c).2.1) (r_ss_l ((ixB cur c).toNat + 1) Tryz.underlying9 rfl rfl rfl (by omega)) (congrArg Value.string hc2)) rfl ?_
    refine t_eff rfl (e_store iz_9 rfl rfl rfl .zero (.there (.there (.there .here))) ?_)
    refine t_nil ?_
    refine Tr.keep (env' := [(0, _), (1, _), (2, _), (3, _)]) ⟨rfl, rfl, rfl, rfl, trivial⟩ ?_
    refine t_in ?_
    refine t_then ?_
    refine t_K (IH (pre ++ [(cutB cur c).1], k, (cutB cur c).2.1, s1) ⟨hk, by show k ≤ str.size; omega, by rw [hxs, hp]; simp, h1⟩ (by simp)) ⟨rfl, rfl, rfl, rfl, trivial⟩ (.refl _)
theorem liesB : liesAt Tryz.prog Tryz.prog.depth 202 (2 / Tryz.prog.cellsOf 202) 0 202 1 = true := by kernel_rfl
theorem cellsU8 : Tryz.prog.cellsOf 5 = 1 := by kernel_rfl
theorem copyCheck_new {b : Nat} {v : Value} : ∀ w, Ok w0 (cel b 202 [.pointer none, v] :: M) w → Calls Tryz.prog 173 #[.pointer (some ⟨b, 0, none⟩)] w (fun e w' => e = .returned (.tuple #[]) ∧ Ok w0 (cel b 202 [.pointer (some ⟨b, 0, none⟩), v] :: M) w') := by
  refine enter (vs := [_]) Tryz.func173 rfl Tryz.ntmps173 rfl ?_
  refine t_seq ?_
  refine t_region ?_
  refine t_val (r_move rfl) rfl ?_
  refine t_val (r_nilCheck rfl) rfl ?_
  refine t_val (r_fa fo_202_0 rfl) rfl ?_
  refine t_val (r_load ca_199 rfl (rd_m (.head _) rfl)) rfl ?_
  refine t_val (r_to (v2 := .bool true) (r_eqnil Tryz.underlying199 rfl rfl) rfl) rfl ?_
  refine t_nil ?_
  refine Tr.keep (env' := [(0, _), (6, _)]) ⟨rfl, rfl, trivial⟩ ?_
  refine t_then ?_
  refine t_cond_t rfl ?_
  refine t_region ?_
  refine t_val (r_move rfl) rfl ?_
  refine t_val (r_move rfl) rfl ?_
  refine t_val (r_toUnsafe Tryz.underlying199 Tryz.underlying339 iz_202 (by decide) rfl (.head _) (by simp)) rfl ?_
  refine t_eff rfl ?_
  refine e_noEscape (v := .pointer (some ⟨b, 0, none⟩)) ?_ ?_ ?_ ?_
  · exact xt_239_noEscape
  · rfl
  · rfl
  refine t_val (r_fromUnsafe Tryz.underlying339 Tryz.underlying199 (by kernel_rfl) rfl (.head _) rfl liesB) rfl ?_
  refine t_val (r_nilCheck rfl) rfl ?_
  refine t_val (r_fa fo_202_0 rfl) rfl ?_
  refine t_eff rfl (e_store iz_199 rfl rfl rfl .zero .here ?_)
  refine t_nil ?_
  refine Tr.keep (env' := []) trivial ?_
  refine t_end0 rfl (fun w hw => ?_)
  exact ⟨rfl, hw⟩
theorem copyCheck_old {b : Nat} {v : Value} : ∀ w, Ok w0 (cel b 202 [.pointer (some ⟨b, 0, none⟩), v] :: M) w → Calls Tryz.prog 173 #[.pointer (some ⟨b, 0, none⟩)] w (fun e w' => e = .returned (.tuple #[]) ∧ Ok w0 (cel b 202 [.pointer (some ⟨b, 0, none⟩), v] :: M) w') := by
  refine enter (vs := [_]) Tryz.func173 rfl Tryz.ntmps173 rfl ?_
  refine t_seq ?_
  refine t_region ?_
  refine t_val (r_move rfl) rfl ?_
  refine t_val (r_nilCheck rfl) rfl ?_
  refine t_val (r_fa fo_202_0 rfl) rfl ?_
  refine t_val (r_load ca_199 rfl (rd_m (.head _) rfl)) rfl ?_
  refine t_val (r_to (v2 := .bool false) (r_eqnil Tryz.underlying199 rfl rfl) rfl) rfl ?_
  refine t_nil ?_
  refine Tr.keep (env' := [(0, _), (6, _)]) ⟨rfl, rfl, trivial⟩ ?_
  refine t_then ?_
  refine t_cond_f rfl ?_
  refine t_seq ?_
  refine t_region ?_
  refine t_val (r_move rfl) rfl ?_
  refine t_val (r_nilCheck rfl) rfl ?_
  refine t_val (r_fa fo_202_0 rfl) rfl ?_
  refine t_val (r_load ca_199 rfl (rd_m (.head _) rfl)) rfl ?_
  refine t_val (r_move rfl) rfl ?_
  refine t_val (r_nePtrSame Tryz.underlying199 (by kernel_rfl) rfl rfl) rfl ?_
  refine t_nil ?_
  refine Tr.keep (env' := [(19, _)]) ⟨rfl, trivial⟩ ?_
  refine t_then ?_
  refine t_cond_f rfl ?_
  refine t_skip ?_
  refine t_end0 rfl (fun w hw => ?_)
  exact ⟨rfl, hw⟩
theorem copyCheck_c {b : Nat} {v : Value} {p : Option Addr} (hp : p = none ∨ p = some ⟨b, 0, none⟩) : ∀ w, Ok w0 (cel b 202 [.pointer p, v] :: M) w → Calls Tryz.prog 173 #[.pointer (some ⟨b, 0, none⟩)] w (fun e w' => e = .returned (.tuple #[]) ∧ Ok w0 (cel b 202 [.pointer (some ⟨b, 0, none⟩), v] :: M) w') := by
  rcases hp with rfl | rfl
  · exact copyCheck_new
  · exact copyCheck_old
theorem writeString_c {b : Nat} {v : Value} {p : Option Addr} {bs : List UInt8} {E : List Ent} (str : ByteArray) (hp : p = none ∨ p = some ⟨b, 0, none⟩) (hO : Own 5 1 v (byteRows bs) E) (hb : bs.length + str.size ≤ 140737488355328) (h0 : 0 < str.size) :
   ∀ w, Ok w0 (cel b 202 [.pointer p, v] :: (E ++ M)) w → Calls Tryz.prog 93 #[.pointer (some ⟨b, 0, none⟩), .string str] w (fun e w' => ∃ x : Value × List Ent, e = .returned (.tuple #[.int .i64 (str.size : Int), .nilIface]) ∧ Own 5 1 x.1 (byteRows (bs ++ str.data.toList)) x.2 ∧ Ok w0 (cel b 202 [.pointer (some ⟨b, 0, none⟩), x.1] :: (x.2 ++ M)) w') := by
  refine enter (vs := [_, _]) Tryz.func93 rfl Tryz.ntmps93 rfl ?_
  refine t_seq ?_
  refine t_region ?_
  refine t_val (r_assign rfl) rfl ?_
  refine t_val (r_assign rfl) rfl ?_
  refine t_nil ?_
  refine Tr.keep (env' := [(0, _), (1, _)]) ⟨rfl, rfl, trivial⟩ ?_
  refine t_then ?_
  refine t_seq ?_
  refine t_region ?_
  refine t_val (r_move rfl) rfl ?_
  refine t_eff rfl (e_mcall en_173 rfl rfl rfl rfl (copyCheck_c hp) ?_)
  refine t_nil ?_
  refine Tr.keep (env' := [(0, _), (1, _)]) ⟨rfl, rfl, trivial⟩ ?_
  refine t_then ?_
  refine t_seq ?_
  refine t_region ?_
  refine t_val (r_move rfl) rfl ?_
  refine t_val (r_move rfl) rfl ?_
  refine t_val (r_nilCheck rfl) rfl ?_
  refine t_val (r_fa fo_202_1 rfl) rfl ?_
  refine t_val (r_load ca_200 rfl (rd_m (.head _) rfl)) rfl ?_
  refine t_val (r_move rfl) rfl ?_
  refine t_eff rfl (e_appendStr Tryz.underlying200 Tryz.underlying9 inf_5 rfl rfl hO (pkb (.there .here) (.refl _)) hb rfl h0 fun v1 E1 hO1 ho1 => ?_)
  refine t_val (r_nilCheck rfl) rfl ?_
  refine t_val (r_fa fo_202_1 rfl) rfl ?_
  refine t_eff rfl (e_store iz_200 rfl rfl ho1 (.succ .zero) (.right .here) ?_)
  refine t_nil ?_
  refine Tr.keep (env' := [(1, _)]) ⟨rfl, trivial⟩ ?_
  refine t_then ?_
  refine t_seq ?_
  refine t_region ?_
  refine t_val (r_move rfl) rfl ?_
  refine t_val (r_len_str Tryz.underlying9 rfl) rfl ?_
  refine t_val (r_assign rfl) rfl ?_
  refine t_val (r_assign rfl) rfl ?_
  refine t_nil ?_
  refine Tr.keep (env' := [(4, _), (5, _)]) ⟨rfl, rfl, trivial⟩ ?_
  refine t_then ?_
  refine t_retc ?_
  refine t_ret2 rfl rfl rfl (fun w hw => ?_)
  exact ⟨(v1, E1), rfl, hO1, hw.perm (pk (.right .here) (pkb .here (.refl _)))⟩
theorem builderString_c {b g c : Nat} {l : List Value} {bs : List UInt8} (h0 : 0 < bs.length) (hc : 0 < c) (hb : bs.length ≤ 140737488355328) (hl : l.take bs.length = ucells bs) :
   ∀ w, Ok w0 (cel b 202 [.pointer (some ⟨b, 0, none⟩), .slice (some ⟨g, 0, none⟩) bs.length c] :: cel g 5 l :: M) w → Calls Tryz.prog 95 #[.pointer (some ⟨b, 0, none⟩)] w (fun e w' => e = .returned (.string ⟨bs.toArray⟩) ∧ Ok w0 M w') := by
  refine enter (vs := [_]) Tryz.func95 rfl Tryz.ntmps95 rfl ?_
  refine t_seq ?_
  refine t_region ?_
  refine t_val (r_assign rfl) rfl ?_
  refine t_nil ?_
  refine Tr.keep (env' := [(0, _)]) ⟨rfl, trivial⟩ ?_
  refine t_then ?_
  refine t_seq ?_
  refine d_beginS (.cons_cons _ (.cons _ (.refl _))) mixed rfl ?_
  refine d_val 0 rfl (by kernel_rfl) (by kernel_rfl) (by kernel_rfl) (.then .body) (.cons_cons _ (.cons _ (.refl _))) rfl (r_move rfl) ?_
  refine d_val 1 rfl (by kernel_rfl) (by kernel_rfl) (by kernel_rfl) (.then .body) (.cons_cons _ (.cons _ (.refl _))) rfl (r_nilCheck rfl) ?_
  refine d_val 2 rfl (by kernel_rfl) (by kernel_rfl) (by kernel_rfl) (.then .body) (.cons_cons _ (.cons _ (.refl _))) rfl (r_fa fo_202_1 rfl) ?_
  refine d_val 3 rfl (by kernel_rfl) (by kernel_rfl) (by kernel_rfl) (.then .body) (.cons_cons _ (.cons _ (.refl _))) rfl (r_load ca_200 rfl (rd_m (.head _) rfl)) ?_
  refine d_val 4 rfl (by kernel_rfl) (by kernel_rfl) (by kernel_rfl) (.then .body) (.cons_cons _ (.cons _ (.refl _))) rfl (r_unsafeSliceData rfl hc) ?_
  refine d_val 5 rfl (by kernel_rfl) (by kernel_rfl) (by kernel_rfl) (.then .body) (.cons_cons _ (.cons _ (.refl _))) rfl (r_move rfl) ?_
  refine d_val 6 rfl (by kernel_rfl) (by kernel_rfl) (by kernel_rfl) (.then .body) (.cons_cons _ (.cons _ (.refl _))) rfl (r_nilCheck rfl) ?_
  refine d_val 7 rfl (by kernel_rfl) (by kernel_rfl) (by kernel_rfl) (.then .body) (.cons_cons _ (.cons _ (.refl _))) rfl (r_fa fo_202_1 rfl) ?_
  refine d_val 8 rfl (by kernel_rfl) (by kernel_rfl) (by kernel_rfl) (.then .body) (.cons_cons _ (.cons _ (.refl _))) rfl (r_load ca_200 rfl (rd_m (.head _) rfl)) ?_
  refine d_val 9 rfl (by kernel_rfl) (by kernel_rfl) (by kernel_rfl) (.then .body) (.cons_cons _ (.cons _ (.refl _))) rfl (r_len_slice Tryz.underlying200 rfl) ?_
  refine d_eff 10 rfl rfl (by kernel_rfl) (e_unsafeString (bs := bs) Tryz.underlying278 cellsU8 rfl rfl (pk (.there .here) (.refl _)) hl h0 hb rfl ?_)
  refine d_held (.refl _) ?_
  refine d_val 11 rfl (by kernel_rfl) (by kernel_rfl) (by kernel_rfl) (.then .body) (.refl _) rfl (r_assign rfl) ?_
  refine d_end (by kernel_rfl) ?_
  refine Tr.keep (env' := [(2, _)]) ⟨rfl, trivial⟩ ?_
  refine t_then ?_
  refine t_retc ?_
  refine t_ret1 rfl rfl (fun w hw => ?_)
  exact ⟨rfl, hw.sub (.cons _ (.refl _))⟩
end
end Go.Proofs.W
set_option linter.unusedVariables false
set_option linter.unusedSimpArgs false
set_option linter.unusedSectionVars false
set_option maxRecDepth 100000
namespace Go.Proofs.W
open Go Go.Sl Go.RowKit Go.Proofs
attribute [local irreducible] Go.Sl.Eff
theorem ca_198 : cellsAs Tryz.prog 198 = some (none) := by kernel_rfl
theorem en_15 : Enters Tryz.prog 15 := enters_of Tryz.func15 (by kernel_rfl) (by kernel_rfl)
theorem en_174 : Enters Tryz.prog 174 := enters_of Tryz.func174 (by kernel_rfl) (by kernel_rfl)
theorem en_175 : Enters Tryz.prog 175 := enters_of Tryz.func175 (by kernel_rfl) (by kernel_rfl)
theorem en_236 : Enters Tryz.prog 236 := enters_of Tryz.func236 (by kernel_rfl) (by kernel_rfl)
theorem en_240 : Enters Tryz.prog 240 := enters_of Tryz.func240 (by kernel_rfl) (by kernel_rfl)
theorem en_92 : Enters Tryz.prog 92 := enters_of Tryz.func92 (by kernel_rfl) (by kernel_rfl)
theorem en_93 : Enters Tryz.prog 93 := enters_of Tryz.func93 (by kernel_rfl) (by kernel_rfl)
theorem en_94 : Enters Tryz.prog 94 := enters_of Tryz.func94 (by kernel_rfl) (by kernel_rfl)
theorem en_95 : Enters Tryz.prog 95 := enters_of Tryz.func95 (by kernel_rfl) (by kernel_rfl)
theorem inf_202 : (Tryz.prog.info? 202).map (fun i => (i.zero, i.size, i.bytes)) = some (some (.agg #[.pointer none, .slice none 0 0]), 2, 32) := by kernel_rfl
abbrev okB : ByteArray := ⟨#[111, 107, 10]⟩
abbrev errB (n : Nat) : ByteArray := (⟨#[101, 114, 114, 111, 114, 32]⟩ : ByteArray) ++ (⟨#[UInt8.ofNat (48 + n)]⟩ : ByteArray) ++ (⟨#[10]⟩ : ByteArray)
theorem errB_size (n : Nat) : (errB n).size = 8 := rfl
def saysB (n : Nat) : ByteArray := if n = 0 then okB else errB n
theorem digit_cut : ∀ n, n < 10 → (⟨#[48, 49, 50, 51, 52, 53, 54, 55, 56, 57, 97, 98, 99, 100, 101, 102, 103, 104, 105, 106, 107, 108, 109, 110, 111, 112, 113, 114, 115, 116, 117, 118, 119, 120, 121, 122]⟩ : ByteArray).extract n (n + 1) = ⟨#[UInt8.ofNat (48 + n)]⟩ := by decide
def DoSpec (w0 : World) (e : EvAt) (s s' : St) (line : ByteArray) (code : Nat) : Prop :=
  ∀ (x : Mv) (lv : Value) (lE M : List Ent), s.lg.Lies x.wl → LogOk lv lE s.log → ∀ w, Ok w0 (ents (e.mv x) lv lE s M) w → Calls Tryz.prog 15 #[.pointer (some ⟨e.eb, 0, none⟩), .string line] w
    (fun r w' => ∃ y : Mv × Value × List Ent, r = .returned (.int .i64 (code : Int)) ∧ (s'.lg.Lies y.1.wl ∧ LogOk y.2.1 y.2.2 s'.log) ∧ Ok w0 (ents (e.mv y.1) y.2.1 y.2.2 s' M) w')
theorem own_bytes {T : TypeId} {v : Value} {bs : List UInt8} {E : List Ent} (h : Own T 1 v (byteRows bs) E) (h0 : 0 < bs.length) : ∃ g c l, v = .slice (some ⟨g, 0, none⟩) bs.length c ∧ E = [cel g T l] ∧ l.take bs.length = ucells bs ∧ 0 < c := by
  rcases h.sh with ⟨_, h1, _⟩ | ⟨b, c, l, h1, h2, h3, h4, h5, h6⟩
  · simp at h1; subst h1; simp at h0
  · simp only [List.length_map, Nat.mul_one] at h1 h4 h6
    exact ⟨b, c, l, h1, h2, by rw [h6, flat_bytes], by omega⟩
structure SaidSt where
  x : Mv
  lv : Value
  lE : List Ent
  s : St
  p : Option Addr
  v : Value
  E : List Ent
section
variable {w0 : World} {M : List Ent}
theorem small_c (n : Nat) (hn : n < 10) : ∀ w, Ok w0 M w → Calls Tryz.prog 175 #[.int .i64 (n : Int)] w (fun e w' => e = .returned (.string ⟨#[UInt8.ofNat (48 + n)]⟩) ∧ Ok w0 M w') := by
  refine enter (vs := [_]) Tryz.func175 rfl Tryz.ntmps175 rfl ?_
  refine t_seq ?_
  refine t_region ?_
  refine t_val (r_assign rfl) rfl ?_
  refine t_nil ?_
  refine Tr.keep (env' := [(0, _)]) ⟨rfl, trivial⟩ ?_
  refine t_then ?_
  refine t_seq ?_
  refine t_seq ?_
  refine t_region ?_
  refine t_val (r_move rfl) rfl ?_
  refine t_val (r_lt rfl rfl) rfl ?_
  refine t_nil ?_
  refine Tr.keep (env' := [(0, _), (4, _)]) ⟨rfl, rfl, trivial⟩ ?_
  refine t_then ?_
  refine t_cond_t (b_of (by simp; omega)) ?_
  refine t_seq ?_
  refine t_region ?_
  refine t_val (r_move rfl) rfl ?_
  refine t_val (r_move rfl) rfl ?_
  refine t_val (r_to (v2 := .int .i64 ((n + 1 : Nat) : Int)) (r_addi rfl rfl (by omega)) (congrArg (Value.int .i64) (by omega))) rfl ?_
  refine t_val (r_to (v2 := .string ⟨#[UInt8.ofNat (48 + n)]⟩) (r_ss_lh n (n + 1) Tryz.underlying9 rfl rfl rfl rfl rfl (by omega) (by show n + 1 ≤ 36; omega)) (congrArg Value.string (digit_cut n hn))) rfl ?_
  refine t_val (r_assign rfl) rfl ?_
  refine t_nil ?_
  refine Tr.keep (env' := [(2, _)]) ⟨rfl, trivial⟩ ?_
  refine t_then ?_
  refine t_retc ?_
  refine t_then_ret ?_
  refine t_ret1 rfl rfl (fun w hw => ?_)
  exact ⟨rfl, hw⟩
theorem fmtInt_c (n : Nat) (hn : n < 10) : ∀ w, Ok w0 M w → Calls Tryz.prog 240 #[.int .i64 (n : Int), .int .i64 10] w (fun e w' => e = .returned (.string ⟨#[UInt8.ofNat (48 + n)]⟩) ∧ Ok w0 M w') := by
  refine enter (vs := [_, _]) Tryz.func240 rfl Tryz.ntmps240 rfl ?_
  refine t_seq ?_
  refine t_region ?_
  refine t_val (r_assign rfl) rfl ?_
  refine t_nil ?_
  refine Tr.keep (env' := [(0, _), (1, _)]) ⟨rfl, rfl, trivial⟩ ?_
  refine t_then ?_
  refine t_seq ?_
  refine t_seq ?_
  refine t_region ?_
  refine t_val (r_move rfl) rfl ?_
  refine t_val (r_eq rfl rfl) rfl ?_
  refine t_nil ?_
  refine Tr.keep (env' := [(0, _), (1, _), (11, _)]) ⟨rfl, rfl, rfl, trivial⟩ ?_
  refine t_then ?_
  refine t_cond_t rfl ?_
  refine t_seq ?_
  refine t_seq ?_
  refine t_region ?_
  refine t_val (r_move rfl) rfl ?_
  refine t_val (r_to (v2 := .bool true) (r_le rfl rfl) (congrArg Value.bool (by simp))) rfl ?_
  refine t_val (r_move rfl) rfl ?_
  refine t_gval rfl rfl (r_move rfl) rfl ?_
  refine t_gval rfl rfl (r_to (v2 := .bool true) (r_lt rfl rfl) (congrArg Value.bool (by simp; omega))) rfl ?_
  refine t_val (r_pick_t rfl rfl) rfl ?_
  refine t_nil ?_
  refine Tr.keep (env' := [(0, _), (17, _)]) ⟨rfl, rfl, trivial⟩ ?_
  refine t_then ?_
  refine t_cond_t rfl ?_
  refine t_seq ?_
  refine t_region ?_
  refine t_val (r_move rfl) rfl ?_
  refine t_eff rfl (e_pcall en_175 rfl rfl rfl rfl (small_c n hn) ?_)
  refine t_val (r_assign rfl) rfl ?_
  refine t_nil ?_
  refine Tr.keep (env' := [(4, _)]) ⟨rfl, trivial⟩ ?_
  refine t_then ?_
  refine t_retc ?_
  refine t_then_ret ?_
  refine t_then_ret ?_
  refine t_ret1 rfl rfl (fun w hw => ?_)
  exact ⟨rfl, hw⟩
theorem itoaI_c (n : Nat) (hn : n < 10) : ∀ w, Ok w0 M w → Calls Tryz.prog 174 #[.int .i64 (n : Int)] w (fun e w' => e = .returned (.string ⟨#[UInt8.ofNat (48 + n)]⟩) ∧ Ok w0 M w') := by
  refine enter (vs := [_]) Tryz.func174 rfl Tryz.ntmps174 rfl ?_
  refine t_seq ?_
  refine t_region ?_
  refine t_val (r_assign rfl) rfl ?_
  refine t_nil ?_
  refine Tr.keep (env' := [(0, _)]) ⟨rfl, trivial⟩ ?_
  refine t_then ?_
  refine t_seq ?_
  refine t_region ?_
  refine t_val (r_move rfl) rfl ?_
  refine t_eff rfl (e_pcall en_240 rfl rfl rfl rfl (fmtInt_c n hn) ?_)
  refine t_val (r_assign rfl) rfl ?_
  refine t_nil ?_
  refine Tr.keep (env' := [(2, _)]) ⟨rfl, trivial⟩ ?_
  refine t_then ?_
  refine t_retc ?_
  refine t_ret1 rfl rfl (fun w hw => ?_)
  exact ⟨rfl, hw⟩
theorem itoa_c (n : Nat) (hn : n < 10) : ∀ w, Ok w0 M w → Calls Tryz.prog 94 #[.int .i64 (n : Int)] w (fun e w' => e = .returned (.string ⟨#[UInt8.ofNat (48 + n)]⟩) ∧ Ok w0 M w') := by
  refine enter (vs := [_]) Tryz.func94 rfl Tryz.ntmps94 rfl ?_
  refine t_seq ?_
  refine t_region ?_
  refine t_val (r_assign rfl) rfl ?_
  refine t_nil ?_
  refine Tr.keep (env' := [(0, _)]) ⟨rfl, trivial⟩ ?_
  refine t_then ?_
  refine t_seq ?_
  refine t_region ?_
  refine t_val (r_move rfl) rfl ?_
  refine t_eff rfl (e_pcall en_174 rfl rfl rfl rfl (itoaI_c n hn) ?_)
  refine t_val (r_assign rfl) rfl ?_
  refine t_nil ?_
  refine Tr.keep (env' := [(2, _)]) ⟨rfl, trivial⟩ ?_
  refine t_then ?_
  refine t_retc ?_
  refine t_ret1 rfl rfl (fun w hw => ?_)
  exact ⟨rfl, hw⟩
theorem ents_app {e : EvAt} {lv : Value} {lE : List Ent} {s : St} {M H : List Ent} : ents e lv lE s M ++ H = ents e lv lE s (M ++ H) := by
  simp [ents, List.append_assoc]
theorem ents_tail {e : EvAt} {lv : Value} {lE : List Ent} {s : St} {M : List Ent} : M.Sublist (ents e lv lE s M) := by
  unfold ents
  iterate 10 refine .cons _ ?_
  exact ((List.sublist_append_right e.sa.ents M).trans ((List.sublist_append_right e.wl.sE _).trans ((List.sublist_append_right e.wl.lE _).trans (List.sublist_append_right lE _))))
theorem ents_perm {e : EvAt} {lv : Value} {lE : List Ent} {s : St} {M : List Ent} (F G : List Ent) : (F ++ (G ++ ents e lv lE s M)).Perm (ents e lv lE s (M ++ (F ++ G))) := by
  rw [← ents_app, ← List.append_assoc]
  exact List.perm_append_comm
theorem do_in {e : EvAt} {s s' : St} {line : ByteArray} {code : Nat} {x : Mv} {lv : Value} {lE F G M : List Ent} (hd : ∀ M, s.lg.Lies x.wl → LogOk lv lE s.log → ∀ w, Ok w0 (ents (e.mv x) lv lE s M) w → Calls Tryz.prog 15 #[.pointer (some ⟨e.eb, 0, none⟩), .string line] w
    (fun r w' => ∃ y : Mv × Value × List Ent, r = .returned (.int .i64 (code : Int)) ∧ (s'.lg.Lies y.1.wl ∧ LogOk y.2.1 y.2.2 s'.log) ∧ Ok w0 (ents (e.mv y.1) y.2.1 y.2.2 s' M) w')) (hL : s.lg.Lies x.wl) (hLog : LogOk lv lE s.log) :
   ∀ w, Ok w0 (F ++ (G ++ ents (e.mv x) lv lE s M)) w → Calls Tryz.prog 15 #[.pointer (some ⟨e.eb, 0, none⟩), .string line] w
    (fun r w' => ∃ y : Mv × Value × List Ent, r = .returned (.int .i64 (code : Int)) ∧ (s'.lg.Lies y.1.wl ∧ LogOk y.2.1 y.2.2 s'.log) ∧ Ok w0 (F ++ (G ++ ents (e.mv y.1) y.2.1 y.2.2 s' M)) w') := fun w hw => by
  have hw2 := hw.perm (ents_perm (e := e.mv x) F G)
  refine (hd (M ++ (F ++ G)) hL hLog w hw2).mono ?_
  rintro r w' ⟨y, h1, h2, h3⟩
  exact ⟨y, h1, h2, h3.perm (ents_perm F G).symm⟩
theorem said_c {e : EvAt} {lv0 : Value} {lE0 : List Ent} (script : ByteArray) (st : Nat → St) (code : Nat → Nat) (out : Nat → List UInt8) (hsz : script.size ≤ 60000) (hL0 : (st 0).lg.Lies e.wl) (hLog0 : LogOk lv0 lE0 (st 0).log) (hout0 : out 0 = [])
   (hlens : ∀ k, (out k).length ≤ 1000000) (hcodes : ∀ k, code k < 10) (hfin : 0 < (out (splitB 10 script.size script).length).length)
   (hemp : ∀ k, (splitB 10 script.size script)[k]? = some ⟨#[]⟩ → st (k + 1) = st k ∧ out (k + 1) = out k)
   (hout : ∀ k x, (splitB 10 script.size script)[k]? = some x → x ≠ ⟨#[]⟩ → out (k + 1) = out k ++ (saysB (code k)).data.toList)
   (hdo : ∀ k x, (splitB 10 script.size script)[k]? = some x → x ≠ ⟨#[]⟩ → DoSpec w0 e (st k) (st (k + 1)) x (code k)) :
   ∀ w, Ok w0 (ents e lv0 lE0 (st 0) M) w → Calls Tryz.prog 38 #[.iface 33 (.pointer (some ⟨e.eb, 0, none⟩)), .string script] w (fun r w' => r = .returned (.string ⟨(out (splitB 10 script.size script).length).toArray⟩) ∧ Ok w0 M w') := by
  refine enterM (vs := [_, _]) Tryz.func38 rfl Tryz.ntmps38 rfl ?_
  refine t_seq ?_
  refine t_region ?_
  refine t_eff rfl (e_box1 rfl rfl rfl fun b2 => ?_)
  refine t_val (r_assign rfl) rfl ?_
  refine t_nil ?_
  refine Tr.keep (env' := [(1, _), (2, _), (4, _)]) ⟨rfl, rfl, rfl, trivial⟩ ?_
  refine t_then ?_
  refine t_seq ?_
  refine t_region ?_
  refine t_eff rfl (e_alloc inf_202 (l := [.pointer none, .slice none 0 0]) rfl rfl fun b5 => ?_)
  refine t_nil ?_
  refine Tr.keep (env' := [(1, _), (2, _), (4, _), (5, _)]) ⟨rfl, rfl, rfl, rfl, trivial⟩ ?_
  refine t_then ?_
  refine t_seq ?_
  refine t_seq ?_
  refine t_region ?_
  refine t_val (r_move rfl) rfl ?_
  refine t_eff rfl (e_call en_92 rfl rfl rfl rfl (splitSeqE_c script 10) fun b _ => ?_)
  refine t_nil ?_
  refine Tr.keep (env' := [(2, _), (4, _), (5, _), (9, _)]) ⟨rfl, rfl, rfl, rfl, trivial⟩ ?_
  refine t_then ?_
  refine t_block ?_
  refine Tr.keep (env' := [(2, _), (5, _), (9, _)]) ⟨rfl, rfl, rfl, trivial⟩ ?_
  refine t_rangeFuncI rfl en_236 (encS) (fun _ => rfl) (by decide) (splitB 10 script.size script) (fun (pre : List ByteArray) (z : SaidSt) => z.s = st pre.length ∧ z.s.lg.Lies z.x.wl ∧ LogOk z.lv z.lE z.s.log ∧ Own 5 1 z.v (byteRows (out pre.length)) z.E ∧ ((z.p = none ∧ out pre.length = []) ∨ z.p = some ⟨b5, 0, none⟩)) (fun z : SaidSt => cel b5 202 [.pointer z.p, z.v] :: cel b2 198 [.iface 33 (.pointer (some ⟨e.eb, 0, none⟩))] :: (z.E ++ ents (e.mv z.x) z.lv z.lE z.s M)) (⟨⟨e.wl, e.starts, e.lines⟩, lv0, lE0, st 0, none, .slice none 0 0, []⟩) (⟨rfl, hL0, hLog0, by rw [show out ([] : List ByteArray).length = [] from hout0]; exact Own.nil _ _, .inl ⟨rfl, hout0⟩⟩) ([cel b.1 3 [.int .i64 0], cel b.2.1 9 [.string ⟨#[10]⟩], cel b.2.2 9 [.string script]]) rfl ?_ ?_ ?_
  · exact fun l r Fr hy => split1_c (b := b) (c := 10) script (by omega) hy _ ⟨rfl, hL0, hLog0, by rw [show out ([] : List ByteArray).length = [] from hout0]; exact Own.nil _ _, .inl ⟨rfl, hout0⟩⟩
  · intro l rr Fr pre y post hxs z hz
    obtain ⟨x, lv, lE, s, p, v, E⟩ := z
    obtain ⟨hs, hL, hLog, hO, hp⟩ := hz
    dsimp only at hs hL hLog hO hp ⊢
    subst hs
    have hpp : p = none ∨ p = some ⟨b5, 0, none⟩ := by rcases hp with ⟨h, _⟩ | h; exact .inl h; exact .inr h
    have hxk : (splitB 10 script.size script)[pre.length]? = some y := by rw [hxs]; simp
    have hlen := hlens pre.length
    refine Tr.keep (env' := [(2, _), (5, _), (10, _)]) ⟨rfl, rfl, rfl, trivial⟩ ?_
    refine i_region ?_
    refine i_val (r_assign rfl) rfl ?_
    refine i_nil ?_
    refine Tr.keep (env' := [(2, _), (5, _), (6, _), (10, _)]) ⟨rfl, rfl, rfl, rfl, trivial⟩ ?_
    refine t_then ?_
    refine t_begin .here ?_
    refine i_block ?_
    refine i_seq ?_
    refine i_seq ?_
    refine i_region ?_
    refine i_val (r_move rfl) rfl ?_
    refine i_val (r_eqs rfl rfl) rfl ?_
    refine i_nil ?_
    refine Tr.keep (env' := [(2, _), (5, _), (6, _), (12, _)]) ⟨rfl, rfl, rfl, rfl, trivial⟩ ?_
    refine t_then ?_
    refine i_cond rfl (fun hcE => ?_) (fun hcE => ?_)
    · obtain rfl : y = ⟨#[]⟩ := of_decide_eq_true hcE
      have hemp := hemp pre.length hxk
      refine i_exit ?_
      refine t_then_exit ?_
      refine t_in_hit ?_
      refine t_endRound .here (fun w hw => ?_)
      exact ⟨rfl, ⟨x, lv, lE, st pre.length, p, v, E⟩, ⟨by simp [hemp.1], hL, hLog, by simpa [hemp.2] using hO, by simpa [hemp.2] using hp⟩, hw.perm (pk .here (pkb .here (pk .here (pk .here (pkb .here (.refl _))))))⟩
    · have hne : y ≠ ⟨#[]⟩ := of_decide_eq_false hcE
      refine i_skipc ?_
      refine t_then ?_
      refine i_seq ?_
      refine i_region ?_
      refine i_val (r_load ca_198 rfl (rd_m (.tail _ (List.mem_append_right _ (.tail _ (.head _)))) rfl)) rfl ?_
      refine i_val (r_move rfl) rfl ?_
      refine i_eff rfl (e_invoke (fun w => by kernel_rfl) en_15 rfl rfl rfl rfl (do_in (F := busyE l rr :: Fr) (G := cel b5 202 [.pointer p, v] :: cel b2 198 [.iface 33 (.pointer (some ⟨e.eb, 0, none⟩))] :: E) (hdo pre.length y hxk hne x lv lE) hL hLog) fun z2 hz2 => ?_)
      refine i_val (r_assign rfl) rfl ?_
      refine i_nil ?_
      refine Tr.keep (env' := [(5, _), (7, _)]) ⟨rfl, rfl, trivial⟩ ?_
      refine t_then ?_
      refine i_seq ?_
      refine i_region ?_
      refine i_val (r_move rfl) rfl ?_
      refine i_val (r_eq rfl rfl) rfl ?_
      refine i_nil ?_
      refine Tr.keep (env' := [(5, _), (7, _), (17, _)]) ⟨rfl, rfl, rfl, trivial⟩ ?_
      refine t_then ?_
      refine i_cond rfl (fun hcZ => ?_) (fun hcZ => ?_)
      · have hc0 : code pre.length = 0 := by simpa using hcZ
        have hcode : saysB (code pre.length) = okB := by rw [hc0]; rfl
        refine i_region ?_
        refine i_eff rfl (e_call en_93 rfl rfl rfl rfl (fun w hw => writeString_c okB (hpp) hO (by have h8 : okB.size = 3 := rfl; omega) (by have h8 : okB.size = 3 := rfl; omega) w (hw.perm (pk (.there (.right .here)) (pkb (.there (.right (.there .here))) (.refl _))))) fun xr hO2 => ?_)
        obtain ⟨v2, E2⟩ := xr
        dsimp only at hO2 ⊢
        refine i_nil ?_
        refine Tr.keep (env' := []) trivial ?_
        refine t_in ?_
        refine t_endRound (.there (.right .here)) (fun w hw => ?_)
        exact ⟨rfl, ⟨z2.1, z2.2.1, z2.2.2, st (pre.length + 1), some ⟨b5, 0, none⟩, v2, E2⟩, ⟨by simp, hz2.1, hz2.2, by rw [List.length_append, List.length_singleton, hout pre.length y hxk hne, hcode]; exact hO2, .inr rfl⟩, hw.perm (pk (.there (.right .here)) (pkb (.there (.right .here)) (pk .here (pk (.right .here) (pkb .here (.refl _))))))⟩
      · have hc0 : code pre.length ≠ 0 := by simpa using hcZ
        have hcode : saysB (code pre.length) = errB (code pre.length) := by unfold saysB; rw [if_neg hc0]
        have hcl := hcodes pre.length
        refine i_region ?_
        refine i_val (r_move rfl) rfl ?_
        refine i_eff rfl (e_pcall en_94 rfl rfl rfl rfl (itoa_c (code pre.length) (by omega)) ?_)
        refine i_val (r_adds rfl rfl (by simp [ByteArray.size, maxLen])) rfl ?_
        refine i_val (r_adds rfl rfl (by simp [ByteArray.size, maxLen])) rfl ?_
        refine i_eff rfl (e_call en_93 rfl rfl rfl rfl (fun w hw => writeString_c (errB (code pre.length)) (hpp) hO (by have h8 := errB_size (code pre.length); omega) (by have h8 := errB_size (code pre.length); omega) w (hw.perm (pk (.there (.right .here)) (pkb (.there (.right (.there .here))) (.refl _))))) fun xr hO2 => ?_)
        obtain ⟨v2, E2⟩ := xr
        dsimp only at hO2 ⊢
        refine i_nil ?_
        refine Tr.keep (env' := []) trivial ?_
        refine t_in ?_
        refine t_endRound (.there (.right .here)) (fun w hw => ?_)
        exact ⟨rfl, ⟨z2.1, z2.2.1, z2.2.2, st (pre.length + 1), some ⟨b5, 0, none⟩, v2, E2⟩, ⟨by simp, hz2.1, hz2.2, by rw [List.length_append, List.length_singleton, hout pre.length y hxk hne, hcode]; exact hO2, .inr rfl⟩, hw.perm (pk (.there (.right .here)) (pkb (.there (.right .here)) (pk .here (pk (.right .here) (pkb .here (.refl _))))))⟩
  · intro D z hz
    obtain ⟨x, lv, lE, s, p, v, E⟩ := z
    obtain ⟨hs, hL, hLog, hO, hp⟩ := hz
    dsimp only at hs hL hLog hO hp ⊢
    obtain rfl : p = some ⟨b5, 0, none⟩ := by
      rcases hp with ⟨_, h⟩ | h
      · rw [h] at hfin; simp at hfin
      · exact h
    obtain ⟨g, c, lb, rfl, rfl, hlb, hc0⟩ := own_bytes hO hfin
    show Tr w0 _ _ _ (defE D :: cel b5 202 [.pointer (some ⟨b5, 0, none⟩), .slice (some ⟨g, 0, none⟩) (out (splitB 10 script.size script).length).length c] :: cel b2 198 [.iface 33 (.pointer (some ⟨e.eb, 0, none⟩))] :: cel g 5 lb :: ents (e.mv x) lv lE s M) _
    refine t_in ?_
    refine t_then ?_
    refine t_seq ?_
    refine t_region ?_
    refine t_eff rfl (e_mcall en_95 rfl rfl rfl rfl (fun w hw => builderString_c hfin hc0 (by have := hlens (splitB 10 script.size script).length; omega) hlb w (hw.perm (pk (.there .here) (pk (.there (.there .here)) (.refl _))))) ?_)
    refine t_val (r_assign rfl) rfl ?_
    refine t_nil ?_
    refine Tr.keep (env' := [(4, _)]) ⟨rfl, trivial⟩ ?_
    refine t_then ?_
    refine t_retc ?_
    refine t_retM1 rfl rfl (pk .here (.refl _)) (fun w hw => ?_)
    exact ⟨rfl, hw.sub (.cons _ ents_tail)⟩
end
end Go.Proofs.W
set_option linter.unusedVariables false
set_option linter.unusedSimpArgs false
set_option linter.unusedSectionVars false
set_option maxRecDepth 100000
namespace Go.Proofs.W
open Go Go.Sl Go.RowKit Go.Proofs
attribute [local irreducible] Go.Sl.Eff
theorem en_148 : Enters Tryz.prog 148 := enters_of Tryz.func148 (by kernel_rfl) (by kernel_rfl)
theorem en_150 : Enters Tryz.prog 150 := enters_of Tryz.func150 (by kernel_rfl) (by kernel_rfl)
theorem en_151 : Enters Tryz.prog 151 := enters_of Tryz.func151 (by kernel_rfl) (by kernel_rfl)
theorem en_155 : Enters Tryz.prog 155 := enters_of Tryz.func155 (by kernel_rfl) (by kernel_rfl)
theorem en_156 : Enters Tryz.prog 156 := enters_of Tryz.func156 (by kernel_rfl) (by kernel_rfl)
theorem en_157 : Enters Tryz.prog 157 := enters_of Tryz.func157 (by kernel_rfl) (by kernel_rfl)
section
variable {w0 : World} {M : List Ent}
theorem tail_in {e : EvAt} {lE M Fr : List Ent} : e.sa.In ((lE ++ (e.wl.lE ++ (e.wl.sE ++ (e.sa.ents ++ M)))) ++ Fr) :=
  (SAt.in_ents (a := e.sa) (X := M)).sub ((((List.sublist_append_right e.wl.sE (e.sa.ents ++ M)).trans (List.sublist_append_right e.wl.lE _)).trans (List.sublist_append_right lE _)).trans (List.sublist_append_left _ Fr))
theorem spec_ok (hT : Tab w0) {e : EvAt} {s s' : St} {line wd : ByteArray} {ws : List ByteArray} {f : Nat} (hlen : line.size ≤ 200) (hlog : s.log.length < 100) (hsl : s'.log = s.log) (hwd : wordsOf line = wd :: ws) (hget : mget wd (verbsL e.eb) = some (.func (.func f) #[.pointer (some ⟨e.eb, 0, none⟩)] #[])) (he : Enters Tryz.prog f)
   (hcall : ∀ (x : Mv) (lv : Value) (lE M : List Ent), s.lg.Lies x.wl → ∀ A c Fr, SlRd w0 (ents (e.mv x) lv lE s M ++ Fr) 1 A ws.length (ws.map encS) → ∀ w, Ok w0 (ents (e.mv x) lv lE s M ++ Fr) w →
     Calls Tryz.prog f #[.pointer (some ⟨e.eb, 0, none⟩), .agg #[.string wd, .slice A ws.length c]] w (fun r w' => ∃ y : Mv, r = .returned (.tuple #[]) ∧ s'.lg.Lies y.wl ∧ Ok w0 (ents (e.mv y) lv lE s' M ++ Fr) w')) :
   DoSpec w0 e s (s'.put line) line 0 := fun x lv lE M hL hLog w hw =>
  do_ok hT (e := e.mv x) (s' := s') hLog hlog (by omega) hsl (fun w hw => apply_ok (f := f) (φ := fun M2 => ∃ y : Mv, s'.lg.Lies y.wl ∧ M2 = ents ((e.mv x).mv y) lv lE s' M) hlen hwd hget he (fun A n c Fr hn hs w hw => by
    subst hn
    refine (hcall x lv lE M hL A c Fr hs w hw).mono ?_
    rintro r w' ⟨y, h1, h2, h3⟩
    exact ⟨_, h1, ⟨y, h2, rfl⟩, h3⟩) w hw) w hw
theorem spec_err {e : EvAt} {s : St} {line wd : ByteArray} {ws : List ByteArray} {f z : Nat} (hz : z ≠ 0) (hlen : line.size ≤ 200) (hwd : wordsOf line = wd :: ws) (hget : mget wd (verbsL e.eb) = some (.func (.func f) #[.pointer (some ⟨e.eb, 0, none⟩)] #[])) (he : Enters Tryz.prog f)
   (hcall : ∀ (x : Mv) (lv : Value) (lE M : List Ent), s.lg.Lies x.wl → ∀ A c Fr, SlRd w0 (ents (e.mv x) lv lE s M ++ Fr) 1 A ws.length (ws.map encS) → ∀ w, Ok w0 (ents (e.mv x) lv lE s M ++ Fr) w →
     Calls Tryz.prog f #[.pointer (some ⟨e.eb, 0, none⟩), .agg #[.string wd, .slice A ws.length c]] w (fun r w' => r = .panicked (refused (z : Int)) ∧ Ok w0 (ents (e.mv x) lv lE s M ++ Fr) w')) :
   DoSpec w0 e s s line z := fun x lv lE M hL hLog w hw => by
  refine (do_err (e := e.mv x) (z := (z : Int)) (by omega) hLog (fun w hw => apply_err (f := f) (x := (z : Int)) hlen hwd hget he (fun A n c Fr hn hs w hw => by
    subst hn
    exact hcall x lv lE M hL A c Fr hs w hw) w hw) w hw).mono ?_
  rintro r w' ⟨h1, h2⟩
  exact ⟨(x, lv, lE), h1, ⟨hL, hLog⟩, h2⟩
theorem spec_text {e : EvAt} {s : St} {line wd : ByteArray} {ws : List ByteArray} (hlen : line.size ≤ 200) (hwd : wordsOf line = wd :: ws) (hget : mget wd (verbsL e.eb) = none) :
   DoSpec w0 e s s line 3 := fun x lv lE M hL hLog w hw => by
  refine (do_err (e := e.mv x) (z := 3) (by decide) hLog (fun w hw => apply_text hlen hwd hget w hw) w hw).mono ?_
  rintro r w' ⟨h1, h2⟩
  exact ⟨(x, lv, lE), h1, ⟨hL, hLog⟩, h2⟩
theorem spec_open (hT : Tab w0) {e : EvAt} {s : St} {line a : ByteArray} {n : Int} (hx : Num a n) (hf : s.g.Fine) (hval : gvalid s.g.plan 1 n 0 0 = true) (hlen : line.size ≤ 200) (hlog : s.log.length < 100) (hwd : wordsOf line = [⟨#[111, 112, 101, 110]⟩, a]) :
   DoSpec w0 e s (St.put { s with g := s.g.hear 1 n 0 0 } line) line 0 :=
  spec_ok hT (s' := { s with g := s.g.hear 1 n 0 0 }) hlen hlog rfl hwd (verb_open _) en_148 (fun x lv lE M hL A c Fr hs w hw => by
    have hp : (ents (e.mv x) lv lE s M ++ Fr).Perm _ := (pk (.there (.there (.there (.there .here)))) (pk (.there (.there (.there (.there .here)))) (pk (.there (.there (.there (.there .here)))) (pk (.there (.there (.there (.there .here)))) (.refl _)))))
    refine (hear_open (ea := e.mv x) (lv := lv) (g := s.g) n (.head _) (hs.perm hp) hx hf hval w (hw.perm hp)).mono ?_
    rintro r w' ⟨h1, h2⟩
    exact ⟨x, h1, hL, h2.perm (pk (.there (.there (.there (.there .here)))) (pk (.there (.there (.there (.there .here)))) (pk (.there (.there (.there (.there .here)))) (pk (.there (.there (.there (.there .here)))) (.refl _)))))⟩)
theorem spec_covered (hT : Tab w0) {e : EvAt} {s : St} {line a : ByteArray} {n : Int} (hx : Num a n) (hf : s.g.Fine) (hval : gvalid s.g.plan 6 n 0 0 = true) (hlen : line.size ≤ 200) (hlog : s.log.length < 100) (hwd : wordsOf line = [⟨#[99, 111, 118, 101, 114, 101, 100]⟩, a]) :
   DoSpec w0 e s (St.put { s with g := s.g.hear 6 n 0 0 } line) line 0 :=
  spec_ok hT (s' := { s with g := s.g.hear 6 n 0 0 }) hlen hlog rfl hwd (verb_covered _) en_148 (fun x lv lE M hL A c Fr hs w hw => by
    have hp : (ents (e.mv x) lv lE s M ++ Fr).Perm _ := (pk (.there (.there (.there (.there .here)))) (pk (.there (.there (.there (.there .here)))) (pk (.there (.there (.there (.there .here)))) (pk (.there (.there (.there (.there .here)))) (.refl _)))))
    refine (hear_covered (ea := e.mv x) (lv := lv) (g := s.g) n (.head _) (hs.perm hp) hx hf hval w (hw.perm hp)).mono ?_
    rintro r w' ⟨h1, h2⟩
    exact ⟨x, h1, hL, h2.perm (pk (.there (.there (.there (.there .here)))) (pk (.there (.there (.there (.there .here)))) (pk (.there (.there (.there (.there .here)))) (pk (.there (.there (.there (.there .here)))) (.refl _)))))⟩)
theorem spec_post (hT : Tab w0) {e : EvAt} {s : St} {line a b : ByteArray} {n : Int} {p : Nat} (hx : Num a (p : Int)) (hy : Num b n) (hf : s.g.Fine) (hval : gvalid s.g.plan 3 n p 0 = true) (hlen : line.size ≤ 200) (hlog : s.log.length < 100) (hwd : wordsOf line = [⟨#[112, 111, 115, 116]⟩, a, b]) :
   DoSpec w0 e s (St.put { s with g := s.g.hear 3 n p 0 } line) line 0 :=
  spec_ok hT (s' := { s with g := s.g.hear 3 n p 0 }) hlen hlog rfl hwd (verb_post _) en_148 (fun x lv lE M hL A c Fr hs w hw => by
    have hp : (ents (e.mv x) lv lE s M ++ Fr).Perm _ := (pk (.there (.there (.there (.there .here)))) (pk (.there (.there (.there (.there .here)))) (pk (.there (.there (.there (.there .here)))) (pk (.there (.there (.there (.there .here)))) (.refl _)))))
    refine (hear_post (ea := e.mv x) (lv := lv) (g := s.g) n p (.head _) (hs.perm hp) hx hy hf hval w (hw.perm hp)).mono ?_
    rintro r w' ⟨h1, h2⟩
    exact ⟨x, h1, hL, h2.perm (pk (.there (.there (.there (.there .here)))) (pk (.there (.there (.there (.there .here)))) (pk (.there (.there (.there (.there .here)))) (pk (.there (.there (.there (.there .here)))) (.refl _)))))⟩)
theorem spec_start (hT : Tab w0) {e : EvAt} {s : St} {line a b : ByteArray} {n : Int} (hx : Num a 1) (hy : Num b n) (hf : s.g.Fine) (hsn : s.g.Sane) (hss : 0 ≤ n ∧ n ≤ 100000) (hm : s.g.may 0 n = []) (hlen : line.size ≤ 200) (hlog : s.log.length < 100) (hwd : wordsOf line = [⟨#[115, 116, 97, 114, 116]⟩, a, b]) :
   DoSpec w0 e s (St.put { s with g := s.g.start 0 n } line) line 0 :=
  spec_ok hT (s' := { s with g := s.g.start 0 n }) hlen hlog rfl hwd (verb_start _) en_150 (fun x lv lE M hL A c Fr hs w hw => by
    have hp : (ents (e.mv x) lv lE s M ++ Fr).Perm _ := (pk (.there (.there (.there (.there .here)))) (pk (.there (.there (.there (.there .here)))) (pk (.there (.there (.there (.there .here)))) (pk (.there (.there (.there (.there .here)))) (.refl _)))))
    refine (start_yes (ea := e.mv x) (lv := lv) (g := s.g) n (.head _) (hs.perm hp) hx hy hf hsn hss hm w (hw.perm hp)).mono ?_
    rintro r w' ⟨h1, h2⟩
    exact ⟨x, h1, hL, h2.perm (pk (.there (.there (.there (.there .here)))) (pk (.there (.there (.there (.there .here)))) (pk (.there (.there (.there (.there .here)))) (pk (.there (.there (.there (.there .here)))) (.refl _)))))⟩)
theorem spec_leg (hT : Tab w0) {e : EvAt} {s : St} {line a b d : ByteArray} {n : Int} (hx : Num a 1) (hy : Num b 0) (hz : Num d n) (ht : 0 ≤ n ∧ n ≤ 100000) (hok : cardOk s.l0 s.l1 s.l2) (hlen : line.size ≤ 200) (hlog : s.log.length < 100) (hwd : wordsOf line = [⟨#[108, 101, 103]⟩, a, b, d]) :
   DoSpec w0 e s (St.put { s with s0 := n } line) line 0 :=
  spec_ok hT (s' := { s with s0 := n }) hlen hlog rfl hwd (verb_leg _) en_155 (fun x lv lE M hL A c Fr hs w hw => by
    have hp : (ents (e.mv x) lv lE s M ++ Fr).Perm _ := (pk (.there .here) (pk (.there .here) (pk (.there .here) (.refl _))))
    refine (leg_ok (ea := e.mv x) (lv := lv) (.head _) ((tail_in (e := e.mv x)).sub (.cons _ (.cons _ (.cons _ (.cons _ (.cons _ (.cons _ (.cons _ (.refl _))))))))) (hs.perm hp) hx hy hz ht hok w (hw.perm hp)).mono ?_
    rintro r w' ⟨y, h1, _, h2⟩
    exact ⟨⟨x.wl, y.1, y.2⟩, h1, hL, h2.perm (pk (.there (.there (.there .here))) (.refl _))⟩)
theorem spec_line0 (hT : Tab w0) {e : EvAt} {s : St} {line a b d u : ByteArray} {n2 n3 : Int} (hx : Num a 1) (hy : Num b 0) (hz : Num d n2) (hu : Num u n3) (ht : 0 ≤ s.s0 ∧ s.s0 ≤ 100000) (hok : cardOk ⟨n2, n3, false, 0⟩ s.l1 s.l2) (hlen : line.size ≤ 200) (hlog : s.log.length < 100) (hwd : wordsOf line = [⟨#[108, 105, 110, 101]⟩, a, b, d, u]) :
   DoSpec w0 e s (St.put { s with l0 := ⟨n2, n3, false, 0⟩ } line) line 0 :=
  spec_ok hT (s' := { s with l0 := ⟨n2, n3, false, 0⟩ }) hlen hlog rfl hwd (verb_line _) en_156 (fun x lv lE M hL A c Fr hs w hw => by
    have hp : (ents (e.mv x) lv lE s M ++ Fr).Perm _ := (pk (.there .here) (pk (.there .here) (pk (.there .here) (.refl _))))
    refine (line_0_ok (ea := e.mv x) (lv := lv) (.head _) ((tail_in (e := e.mv x)).sub (.cons _ (.cons _ (.cons _ (.cons _ (.cons _ (.cons _ (.cons _ (.refl _))))))))) (hs.perm hp) hx hy hz hu ht hok w (hw.perm hp)).mono ?_
    rintro r w' ⟨y, h1, _, h2⟩
    exact ⟨⟨x.wl, y.1, y.2⟩, h1, hL, h2.perm (pk (.there (.there (.there .here))) (.refl _))⟩)
theorem spec_take (hT : Tab w0) {e : EvAt} {s : St} {line a b d u : ByteArray} {n2 : Int} (hx : Num a 1) (hy : Num b 1) (hz : Num d n2) (hu : Num u 400000) (ht : 0 ≤ s.s0 ∧ s.s0 ≤ 100000) (hlf : s.lg.Fine) (hkv : s.lg.kv = [(R1, 2000), (R2, 302000)]) (hok : cardOk s.l0 ⟨n2, 300000, false, 0⟩ s.l2) (hlen : line.size ≤ 200) (hlog : s.log.length < 100) (hwd : wordsOf line = [⟨#[116, 97, 107, 101]⟩, a, b, d, u]) :
   DoSpec w0 e s (St.put { s with l1 := ⟨n2, 300000, false, 0⟩ } line) line 0 :=
  spec_ok hT (s' := { s with l1 := ⟨n2, 300000, false, 0⟩ }) hlen hlog rfl hwd (verb_take _) en_157 (fun x lv lE M hL A c Fr hs w hw => by
    have hp : (ents (e.mv x) lv lE s M ++ Fr).Perm _ := (pk (.there .here) (pk (.there .here) (pk (.there .here) (.refl _))))
    refine (take_ok (ea := e.mv x) (lv := lv) (lg := s.lg) (.head _) ((tail_in (e := e.mv x)).sub (.cons _ (.cons _ (.cons _ (.cons _ (.cons _ (.cons _ (.cons _ (.refl _))))))))) (.tail _ (.tail _ (.tail _ (.tail _ (.tail _ (.head _)))))) (.tail _ (.tail _ (.tail _ (.tail _ (.tail _ (.tail _ (.head _))))))) hlf hkv (hs.perm hp) hx hy hz hu ht hok w (hw.perm hp)).mono ?_
    rintro r w' ⟨y, h1, _, h2⟩
    exact ⟨⟨x.wl, y.1, y.2⟩, h1, hL, h2.perm (pk (.there (.there (.there .here))) (.refl _))⟩)
theorem spec_pass (hT : Tab w0) {e : EvAt} {s : St} {line a0 a1 a2 a3 a4 a5 : ByteArray} {n1 n4 n5 s2 : Int} {p : Nat} (hx0 : Num a0 0) (hx1 : Num a1 n1) (hx2 : Num a2 1) (hx3 : Num a3 (p : Int)) (hx4 : Num a4 n4) (hx5 : Num a5 n5) (hlf : s.lg.Fine) (hok : s.lg.rightB ⟨0, n1, 1, 1, p, n4⟩ n5 = true) (hnew : aget ⟨0, n1, 1, 1, p, n4⟩ s.lg.kv = none) (hl5 : s.lg.kv.length < 5000) (hf : s.g.Fine) (hq : IntKind.i64.wrap (n5.tdiv 1000) = s2) (hval : gvalid s.g.plan 8 s2 p 0 = true) (hlen : line.size ≤ 200) (hlog : s.log.length < 100) (hwd : wordsOf line = [⟨#[112, 97, 115, 115]⟩, a0, a1, a2, a3, a4, a5]) :
   DoSpec w0 e s (St.put { s with lg := s.lg.add ⟨0, n1, 1, 1, p, n4⟩ n5, g := s.g.hear 8 s2 p 0 } line) line 0 :=
  spec_ok hT (s' := { s with lg := s.lg.add ⟨0, n1, 1, 1, p, n4⟩ n5, g := s.g.hear 8 s2 p 0 }) hlen hlog rfl hwd (verb_pass _) en_151 (fun x lv lE M hL A c Fr hs w hw => by
    have hp : (ents (e.mv x) lv lE s M ++ Fr).Perm _ := (pk (.there (.there (.there (.there (.there (.there (.there (.there .here)))))))) (pk (.there (.there (.there (.there (.there (.there (.there (.there .here)))))))) (pk (.there (.there (.there (.there .here)))) (pk (.there (.there (.there (.there .here)))) (pk (.there (.there (.there (.there .here)))) (pk (.there (.there (.there (.there .here)))) (.refl _)))))))
    refine (pass_ok (ea := e.mv x) (lv := lv) (lg := s.lg) (g := s.g) (.head _) ((tail_in (e := e.mv x)).sub (.cons _ (.cons _ (.cons _ (.cons _ (.refl _)))))) (hs.perm hp) hx0 hx1 hx2 hx3 hx4 hx5 hL.srcs hlf hok hnew hl5 hf hq hval w (hw.perm hp)).mono ?_
    rintro r w' ⟨y, h1, _, h2⟩
    exact ⟨⟨{ x.wl with mb := y }, x.starts, x.lines⟩, h1, ⟨hL.least, hL.srcs⟩, h2.perm (pk (.there (.there (.there (.there (.there (.there .here)))))) (pk (.there (.there (.there (.there (.there (.there .here)))))) (pk (.there (.there (.there (.there (.there (.there .here)))))) (pk (.there (.there (.there (.there (.there (.there .here)))))) (pk (.there (.there .here)) (pk (.there (.there .here)) (pk (.there (.there .here)) (pk (.there (.there .here)) (.refl _)))))))))⟩)
theorem spec_start_no {e : EvAt} {s : St} {line a b : ByteArray} {n : Int} (hx : Num a 1) (hy : Num b n) (hf : s.g.Fine) (hsn : s.g.Sane) (hss : 0 ≤ n ∧ n ≤ 100000) (hm : s.g.may 0 n ≠ []) (hlen : line.size ≤ 200) (hwd : wordsOf line = [⟨#[115, 116, 97, 114, 116]⟩, a, b]) :
   DoSpec w0 e s s line 7 :=
  spec_err (by decide) hlen hwd (verb_start _) en_150 (fun x lv lE M hL A c Fr hs w hw => by
    have hp : (ents (e.mv x) lv lE s M ++ Fr).Perm _ := (pk (.there (.there (.there (.there .here)))) (pk (.there (.there (.there (.there .here)))) (pk (.there (.there (.there (.there .here)))) (pk (.there (.there (.there (.there .here)))) (.refl _)))))
    refine (start_no (ea := e.mv x) (lv := lv) (g := s.g) n (.head _) (hs.perm hp) hx hy hf hsn hss hm w (hw.perm hp)).mono ?_
    rintro r w' ⟨h1, h2⟩
    exact ⟨h1, h2.perm (pk (.there (.there (.there (.there .here)))) (pk (.there (.there (.there (.there .here)))) (pk (.there (.there (.there (.there .here)))) (pk (.there (.there (.there (.there .here)))) (.refl _)))))⟩)
theorem spec_line1_no {e : EvAt} {s : St} {line a b d u : ByteArray} {n2 n3 : Int} (hx : Num a 1) (hy : Num b 1) (hz : Num d n2) (hu : Num u n3) (ht : 0 ≤ s.s0 ∧ s.s0 ≤ 100000) (hok : ¬ cardOk s.l0 ⟨n2, n3, false, 0⟩ s.l2) (hlen : line.size ≤ 200) (hwd : wordsOf line = [⟨#[108, 105, 110, 101]⟩, a, b, d, u]) :
   DoSpec w0 e s s line 2 :=
  spec_err (by decide) hlen hwd (verb_line _) en_156 (fun x lv lE M hL A c Fr hs w hw => by
    have hp : (ents (e.mv x) lv lE s M ++ Fr).Perm _ := (pk (.there .here) (pk (.there .here) (pk (.there .here) (.refl _))))
    refine (line_1_no (ea := e.mv x) (lv := lv) (.head _) ((tail_in (e := e.mv x)).sub (.cons _ (.cons _ (.cons _ (.cons _ (.cons _ (.cons _ (.cons _ (.refl _))))))))) (hs.perm hp) hx hy hz hu ht hok w (hw.perm hp)).mono ?_
    rintro r w' ⟨h1, h2⟩
    exact ⟨h1, h2.perm (pk (.there (.there (.there .here))) (.refl _))⟩)
theorem spec_open_bad {e : EvAt} {s : St} {line a : ByteArray} (hx1 : Digits a) (hx2 : a.size ≤ 15) (hx : numOk a = false) (hlen : line.size ≤ 200) (hwd : wordsOf line = [⟨#[111, 112, 101, 110]⟩, a]) :
   DoSpec w0 e s s line 3 :=
  spec_err (by decide) hlen hwd (verb_open _) en_148 (fun x lv lE M hL A c Fr hs w hw => by
    skip
    exact hear_open_bad (ea := e.mv x) (lv := lv) (.head _) hs hx1 hx2 hx w hw)
theorem spec_post_no {e : EvAt} {s : St} {line a b : ByteArray} {n p : Int} (hx : Num a p) (hy : Num b n) (hf : s.g.Fine) (hval : gvalid s.g.plan 3 n p 0 = false) (hlen : line.size ≤ 200) (hwd : wordsOf line = [⟨#[112, 111, 115, 116]⟩, a, b]) :
   DoSpec w0 e s s line 2 :=
  spec_err (by decide) hlen hwd (verb_post _) en_148 (fun x lv lE M hL A c Fr hs w hw => by
    skip
    exact hear_post_no (ea := e.mv x) (lv := lv) (g := s.g) n p (.head _) (.tail _ (.tail _ (.tail _ (.tail _ (.head _))))) hs hx hy hf hval w hw)
end
end Go.Proofs.W
