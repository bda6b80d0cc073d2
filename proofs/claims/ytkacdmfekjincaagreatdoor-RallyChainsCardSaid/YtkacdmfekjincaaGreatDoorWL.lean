/-
  What functions of the program that RallyChains reaches do, one contract each, part 12.
-/
import Derived.Test.YtkacdmfekjincaaGreatDoorWK
set_option linter.unusedVariables false
set_option linter.unusedSimpArgs false
set_option linter.unusedSectionVars false
set_option maxRecDepth 100000
namespace Go.Proofs.W
open Go Go.Sl Go.RowKit Go.Proofs
attribute [local irreducible] Go.Sl.Eff
theorem en_37 : Enters Tryz.prog 37 := enters_of Tryz.func37 (by kernel_rfl) (by kernel_rfl)
theorem en_38 : Enters Tryz.prog 38 := enters_of Tryz.func38 (by kernel_rfl) (by kernel_rfl)
abbrev sI : St := ⟨GuardSt.new exGuard, exLog, 0, missedL, missedL, missedL, []⟩
theorem ents_sub {e : EvAt} {lv : Value} {lE : List Ent} {s : St} {M M' : List Ent} (h : M.Sublist M') : (ents e lv lE s M).Sublist (ents e lv lE s M') := by
  unfold ents
  iterate 10 refine .cons_cons _ ?_
  exact (List.Sublist.refl lE).append ((List.Sublist.refl _).append ((List.Sublist.refl _).append ((List.Sublist.refl _).append h)))
theorem logNil : LogOk (.slice none 0 0) [] sI.log := ⟨Own.nil _ _, by simp, by simp⟩
section
variable {w0 : World} {M : List Ent}
theorem console_c {a : SAt} (h : a.In M) (script : ByteArray) (st : Nat → St) (code : Nat → Nat) (out : Nat → List UInt8) (hsz : script.size ≤ 50000) (hst0 : st 0 = sI) (hout0 : out 0 = [])
   (hlens : ∀ k, (out k).length ≤ 1000000) (hcodes : ∀ k, code k < 10) (hfin : 0 < (out (splitB 10 script.size script).length).length)
   (hemp : ∀ k, (splitB 10 script.size script)[k]? = some ⟨#[]⟩ → st (k + 1) = st k ∧ out (k + 1) = out k)
   (hout : ∀ k x, (splitB 10 script.size script)[k]? = some x → x ≠ ⟨#[]⟩ → out (k + 1) = out k ++ (saysB (code k)).data.toList)
   (hdo : ∀ e k x, (splitB 10 script.size script)[k]? = some x → x ≠ ⟨#[]⟩ → DoSpec w0 e (st k) (st (k + 1)) x (code k)) :
   ∀ w, Ok w0 M w → Calls Tryz.prog 18 #[.agg a.setup.toArray, .string script] w (fun r w' => r = .returned (.tuple #[.string ⟨(out (splitB 10 script.size script).length).toArray⟩, .int .i64 0]) ∧ Ok w0 M w') := by
  refine enter (vs := [_, _]) Tryz.func18 rfl Tryz.ntmps18 rfl ?_
  refine t_seq ?_
  refine t_region ?_
  refine t_eff rfl (e_box rfl rfl fun b2 => ?_)
  refine t_val (r_assign rfl) rfl ?_
  refine t_val (r_assign rfl) rfl ?_
  refine t_nil ?_
  refine Tr.keep (env' := [(1, _), (2, _)]) ⟨rfl, rfl, trivial⟩ ?_
  refine t_then ?_
  refine t_seq ?_
  refine t_region ?_
  refine t_val (r_loads ca_50 rfl (rds_m (n := 30) (vs := [_, _, _, _, _, _, _, _, _, _, _, _, _, _, _, _, _, _, _, _, _, _, _, _, _, _, _, _, _, _]) (.head _) rfl) rfl) rfl ?_
  refine t_eff rfl (e_call en_37 rfl rfl rfl rfl (open_c (h.sub (.cons _ (.refl _)))) fun e' hL0 => ?_)
  show Tr _ _ _ _ (ents e' (.slice none 0 0) [] sI (cel b2 50 a.setup :: M)) _
  refine t_val (r_move rfl) rfl ?_
  refine t_val (r_extract rfl rfl) rfl ?_
  refine t_val (r_extract rfl rfl) rfl ?_
  refine t_val (r_assign rfl) rfl ?_
  refine t_val (r_assign rfl) rfl ?_
  refine t_nil ?_
  refine Tr.keep (env' := [(1, _), (6, _), (7, _)]) ⟨rfl, rfl, rfl, trivial⟩ ?_
  refine t_then ?_
  refine t_seq ?_
  refine t_block ?_
  refine t_seq ?_
  refine t_region ?_
  refine t_val (r_move rfl) rfl ?_
  refine t_val (r_ne rfl rfl) rfl ?_
  refine t_val (r_assign rfl) rfl ?_
  refine t_nil ?_
  refine Tr.keep (env' := [(1, _), (6, _), (7, _), (13, _)]) ⟨rfl, rfl, rfl, rfl, trivial⟩ ?_
  refine t_then ?_
  refine t_cond_f rfl ?_
  refine t_seq ?_
  refine t_region ?_
  refine t_val (r_move rfl) rfl ?_
  refine t_val (r_len_str Tryz.underlying9 rfl) rfl ?_
  refine t_val (r_gt rfl rfl) rfl ?_
  refine t_val (r_assign rfl) rfl ?_
  refine t_nil ?_
  refine Tr.keep (env' := [(1, _), (6, _), (17, _)]) ⟨rfl, rfl, rfl, trivial⟩ ?_
  refine t_then ?_
  refine t_cond_f (b_of (by simp; omega)) ?_
  refine t_skip ?_
  refine t_in ?_
  refine t_then ?_
  refine t_seq ?_
  refine t_region ?_
  refine t_val (r_move rfl) rfl ?_
  refine t_val (r_makeInterface Tryz.underlying33 (by simp) rfl) rfl ?_
  refine t_val (r_move rfl) rfl ?_
  refine t_eff rfl (e_mcall en_38 rfl rfl rfl rfl (fun w hw => said_c (e := e') (lE0 := []) script st code out (by omega) (by rw [hst0]; exact hL0) (by rw [hst0]; exact logNil) hout0 hlens hcodes hfin hemp hout (hdo e') w (by rw [hst0]; exact hw)) ?_)
  refine t_val (r_assign rfl) rfl ?_
  refine t_val (r_assign rfl) rfl ?_
  refine t_nil ?_
  refine Tr.keep (env' := [(4, _), (5, _)]) ⟨rfl, rfl, trivial⟩ ?_
  refine t_then ?_
  refine t_retc ?_
  refine t_ret2 rfl rfl rfl (fun w hw => ?_)
  exact ⟨rfl, hw.sub (.cons _ (.refl _))⟩
theorem replay_c {a : SAt} (h : a.In M) {A : Option Addr} {c : Nat} {lines : List ByteArray} (hs : SlRd w0 M 1 A lines.length (lines.map encS)) (st : Nat → St) (hst0 : st 0 = sI) (hdo : ∀ e k x, lines[k]? = some x → DoSpec w0 e (st k) (st (k + 1)) x 0) :
   ∀ w, Ok w0 M w → Calls Tryz.prog 20 #[.agg a.setup.toArray, .slice A lines.length c] w (fun r w' => ∃ y : EvAt × Value × List Ent, r = .returned (.tuple #[.pointer (some ⟨y.1.eb, 0, none⟩), .int .i64 (-1), .int .i64 0]) ∧ True ∧ Ok w0 (ents y.1 y.2.1 y.2.2 (st lines.length) M) w') := by
  have hbig := hs.big
  refine enter (vs := [_, _]) Tryz.func20 rfl Tryz.ntmps20 rfl ?_
  refine t_seq ?_
  refine t_region ?_
  refine t_eff rfl (e_box rfl rfl fun b2 => ?_)
  refine t_val (r_assign rfl) rfl ?_
  refine t_val (r_assign rfl) rfl ?_
  refine t_val (r_assign rfl) rfl ?_
  refine t_nil ?_
  refine Tr.keep (env' := [(1, _), (2, _)]) ⟨rfl, rfl, trivial⟩ ?_
  refine t_then ?_
  refine t_seq ?_
  refine t_region ?_
  refine t_val (r_loads ca_50 rfl (rds_m (n := 30) (vs := [_, _, _, _, _, _, _, _, _, _, _, _, _, _, _, _, _, _, _, _, _, _, _, _, _, _, _, _, _, _]) (.head _) rfl) rfl) rfl ?_
  refine t_eff rfl (e_call en_37 rfl rfl rfl rfl (open_c (h.sub (.cons _ (.refl _)))) fun e' hL0 => ?_)
  show Tr _ _ _ _ (ents e' (.slice none 0 0) [] sI (cel b2 50 a.setup :: M)) _
  refine t_val (r_move rfl) rfl ?_
  refine t_val (r_extract rfl rfl) rfl ?_
  refine t_val (r_extract rfl rfl) rfl ?_
  refine t_val (r_assign rfl) rfl ?_
  refine t_val (r_assign rfl) rfl ?_
  refine t_nil ?_
  refine Tr.keep (env' := [(1, _), (7, _), (8, _)]) ⟨rfl, rfl, rfl, trivial⟩ ?_
  refine t_then ?_
  refine t_seq ?_
  refine t_seq ?_
  refine t_region ?_
  refine t_val (r_move rfl) rfl ?_
  refine t_val (r_ne rfl rfl) rfl ?_
  refine t_nil ?_
  refine Tr.keep (env' := [(1, _), (7, _), (8, _), (18, _)]) ⟨rfl, rfl, rfl, rfl, trivial⟩ ?_
  refine t_then ?_
  refine t_cond_f rfl ?_
  refine t_skip ?_
  refine t_then ?_
  refine t_seq ?_
  refine t_seq ?_
  refine t_region ?_
  refine t_val (r_move rfl) rfl ?_
  refine t_val (r_len_slice Tryz.underlying22 rfl) rfl ?_
  refine t_val (r_move rfl) rfl ?_
  refine t_nil ?_
  refine Tr.keep (env' := [(7, _), (20, _), (21, _), (22, _)]) ⟨rfl, rfl, rfl, rfl, trivial⟩ ?_
  refine t_then ?_
  refine t_block ?_
  refine t_loop (fun z : Nat × Mv × Value × List Ent => [(7, .pointer (some ⟨e'.eb, 0, none⟩)), (20, .slice A lines.length c), (21, .int .i64 (lines.length : Int)), (22, .int .i64 (z.1 : Int))]) (fun z : Nat × Mv × Value × List Ent => ents (e'.mv z.2.1) z.2.2.1 z.2.2.2 (st z.1) (cel b2 50 a.setup :: M)) (fun z : Nat × Mv × Value × List Ent => z.1 ≤ lines.length ∧ (st z.1).lg.Lies z.2.1.wl ∧ LogOk z.2.2.1 z.2.2.2 (st z.1).log) (fun z : Nat × Mv × Value × List Ent => lines.length - z.1) (0, ⟨e'.wl, e'.starts, e'.lines⟩, .slice none 0 0, []) ⟨Nat.zero_le _, by rw [hst0]; exact hL0, by rw [hst0]; exact logNil⟩ ⟨rfl, rfl, rfl, rfl, trivial⟩ (by show (ents e' _ _ (st 0) _).Sublist _; rw [hst0]; exact .refl _) ?_
  intro K ⟨k, x, lv, lE⟩ ⟨hk, hL, hLog⟩ IH
  dsimp only at hk hL hLog IH ⊢
  refine t_seq ?_
  refine t_region ?_
  refine t_val (r_lt rfl rfl) rfl ?_
  refine t_nil ?_
  refine Tr.keep (env' := [(7, _), (20, _), (21, _), (22, _), (23, _)]) ⟨rfl, rfl, rfl, rfl, rfl, trivial⟩ ?_
  refine t_then ?_
  refine t_seq ?_
  refine t_cond rfl (fun hc => ?_) (fun hc => ?_)
  · have hlt : k < lines.length := by have := of_decide_eq_true hc; omega
    obtain ⟨ln, hln⟩ : ∃ ln, lines[k]? = some ln := ⟨_, List.getElem?_eq_getElem hlt⟩
    obtain ⟨b, o, hA, hrd⟩ := hs.at' (by omega)
    refine t_skip ?_
    refine t_then ?_
    refine t_seq ?_
    refine t_block ?_
    refine t_seq ?_
    refine t_region ?_
    refine t_val (r_move rfl) rfl ?_
    refine t_val (r_ia_s k Tryz.underlying22 iz_9 hA rfl rfl rfl hlt) rfl ?_
    refine t_val (r_load ca_9 rfl ((hrd k (encS ln) (by rw [List.getElem?_map, hln]; rfl) 0 (.string ln) rfl).sub ((List.sublist_cons_self _ _).trans ents_tail))) rfl ?_
    refine t_val (r_assign rfl) rfl ?_
    refine t_val (r_assign rfl) rfl ?_
    refine t_nil ?_
    refine Tr.keep (env' := [(7, _), (9, _), (10, _), (20, _), (21, _), (22, _)]) ⟨rfl, rfl, rfl, rfl, rfl, rfl, trivial⟩ ?_
    refine t_then ?_
    refine t_seq ?_
    refine t_region ?_
    refine t_val (r_move rfl) rfl ?_
    refine t_val (r_move rfl) rfl ?_
    refine t_eff rfl (e_call en_15 rfl rfl rfl rfl (hdo e' k ln hln x lv lE _ hL hLog) fun y hy => ?_)
    refine t_val (r_assign rfl) rfl ?_
    refine t_nil ?_
    refine Tr.keep (env' := [(7, _), (9, _), (11, _), (20, _), (21, _), (22, _)]) ⟨rfl, rfl, rfl, rfl, rfl, rfl, trivial⟩ ?_
    refine t_then ?_
    refine t_seq ?_
    refine t_region ?_
    refine t_val (r_move rfl) rfl ?_
    refine t_val (r_ne rfl rfl) rfl ?_
    refine t_nil ?_
    refine Tr.keep (env' := [(7, _), (9, _), (11, _), (20, _), (21, _), (22, _), (31, _)]) ⟨rfl, rfl, rfl, rfl, rfl, rfl, rfl, trivial⟩ ?_
    refine t_then ?_
    refine t_cond_f rfl ?_
    refine t_skip ?_
    refine t_in ?_
    refine t_then ?_
    refine t_region ?_
    refine t_val (r_addi rfl rfl (by omega)) rfl ?_
    refine t_val (r_move rfl) rfl ?_
    refine t_nil ?_
    refine Tr.keep (env' := [(7, _), (20, _), (21, _), (22, _)]) ⟨rfl, rfl, rfl, rfl, trivial⟩ ?_
    refine t_then ?_
    refine t_K (IH (k + 1, y.1, y.2.1, y.2.2) ⟨by show k + 1 ≤ lines.length; omega, hy.1, hy.2⟩ (by simp; omega)) ⟨rfl, rfl, rfl, rfl, trivial⟩ (.refl _)
  · have hge : ¬ k < lines.length := by have := of_decide_eq_false hc; omega
    obtain rfl : k = lines.length := by omega
    refine t_exit ?_
    refine t_then_exit ?_
    refine t_then_exit ?_
    refine t_in_hit ?_
    refine t_then ?_
    refine t_seq ?_
    refine t_region ?_
    refine t_val (r_move rfl) rfl ?_
    refine t_val (r_assign rfl) rfl ?_
    refine t_val (r_assign rfl) rfl ?_
    refine t_val (r_assign rfl) rfl ?_
    refine t_nil ?_
    refine Tr.keep (env' := [(4, _), (5, _), (6, _)]) ⟨rfl, rfl, rfl, trivial⟩ ?_
    refine t_then ?_
    refine t_retc ?_
    refine t_ret3 rfl rfl rfl rfl (fun w hw => ?_)
    exact ⟨(e'.mv x, lv, lE), rfl, trivial, hw.sub (ents_sub (.cons _ (.refl _)))⟩
theorem cards_c {e : EvAt} {lv : Value} {s : St} (hev : e.ev lv ∈ M) (hcd : e.ec s.c ∈ M) (hS : e.es s.c ∈ M) (hL : e.el s.c ∈ M) : ∀ w, Ok w0 M w → Calls Tryz.prog 17 #[.pointer (some ⟨e.eb, 0, none⟩)] w
   (fun r w' => ∃ y : Sl3 × Sl3 × Sl3, r = .returned (y.1.v 1) ∧ True ∧ Ok w0 (cel y.1.b 78 ([.int .i64 0, y.2.1.v 1, y.2.2.v 3] ++ y.1.sp) :: cel y.2.1.b 3 (flat ([s.s0].map encI) ++ y.2.1.sp) :: cel y.2.2.b 81 (flat ([s.l0, s.l1, s.l2].map CLine.cells) ++ y.2.2.sp) :: M) w') := by
  refine enter (vs := [_]) Tryz.func17 rfl Tryz.ntmps17 rfl ?_
  refine t_seq ?_
  refine t_region ?_
  refine t_val (r_assign rfl) rfl ?_
  refine t_nil ?_
  refine Tr.keep (env' := [(0, _)]) ⟨rfl, trivial⟩ ?_
  refine t_then ?_
  refine t_seq ?_
  refine t_seq ?_
  refine t_region ?_
  refine t_val (r_move rfl) rfl ?_
  refine t_eff rfl (e_pcall en_24 rfl rfl rfl rfl (evReady_c (ea := e) (hev)) ?_)
  refine t_val (r_not rfl) rfl ?_
  refine t_nil ?_
  refine Tr.keep (env' := [(0, _), (8, _)]) ⟨rfl, rfl, trivial⟩ ?_
  refine t_then ?_
  refine t_cond_f rfl ?_
  refine t_skip ?_
  refine t_then ?_
  refine t_seq ?_
  refine t_region ?_
  refine t_val (r_assign rfl) rfl ?_
  refine t_nil ?_
  refine Tr.keep (env' := [(0, _), (3, _)]) ⟨rfl, rfl, trivial⟩ ?_
  refine t_then ?_
  refine t_seq ?_
  refine t_seq ?_
  refine t_region ?_
  refine t_val (r_move rfl) rfl ?_
  refine t_val (r_nilCheck rfl) rfl ?_
  refine t_val (r_fa fo_56_4 rfl) rfl ?_
  refine t_val (r_load ca_54 rfl (rd_m hev rfl)) rfl ?_
  refine t_val (r_len_slice Tryz.underlying54 rfl) rfl ?_
  refine t_val (r_move rfl) rfl ?_
  refine t_nil ?_
  refine Tr.keep (env' := [(3, _), (12, _), (13, _), (14, _)]) ⟨rfl, rfl, rfl, rfl, trivial⟩ ?_
  refine t_then ?_
  refine t_block ?_
  refine t_unroll0 ?_
  refine t_unroll ?_
  refine t_seq ?_
  refine t_region ?_
  refine t_val (r_lt rfl rfl) rfl ?_
  refine t_nil ?_
  refine Tr.keep (env' := [(3, _), (12, _), (13, _), (14, _), (15, _)]) ⟨rfl, rfl, rfl, rfl, rfl, trivial⟩ ?_
  refine t_then ?_
  refine t_seq ?_
  refine t_cond_t rfl ?_
  refine t_skip ?_
  refine t_then ?_
  refine t_seq ?_
  refine t_block ?_
  refine t_seq ?_
  refine t_region ?_
  refine t_val (r_ia (j := 0) Tryz.underlying54 iz_78 rfl rfl rfl (by decide)) rfl ?_
  refine t_val (r_loads ca_78 rfl (rds_m (n := 3) (vs := [_, _, _]) hcd rfl) rfl) rfl ?_
  refine t_eff rfl (e_alloc inf_78 (l := [.int .i64 0, .slice none 0 0, .slice none 0 0]) rfl rfl fun b5 => ?_)
  refine t_eff rfl (e_stores iz_78 rfl rfl (vs := [_, _, _]) rfl rfl (by simp [Value.oneCell']) (.cons .zero (.cons (.succ .zero) (.cons (.succ (.succ .zero)) .nil))) .here ?_)
  refine t_nil ?_
  refine Tr.keep (env' := [(3, _), (5, _), (12, _), (13, _), (14, _)]) ⟨rfl, rfl, rfl, rfl, rfl, trivial⟩ ?_
  refine t_then ?_
  refine t_region ?_
  refine t_val (r_move rfl) rfl ?_
  refine t_val (r_loads ca_78 rfl (rds_m (n := 3) (vs := [_, _, _]) (.head _) rfl) rfl) rfl ?_
  refine t_eff rfl (e_call en_36 rfl rfl rfl rfl (copied_c (xs := [s.s0]) (ls := [s.l0, s.l1, s.l2]) (SlRd.of_cel (T := 3) (xs := [s.s0].map encI) (sp := e.starts.sp) ((.tail _ hS)) rfl (by simp [encI]) (by simp)) (SlRd.of_cel (T := 81) (xs := [s.l0, s.l1, s.l2].map CLine.cells) (sp := e.lines.sp) ((.tail _ hL)) rfl (by simp [cells_cline]) (by simp)) (by simp) (by simp) (by simp) (by simp)) fun y _ => ?_)
  refine t_eff rfl (e_buildSlice (E := 78) (l := [.int .i64 0, y.1.v 1, y.2.v 3]) rfl (fun w => by kernel_rfl) rfl fun b21 => ?_)
  refine t_eff rfl (e_append Tryz.underlying54 inf_78 rfl (by decide) rfl rfl (Own.nil 78 3) (.refl _) rfl (by simp [Value.oneCell']) (by decide) (by decide) rfl fun v1 E1 hO1 => ?_)
  refine t_val (r_assign rfl) rfl ?_
  refine t_nil ?_
  refine Tr.keep (env' := [(3, _), (12, _), (13, _), (14, _)]) ⟨rfl, rfl, rfl, rfl, trivial⟩ ?_
  refine t_in ?_
  refine t_then ?_
  refine t_region ?_
  refine t_val (r_addi rfl rfl (by omega)) rfl ?_
  refine t_val (r_move rfl) rfl ?_
  refine t_nil ?_
  refine Tr.keep (env' := [(3, _), (12, _), (13, _), (14, _)]) ⟨rfl, rfl, rfl, rfl, trivial⟩ ?_
  refine t_then ?_
  refine t_unroll ?_
  refine t_seq ?_
  refine t_region ?_
  refine t_val (r_lt rfl rfl) rfl ?_
  refine t_nil ?_
  refine Tr.keep (env' := [(3, _), (12, _), (13, _), (14, _), (15, _)]) ⟨rfl, rfl, rfl, rfl, rfl, trivial⟩ ?_
  refine t_then ?_
  refine t_seq ?_
  refine t_cond_f rfl ?_
  refine t_exit ?_
  refine t_then_exit ?_
  refine t_then_exit ?_
  refine t_in_hit ?_
  refine t_then ?_
  refine t_seq ?_
  refine t_region ?_
  refine t_val (r_move rfl) rfl ?_
  refine t_val (r_assign rfl) rfl ?_
  refine t_nil ?_
  refine Tr.keep (env' := [(2, _)]) ⟨rfl, trivial⟩ ?_
  refine t_then ?_
  refine t_retc ?_
  refine t_ret1 rfl rfl (fun w hw => ?_)
  obtain ⟨sC, hv, hE⟩ := own_sl hO1 rfl (Nat.succ_pos _)
  subst hv hE
  exact ⟨(sC, y.1, y.2), rfl, trivial, Ok.sub (hw.perm (pkb .here (pk .here (pk .here (.refl _))))) (.cons_cons _ (.cons_cons _ (.cons_cons _ (.cons _ (.refl _)))))⟩
end
end Go.Proofs.W
set_option linter.unusedVariables false
set_option linter.unusedSimpArgs false
set_option linter.unusedSectionVars false
set_option maxRecDepth 100000
namespace Go.Proofs.W
open Go Go.Sl Go.RowKit Go.Proofs
attribute [local irreducible] Go.Sl.Eff
theorem num_0 : Num ⟨#[48]⟩ 0 := ⟨⟨by unfold Digits; decide, by decide, by decide⟩, by decide⟩
theorem num_1 : Num ⟨#[49]⟩ 1 := ⟨⟨by unfold Digits; decide, by decide, by decide⟩, by decide⟩
theorem num_5 : Num ⟨#[53]⟩ 5 := ⟨⟨by unfold Digits; decide, by decide, by decide⟩, by decide⟩
theorem num_9 : Num ⟨#[57]⟩ 9 := ⟨⟨by unfold Digits; decide, by decide, by decide⟩, by decide⟩
theorem num_10 : Num ⟨#[49, 48]⟩ 10 := ⟨⟨by unfold Digits; decide, by decide, by decide⟩, by decide⟩
theorem num_600 : Num ⟨#[54, 48, 48]⟩ 600 := ⟨⟨by unfold Digits; decide, by decide, by decide⟩, by decide⟩
theorem num_630 : Num ⟨#[54, 51, 48]⟩ 630 := ⟨⟨by unfold Digits; decide, by decide, by decide⟩, by decide⟩
theorem num_633 : Num ⟨#[54, 51, 51]⟩ 633 := ⟨⟨by unfold Digits; decide, by decide, by decide⟩, by decide⟩
theorem num_1000 : Num ⟨#[49, 48, 48, 48]⟩ 1000 := ⟨⟨by unfold Digits; decide, by decide, by decide⟩, by decide⟩
theorem num_2000 : Num ⟨#[50, 48, 48, 48]⟩ 2000 := ⟨⟨by unfold Digits; decide, by decide, by decide⟩, by decide⟩
theorem num_300000 : Num ⟨#[51, 48, 48, 48, 48, 48]⟩ 300000 := ⟨⟨by unfold Digits; decide, by decide, by decide⟩, by decide⟩
theorem num_301000 : Num ⟨#[51, 48, 49, 48, 48, 48]⟩ 301000 := ⟨⟨by unfold Digits; decide, by decide, by decide⟩, by decide⟩
theorem num_302000 : Num ⟨#[51, 48, 50, 48, 48, 48]⟩ 302000 := ⟨⟨by unfold Digits; decide, by decide, by decide⟩, by decide⟩
theorem num_400000 : Num ⟨#[52, 48, 48, 48, 48, 48]⟩ 400000 := ⟨⟨by unfold Digits; decide, by decide, by decide⟩, by decide⟩
abbrev scA : ByteArray := ⟨#[111, 112, 101, 110, 32, 48, 10, 99, 111, 118, 101, 114, 101, 100, 32, 48, 10, 112, 111, 115, 116, 32, 48, 32, 53, 10, 112, 111, 115, 116, 32, 49, 32, 53, 10, 115, 116, 97, 114, 116, 32, 49, 32, 49, 48, 10, 115, 116, 97, 114, 116, 32, 49, 32, 49, 48, 10]⟩
abbrev scB : ByteArray := ⟨#[108, 105, 110, 101, 32, 49, 32, 49, 32, 54, 51, 51, 32, 51, 48, 48, 48, 48, 48, 10, 111, 112, 101, 110, 32, 48, 48, 10, 106, 117, 109, 112, 32, 49, 10, 112, 111, 115, 116, 32, 57, 32, 49]⟩
theorem splitA : splitB 10 scA.size scA = [⟨#[111, 112, 101, 110, 32, 48]⟩, ⟨#[99, 111, 118, 101, 114, 101, 100, 32, 48]⟩, ⟨#[112, 111, 115, 116, 32, 48, 32, 53]⟩, ⟨#[112, 111, 115, 116, 32, 49, 32, 53]⟩, ⟨#[115, 116, 97, 114, 116, 32, 49, 32, 49, 48]⟩, ⟨#[115, 116, 97, 114, 116, 32, 49, 32, 49, 48]⟩, ⟨#[]⟩] := by decide
theorem splitBB : splitB 10 scB.size scB = [⟨#[108, 105, 110, 101, 32, 49, 32, 49, 32, 54, 51, 51, 32, 51, 48, 48, 48, 48, 48]⟩, ⟨#[111, 112, 101, 110, 32, 48, 48]⟩, ⟨#[106, 117, 109, 112, 32, 49]⟩, ⟨#[112, 111, 115, 116, 32, 57, 32, 49]⟩] := by decide
theorem words_a0 : wordsOf ⟨#[111, 112, 101, 110, 32, 48]⟩ = [⟨#[111, 112, 101, 110]⟩, ⟨#[48]⟩] := by decide
theorem words_a1 : wordsOf ⟨#[99, 111, 118, 101, 114, 101, 100, 32, 48]⟩ = [⟨#[99, 111, 118, 101, 114, 101, 100]⟩, ⟨#[48]⟩] := by decide
theorem words_a2 : wordsOf ⟨#[112, 111, 115, 116, 32, 48, 32, 53]⟩ = [⟨#[112, 111, 115, 116]⟩, ⟨#[48]⟩, ⟨#[53]⟩] := by decide
theorem words_a3 : wordsOf ⟨#[112, 111, 115, 116, 32, 49, 32, 53]⟩ = [⟨#[112, 111, 115, 116]⟩, ⟨#[49]⟩, ⟨#[53]⟩] := by decide
theorem words_a4 : wordsOf ⟨#[115, 116, 97, 114, 116, 32, 49, 32, 49, 48]⟩ = [⟨#[115, 116, 97, 114, 116]⟩, ⟨#[49]⟩, ⟨#[49, 48]⟩] := by decide
theorem words_a5 : wordsOf ⟨#[115, 116, 97, 114, 116, 32, 49, 32, 49, 48]⟩ = [⟨#[115, 116, 97, 114, 116]⟩, ⟨#[49]⟩, ⟨#[49, 48]⟩] := by decide
theorem words_b0 : wordsOf ⟨#[108, 105, 110, 101, 32, 49, 32, 49, 32, 54, 51, 51, 32, 51, 48, 48, 48, 48, 48]⟩ = [⟨#[108, 105, 110, 101]⟩, ⟨#[49]⟩, ⟨#[49]⟩, ⟨#[54, 51, 51]⟩, ⟨#[51, 48, 48, 48, 48, 48]⟩] := by decide
theorem words_b1 : wordsOf ⟨#[111, 112, 101, 110, 32, 48, 48]⟩ = [⟨#[111, 112, 101, 110]⟩, ⟨#[48, 48]⟩] := by decide
theorem words_b2 : wordsOf ⟨#[106, 117, 109, 112, 32, 49]⟩ = [⟨#[106, 117, 109, 112]⟩, ⟨#[49]⟩] := by decide
theorem words_b3 : wordsOf ⟨#[112, 111, 115, 116, 32, 57, 32, 49]⟩ = [⟨#[112, 111, 115, 116]⟩, ⟨#[57]⟩, ⟨#[49]⟩] := by decide
theorem words_c0 : wordsOf ⟨#[112, 97, 115, 115, 32, 48, 32, 48, 32, 49, 32, 48, 32, 49, 48, 48, 48, 32, 50, 48, 48, 48]⟩ = [⟨#[112, 97, 115, 115]⟩, ⟨#[48]⟩, ⟨#[48]⟩, ⟨#[49]⟩, ⟨#[48]⟩, ⟨#[49, 48, 48, 48]⟩, ⟨#[50, 48, 48, 48]⟩] := by decide
theorem words_c1 : wordsOf ⟨#[112, 97, 115, 115, 32, 48, 32, 49, 32, 49, 32, 49, 32, 51, 48, 49, 48, 48, 48, 32, 51, 48, 50, 48, 48, 48]⟩ = [⟨#[112, 97, 115, 115]⟩, ⟨#[48]⟩, ⟨#[49]⟩, ⟨#[49]⟩, ⟨#[49]⟩, ⟨#[51, 48, 49, 48, 48, 48]⟩, ⟨#[51, 48, 50, 48, 48, 48]⟩] := by decide
theorem words_c2 : wordsOf ⟨#[108, 101, 103, 32, 49, 32, 48, 32, 54, 48, 48]⟩ = [⟨#[108, 101, 103]⟩, ⟨#[49]⟩, ⟨#[48]⟩, ⟨#[54, 48, 48]⟩] := by decide
theorem words_c3 : wordsOf ⟨#[108, 105, 110, 101, 32, 49, 32, 48, 32, 54, 51, 48, 32, 48]⟩ = [⟨#[108, 105, 110, 101]⟩, ⟨#[49]⟩, ⟨#[48]⟩, ⟨#[54, 51, 48]⟩, ⟨#[48]⟩] := by decide
theorem words_c4 : wordsOf ⟨#[116, 97, 107, 101, 32, 49, 32, 49, 32, 54, 51, 51, 32, 52, 48, 48, 48, 48, 48]⟩ = [⟨#[116, 97, 107, 101]⟩, ⟨#[49]⟩, ⟨#[49]⟩, ⟨#[54, 51, 51]⟩, ⟨#[52, 48, 48, 48, 48, 48]⟩] := by decide
def a1 : St := St.put { sI with g := sI.g.hear 1 0 0 0 } ⟨#[111, 112, 101, 110, 32, 48]⟩
def a2 : St := St.put { a1 with g := a1.g.hear 6 0 0 0 } ⟨#[99, 111, 118, 101, 114, 101, 100, 32, 48]⟩
def a3 : St := St.put { a2 with g := a2.g.hear 3 5 0 0 } ⟨#[112, 111, 115, 116, 32, 48, 32, 53]⟩
def a4 : St := St.put { a3 with g := a3.g.hear 3 5 1 0 } ⟨#[112, 111, 115, 116, 32, 49, 32, 53]⟩
def a5 : St := St.put { a4 with g := a4.g.start 0 10 } ⟨#[115, 116, 97, 114, 116, 32, 49, 32, 49, 48]⟩
def stA : Nat → St
  | 0 => sI | 1 => a1 | 2 => a2 | 3 => a3 | 4 => a4 | _ => a5
def codeA : Nat → Nat
  | 5 => 7 | _ => 0
def codeB : Nat → Nat
  | 0 => 2 | 1 => 3 | 2 => 3 | 3 => 2 | _ => 0
def outOf (code : Nat → Nat) (n : Nat) (k : Nat) : List UInt8 := ((List.range (min k n)).map fun j => (saysB (code j)).data.toList).flatten
theorem outOf_len (code : Nat → Nat) (n : Nat) (hn : n ≤ 10) (k : Nat) : (outOf code n k).length ≤ 1000000 := by
  have h : ∀ l : List Nat, (((l.map fun j => (saysB (code j)).data.toList)).flatten).length ≤ 8 * l.length := by
    intro l
    induction l with
    | nil => simp
    | cons x l ih =>
      have h8 : (saysB (code x)).data.toList.length ≤ 8 := by
        unfold saysB; split
        · decide
        · exact Nat.le_of_eq (errB_size _)
      simp only [List.map_cons, List.flatten_cons, List.length_append, List.length_cons]
      omega
  have := h (List.range (min k n))
  simp only [List.length_range] at this
  unfold outOf
  omega
theorem outOf_next (code : Nat → Nat) (n k : Nat) (h : k < n) : outOf code n (k + 1) = outOf code n k ++ (saysB (code k)).data.toList := by
  unfold outOf
  rw [show min (k + 1) n = min k n + 1 by omega, List.range_succ, List.map_append, List.flatten_append, show min k n = k by omega]
  simp
theorem outOf_stay (code : Nat → Nat) (n k : Nat) (h : n ≤ k) : outOf code n (k + 1) = outOf code n k := by
  unfold outOf
  rw [show min (k + 1) n = n by omega, show min k n = n by omega]
theorem codesA (k : Nat) : codeA k < 10 := by unfold codeA; split <;> decide
theorem codesB (k : Nat) : codeB k < 10 := by unfold codeB; split <;> decide
def c1 : St := St.put { sI with lg := sI.lg.add ⟨0, 0, 1, 1, 0, 1000⟩ 2000, g := sI.g.hear 8 2 0 0 } ⟨#[112, 97, 115, 115, 32, 48, 32, 48, 32, 49, 32, 48, 32, 49, 48, 48, 48, 32, 50, 48, 48, 48]⟩
def c2 : St := St.put { c1 with lg := c1.lg.add ⟨0, 1, 1, 1, 1, 301000⟩ 302000, g := c1.g.hear 8 302 1 0 } ⟨#[112, 97, 115, 115, 32, 48, 32, 49, 32, 49, 32, 49, 32, 51, 48, 49, 48, 48, 48, 32, 51, 48, 50, 48, 48, 48]⟩
def c3 : St := St.put { c2 with s0 := 600 } ⟨#[108, 101, 103, 32, 49, 32, 48, 32, 54, 48, 48]⟩
def c4 : St := St.put { c3 with l0 := ⟨630, 0, false, 0⟩ } ⟨#[108, 105, 110, 101, 32, 49, 32, 48, 32, 54, 51, 48, 32, 48]⟩
def c5 : St := St.put { c4 with l1 := ⟨633, 300000, false, 0⟩ } ⟨#[116, 97, 107, 101, 32, 49, 32, 49, 32, 54, 51, 51, 32, 52, 48, 48, 48, 48, 48]⟩
def stC : Nat → St
  | 0 => sI | 1 => c1 | 2 => c2 | 3 => c3 | 4 => c4 | _ => c5
theorem sane_of {g : GuardSt} (h1 : g.posts.all (fun x => decide (0 ≤ x.second) && decide (x.second ≤ 100000)) = true) (h2 : g.cars.all (fun c => decide (0 ≤ c.second) && decide (c.second ≤ 100000)) = true) : g.Sane :=
  ⟨fun x hx => by simpa using List.all_eq_true.1 h1 x hx, fun c hc => by simpa using List.all_eq_true.1 h2 c hc⟩
section
variable {w0 : World} {M : List Ent}
theorem doA (hT : Tab w0) (e : EvAt) (k : Nat) (x : ByteArray) (hx : (splitB 10 scA.size scA)[k]? = some x) (hne : x ≠ ⟨#[]⟩) : DoSpec w0 e (stA k) (stA (k + 1)) x (codeA k) := by
  rw [splitA] at hx
  match k, hx with
  | 0, hx => cases hx; exact spec_open hT (s := sI) (n := 0) num_0 (by constructor <;> decide) (by decide) (by decide) (by decide) words_a0
  | 1, hx => cases hx; exact spec_covered hT (s := a1) (n := 0) num_0 (by constructor <;> decide) (by decide) (by decide) (by decide) words_a1
  | 2, hx => cases hx; exact spec_post hT (s := a2) (n := 5) (p := 0) num_0 num_5 (by constructor <;> decide) (by decide) (by decide) (by decide) words_a2
  | 3, hx => cases hx; exact spec_post hT (s := a3) (n := 5) (p := 1) num_1 num_5 (by constructor <;> decide) (by decide) (by decide) (by decide) words_a3
  | 4, hx => cases hx; exact spec_start hT (s := a4) (n := 10) num_1 num_10 (by constructor <;> decide) (sane_of (by decide) (by decide)) (by decide) (by decide) (by decide) (by decide) words_a4
  | 5, hx => cases hx; exact spec_start_no (s := a5) (n := 10) num_1 num_10 (by constructor <;> decide) (sane_of (by decide) (by decide)) (by decide) (by decide) (by decide) words_a5
  | 6, hx => cases hx; exact absurd rfl hne
  | k + 7, hx => simp at hx
theorem doB (hT : Tab w0) (e : EvAt) (k : Nat) (x : ByteArray) (hx : (splitB 10 scB.size scB)[k]? = some x) : DoSpec w0 e sI sI x (codeB k) := by
  rw [splitBB] at hx
  match k, hx with
  | 0, hx => cases hx; exact spec_line1_no (s := sI) (n2 := 633) (n3 := 300000) num_1 num_1 num_633 num_300000 (by decide) (by decide) (by decide) words_b0
  | 1, hx => cases hx; exact spec_open_bad (s := sI) (by unfold Digits; decide) (by decide) (by decide) (by decide) words_b1
  | 2, hx => cases hx; exact spec_text (s := sI) (by decide) words_b2 (verb_jump _)
  | 3, hx => cases hx; exact spec_post_no (s := sI) (n := 1) (p := 9) num_9 num_1 (by constructor <;> decide) (by decide) (by decide) words_b3
  | k + 4, hx => simp at hx
abbrev linesC : List ByteArray := [⟨#[112, 97, 115, 115, 32, 48, 32, 48, 32, 49, 32, 48, 32, 49, 48, 48, 48, 32, 50, 48, 48, 48]⟩, ⟨#[112, 97, 115, 115, 32, 48, 32, 49, 32, 49, 32, 49, 32, 51, 48, 49, 48, 48, 48, 32, 51, 48, 50, 48, 48, 48]⟩, ⟨#[108, 101, 103, 32, 49, 32, 48, 32, 54, 48, 48]⟩, ⟨#[108, 105, 110, 101, 32, 49, 32, 48, 32, 54, 51, 48, 32, 48]⟩, ⟨#[116, 97, 107, 101, 32, 49, 32, 49, 32, 54, 51, 51, 32, 52, 48, 48, 48, 48, 48]⟩]
theorem doC (hT : Tab w0) (e : EvAt) (k : Nat) (x : ByteArray) (hx : linesC[k]? = some x) : DoSpec w0 e (stC k) (stC (k + 1)) x 0 := by
  match k, hx with
  | 0, hx => cases hx; exact spec_pass hT (s := sI) (n1 := 0) (n4 := 1000) (n5 := 2000) (s2 := 2) (p := 0) num_0 num_0 num_1 num_0 num_1000 num_2000 (by constructor <;> decide) (by decide) (by decide) (by decide) (by constructor <;> decide) (by decide) (by decide) (by decide) (by decide) words_c0
  | 1, hx => cases hx; exact spec_pass hT (s := c1) (n1 := 1) (n4 := 301000) (n5 := 302000) (s2 := 302) (p := 1) num_0 num_1 num_1 num_1 num_301000 num_302000 (by constructor <;> decide) (by decide) (by decide) (by decide) (by constructor <;> decide) (by decide) (by decide) (by decide) (by decide) words_c1
  | 2, hx => cases hx; exact spec_leg hT (s := c2) (n := 600) num_1 num_0 num_600 (by decide) (by decide) (by decide) (by decide) words_c2
  | 3, hx => cases hx; exact spec_line0 hT (s := c3) (n2 := 630) (n3 := 0) num_1 num_0 num_630 num_0 (by decide) (by decide) (by decide) (by decide) words_c3
  | 4, hx => cases hx; exact spec_take hT (s := c4) (n2 := 633) num_1 num_1 num_633 num_400000 (by decide) (by constructor <;> decide) (by rfl) (by decide) (by decide) (by decide) words_c4
  | k + 5, hx => simp at hx
end
end Go.Proofs.W
set_option linter.unusedVariables false
set_option linter.unusedSimpArgs false
set_option linter.unusedSectionVars false
set_option maxRecDepth 100000
namespace Go.Proofs.W
open Go Go.Sl Go.RowKit Go.Proofs
attribute [local irreducible] Go.Sl.Eff
theorem en_17 : Enters Tryz.prog 17 := enters_of Tryz.func17 (by kernel_rfl) (by kernel_rfl)
theorem en_18 : Enters Tryz.prog 18 := enters_of Tryz.func18 (by kernel_rfl) (by kernel_rfl)
theorem en_19 : Enters Tryz.prog 19 := enters_of Tryz.func19 (by kernel_rfl) (by kernel_rfl)
theorem en_20 : Enters Tryz.prog 20 := enters_of Tryz.func20 (by kernel_rfl) (by kernel_rfl)
theorem hempA (k : Nat) (hx : (splitB 10 scA.size scA)[k]? = some ⟨#[]⟩) : stA (k + 1) = stA k ∧ outOf codeA 6 (k + 1) = outOf codeA 6 k := by
  rw [splitA] at hx
  match k, hx with
  | 0, hx => exact absurd hx (by decide)
  | 1, hx => exact absurd hx (by decide)
  | 2, hx => exact absurd hx (by decide)
  | 3, hx => exact absurd hx (by decide)
  | 4, hx => exact absurd hx (by decide)
  | 5, hx => exact absurd hx (by decide)
  | 6, hx => exact ⟨rfl, outOf_stay _ _ _ (by decide)⟩
  | k + 7, hx => simp at hx
theorem houtA (k : Nat) (x : ByteArray) (hx : (splitB 10 scA.size scA)[k]? = some x) (hne : x ≠ ⟨#[]⟩) : outOf codeA 6 (k + 1) = outOf codeA 6 k ++ (saysB (codeA k)).data.toList := by
  refine outOf_next _ _ _ ?_
  rw [splitA] at hx
  have h7 := (List.getElem?_eq_some_iff.1 hx).1
  simp at h7
  rcases Nat.lt_or_ge k 6 with h | h
  · exact h
  · obtain rfl : k = 6 := by omega
    cases hx
    exact absurd rfl hne
theorem hempB (k : Nat) (hx : (splitB 10 scB.size scB)[k]? = some ⟨#[]⟩) : sI = sI ∧ outOf codeB 4 (k + 1) = outOf codeB 4 k := by
  rw [splitBB] at hx
  match k, hx with
  | 0, hx => exact absurd hx (by decide)
  | 1, hx => exact absurd hx (by decide)
  | 2, hx => exact absurd hx (by decide)
  | 3, hx => exact absurd hx (by decide)
  | k + 4, hx => simp at hx
theorem houtB (k : Nat) (x : ByteArray) (hx : (splitB 10 scB.size scB)[k]? = some x) (hne : x ≠ ⟨#[]⟩) : outOf codeB 4 (k + 1) = outOf codeB 4 k ++ (saysB (codeB k)).data.toList := by
  refine outOf_next _ _ _ ?_
  rw [splitBB] at hx
  have h7 := (List.getElem?_eq_some_iff.1 hx).1
  simpa using h7
section
variable {w0 : World} {M : List Ent}
theorem known_c (hT : Tab w0) : ∀ w, Ok w0 M w → Calls Tryz.prog 6 #[] w (fun e w' => e = .returned (.bool true) ∧ Ok w0 M w') := by
  refine enter (vs := []) Tryz.func6 rfl Tryz.ntmps6 rfl ?_
  refine t_seq ?_
  refine t_region ?_
  refine t_val (r_assign rfl) rfl ?_
  refine t_nil ?_
  refine Tr.keep (env' := []) trivial ?_
  refine t_then ?_
  refine t_seq ?_
  refine t_region ?_
  refine t_eff rfl (e_call en_19 rfl rfl rfl rfl simple_c fun a1 _ => ?_)
  refine t_eff rfl (e_pcall en_18 rfl rfl rfl rfl (console_c (a := a1) SAt.in_ents scA stA codeA (outOf codeA 6) (by decide) rfl rfl (outOf_len _ 6 (by decide)) codesA (by decide) hempA houtA (fun e k x hx hne => doA hT e k x hx hne)) ?_)
  refine t_val (r_move rfl) rfl ?_
  refine t_val (r_extract rfl rfl) rfl ?_
  refine t_val (r_extract rfl rfl) rfl ?_
  refine t_val (r_assign rfl) rfl ?_
  refine t_val (r_assign rfl) rfl ?_
  refine t_nil ?_
  refine Tr.keep (env' := [(1, _), (2, _)]) ⟨rfl, rfl, trivial⟩ ?_
  refine t_then ?_
  refine t_seq ?_
  refine t_region ?_
  refine t_eff rfl (e_call en_19 rfl rfl rfl rfl simple_c fun a2 _ => ?_)
  refine t_eff rfl (e_pcall en_18 rfl rfl rfl rfl (console_c (a := a2) SAt.in_ents scB (fun _ => sI) codeB (outOf codeB 4) (by decide) rfl rfl (outOf_len _ 4 (by decide)) codesB (by decide) hempB houtB (fun e k x hx _ => doB hT e k x hx)) ?_)
  refine t_val (r_move rfl) rfl ?_
  refine t_val (r_extract rfl rfl) rfl ?_
  refine t_val (r_extract rfl rfl) rfl ?_
  refine t_val (r_assign rfl) rfl ?_
  refine t_val (r_assign rfl) rfl ?_
  refine t_nil ?_
  refine Tr.keep (env' := [(1, _), (2, _), (3, _), (4, _)]) ⟨rfl, rfl, rfl, rfl, trivial⟩ ?_
  refine t_then ?_
  refine t_seq ?_
  refine t_region ?_
  refine t_eff rfl (e_call en_19 rfl rfl rfl rfl simple_c fun a3 _ => ?_)
  refine t_eff rfl (e_buildSlice (E := 9) (l := flat (linesC.map encS)) rfl (fun w => by kernel_rfl) rfl fun b21 => ?_)
  refine t_eff rfl (e_call en_20 rfl rfl rfl rfl (replay_c (a := a3) (SAt.in_ents.sub (.cons _ (.refl _))) (lines := linesC) (SlRd.of_cel (T := 9) (xs := linesC.map encS) (sp := []) (show cel b21 9 (flat (linesC.map encS) ++ []) ∈ _ from .head _) rfl (by decide) (by decide)) stC rfl (fun e k x hx => doC hT e k x hx)) fun y _ => ?_)
  obtain ⟨e', lv, lE⟩ := y
  dsimp only
  refine t_val (r_move rfl) rfl ?_
  refine t_val (r_extract rfl rfl) rfl ?_
  refine t_val (r_extract rfl rfl) rfl ?_
  refine t_val (r_extract rfl rfl) rfl ?_
  refine t_val (r_assign rfl) rfl ?_
  refine t_val (r_assign rfl) rfl ?_
  refine t_val (r_assign rfl) rfl ?_
  refine t_nil ?_
  refine Tr.keep (env' := [(1, _), (2, _), (3, _), (4, _), (5, _), (6, _), (7, _)]) ⟨rfl, rfl, rfl, rfl, rfl, rfl, rfl, trivial⟩ ?_
  refine t_then ?_
  refine t_seq ?_
  refine t_seq ?_
  refine t_region ?_
  refine t_val (r_move rfl) rfl ?_
  refine t_val (r_to (v2 := .bool false) (r_ne rfl rfl) rfl) rfl ?_
  refine t_val (r_move rfl) rfl ?_
  refine t_gval rfl rfl (r_move rfl) rfl ?_
  refine t_gval rfl rfl (r_to (v2 := .bool false) (r_ne rfl rfl) rfl) rfl ?_
  refine t_val (r_pick_f rfl rfl) rfl ?_
  refine t_val (r_move rfl) rfl ?_
  refine t_gval rfl rfl (r_move rfl) rfl ?_
  refine t_gval rfl rfl (r_to (v2 := .bool false) (r_ne rfl rfl) rfl) rfl ?_
  refine t_val (r_pick_f rfl rfl) rfl ?_
  refine t_val (r_move rfl) rfl ?_
  refine t_gval rfl rfl (r_move rfl) rfl ?_
  refine t_gval rfl rfl (r_to (v2 := .bool false) (r_ne rfl rfl) rfl) rfl ?_
  refine t_val (r_pick_f rfl rfl) rfl ?_
  refine t_val (r_move rfl) rfl ?_
  refine t_gval rfl rfl (r_move rfl) rfl ?_
  refine t_gval rfl rfl (r_to (v2 := .bool false) (r_eqnil Tryz.underlying33 rfl rfl) rfl) rfl ?_
  refine t_val (r_pick_f rfl rfl) rfl ?_
  refine t_nil ?_
  refine Tr.keep (env' := [(1, _), (3, _), (5, _), (43, _)]) ⟨rfl, rfl, rfl, rfl, trivial⟩ ?_
  refine t_then ?_
  refine t_cond_f rfl ?_
  refine t_skip ?_
  refine t_then ?_
  refine t_seq ?_
  refine t_region ?_
  refine t_val (r_move rfl) rfl ?_
  refine t_eff rfl (e_call en_17 rfl rfl rfl rfl (cards_c (e := e') (lv := lv) (s := c5) (.head _) (.tail _ (.head _)) (.tail _ (.tail _ (.head _))) (.tail _ (.tail _ (.tail _ (.head _))))) fun z _ => ?_)
  obtain ⟨zC, zS, zL⟩ := z
  dsimp only
  refine t_val (r_assign rfl) rfl ?_
  refine t_nil ?_
  refine Tr.keep (env' := [(1, _), (3, _), (8, _)]) ⟨rfl, rfl, rfl, trivial⟩ ?_
  refine t_then ?_
  refine t_seq ?_
  refine t_region ?_
  refine t_val (r_move rfl) rfl ?_
  refine t_val (r_to (v2 := .bool true) (r_eqs rfl rfl) (congrArg Value.bool (by decide))) rfl ?_
  refine t_val (r_move rfl) rfl ?_
  refine t_gval rfl rfl (r_move rfl) rfl ?_
  refine t_gval rfl rfl (r_to (v2 := .bool true) (r_eqs rfl rfl) (congrArg Value.bool (by decide))) rfl ?_
  refine t_val (r_pick_t rfl rfl) rfl ?_
  refine t_val (r_move rfl) rfl ?_
  refine t_gval rfl rfl (r_move rfl) rfl ?_
  refine t_gval rfl rfl (r_len_slice Tryz.underlying54 rfl) rfl ?_
  refine t_gval rfl rfl (r_eq rfl rfl) rfl ?_
  refine t_val (r_pick_t rfl rfl) rfl ?_
  refine t_val (r_move rfl) rfl ?_
  refine t_gval rfl rfl (r_move rfl) rfl ?_
  refine t_gval rfl rfl (r_ia (j := 0) Tryz.underlying54 iz_78 rfl rfl rfl (by decide)) rfl ?_
  refine t_gval rfl rfl (r_fa fo_78_2 rfl) rfl ?_
  refine t_gval rfl rfl (r_load ca_76 rfl (rd_m (.head _) rfl)) rfl ?_
  refine t_gval rfl rfl (r_len_slice Tryz.underlying76 rfl) rfl ?_
  refine t_gval rfl rfl (r_eq rfl rfl) rfl ?_
  refine t_val (r_pick_t rfl rfl) rfl ?_
  refine t_val (r_move rfl) rfl ?_
  refine t_gval rfl rfl (r_move rfl) rfl ?_
  refine t_gval rfl rfl (r_ia (j := 0) Tryz.underlying54 iz_78 rfl rfl rfl (by decide)) rfl ?_
  refine t_gval rfl rfl (r_fa fo_78_2 rfl) rfl ?_
  refine t_gval rfl rfl (r_load ca_76 rfl (rd_m (.head _) rfl)) rfl ?_
  refine t_gval rfl rfl (r_ia (j := 1) Tryz.underlying76 iz_81 rfl rfl rfl (by decide)) rfl ?_
  refine t_gval rfl rfl (r_fa fo_81_1 rfl) rfl ?_
  refine t_gval rfl rfl (r_load ca_3 rfl (rd_m (.tail _ (.tail _ (.head _))) rfl)) rfl ?_
  refine t_gval rfl rfl (r_eq rfl rfl) rfl ?_
  refine t_val (r_pick_t rfl rfl) rfl ?_
  refine t_val (r_assign rfl) rfl ?_
  refine t_nil ?_
  refine Tr.keep (env' := [(0, _)]) ⟨rfl, trivial⟩ ?_
  refine t_then ?_
  refine t_retc ?_
  refine t_ret1 rfl rfl (fun w hw => ?_)
  exact ⟨rfl, hw.sub (.cons _ (.cons _ (.cons _ (List.Sublist.trans (.cons _ ((List.sublist_append_right _ _).trans ((List.sublist_append_right _ _).trans (List.sublist_append_right _ _)))) ents_tail))))⟩
end
end Go.Proofs.W
set_option linter.unusedVariables false
set_option linter.unusedSimpArgs false
set_option linter.unusedSectionVars false
set_option maxRecDepth 100000
namespace Go.Proofs.W
open Go Go.Sl Go.RowKit Go.Proofs
attribute [local irreducible] Go.Sl.Eff
theorem en_6 : Enters Tryz.prog 6 := enters_of Tryz.func6 (by kernel_rfl) (by kernel_rfl)
section
variable {w0 : World} {M : List Ent}
end
end Go.Proofs.W
