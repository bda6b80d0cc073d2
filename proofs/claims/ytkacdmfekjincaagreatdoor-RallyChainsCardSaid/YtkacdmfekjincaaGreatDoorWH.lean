/-
  What functions of the program that RallyChains reaches do, one contract each, part 8.
-/
import Derived.Test.YtkacdmfekjincaaGreatDoorWG
import Derived.Test.YtkacdmfekjincaaGreatDoorSlB
set_option linter.unusedVariables false
set_option linter.unusedSimpArgs false
set_option linter.unusedSectionVars false
set_option maxRecDepth 100000
namespace Go.Proofs.W
open Go Go.Sl Go.RowKit Go.Proofs
attribute [local irreducible] Go.Sl.Eff
theorem ca_182 : cellsAs Tryz.prog 182 = some (some 2) := by kernel_rfl
theorem en_211 : Enters Tryz.prog 211 := enters_of Tryz.func211 (by kernel_rfl) (by kernel_rfl)
theorem en_212 : Enters Tryz.prog 212 := enters_of Tryz.func212 (by kernel_rfl) (by kernel_rfl)
theorem en_213 : Enters Tryz.prog 213 := enters_of Tryz.func213 (by kernel_rfl) (by kernel_rfl)
theorem fo_182_0 : fieldOff Tryz.prog 182 0 = some 0 := by kernel_rfl
theorem inf_311 : (Tryz.prog.info? 311).map (fun i => (i.zero, i.size, i.bytes)) = some (some ((.int .i64 0)), 1, 8) := by kernel_rfl
section
variable {w0 : World} {M : List Ent}
def Num (s : ByteArray) (n : Int) : Prop := Word s ∧ wordV s = n
theorem numbers_bad {A : Option Addr} {c : Nat} {x : ByteArray} (first : Value) (hs : SlRd w0 M 1 A 1 [encS x]) (hx1 : Digits x) (hx2 : x.size ≤ 15) (hx : numOk x = false) : ∀ w, Ok w0 M w → Calls Tryz.prog 211 #[.agg #[first, .slice A 1 c], .int .i64 1] w (fun e w' => e = .panicked (refused 3) ∧ Ok w0 M w') := by
  obtain ⟨b, o, hA, hrd⟩ := hs.at' (by decide)
  refine enter (vs := [_, _]) Tryz.func211 rfl Tryz.ntmps211 rfl ?_
  refine t_seq ?_
  refine t_region ?_
  refine t_eff rfl (e_box rfl rfl fun b2 => ?_)
  refine t_val (r_assign rfl) rfl ?_
  refine t_nil ?_
  refine Tr.keep (env' := [(1, _), (2, _)]) ⟨rfl, rfl, trivial⟩ ?_
  refine t_then ?_
  refine t_seq ?_
  refine t_seq ?_
  refine t_region ?_
  refine t_val (r_fa fo_182_1 rfl) rfl ?_
  refine t_val (r_load ca_22 rfl (rd_m (.head _) rfl)) rfl ?_
  refine t_val (r_len_slice Tryz.underlying22 rfl) rfl ?_
  refine t_val (r_move rfl) rfl ?_
  refine t_val (r_ne rfl rfl) rfl ?_
  refine t_nil ?_
  refine Tr.keep (env' := [(2, _), (14, _)]) ⟨rfl, rfl, trivial⟩ ?_
  refine t_then ?_
  refine t_cond_f rfl ?_
  refine t_skip ?_
  refine t_then ?_
  refine t_seq ?_
  refine t_region ?_
  refine t_val (r_assign rfl) rfl ?_
  refine t_nil ?_
  refine Tr.keep (env' := [(2, _), (5, _)]) ⟨rfl, rfl, trivial⟩ ?_
  refine t_then ?_
  refine t_seq ?_
  refine t_seq ?_
  refine t_region ?_
  refine t_val (r_fa fo_182_1 rfl) rfl ?_
  refine t_val (r_load ca_22 rfl (rd_m (.head _) rfl)) rfl ?_
  refine t_val (r_len_slice Tryz.underlying22 rfl) rfl ?_
  refine t_val (r_move rfl) rfl ?_
  refine t_nil ?_
  refine Tr.keep (env' := [(5, _), (17, _), (18, _), (19, _)]) ⟨rfl, rfl, rfl, rfl, trivial⟩ ?_
  refine t_then ?_
  refine t_block ?_
  refine t_unroll0 ?_
  refine t_unroll ?_
  refine t_seq ?_
  refine t_region ?_
  refine t_val (r_lt rfl rfl) rfl ?_
  refine t_nil ?_
  refine Tr.keep (env' := [(5, _), (17, _), (18, _), (19, _), (20, _)]) ⟨rfl, rfl, rfl, rfl, rfl, trivial⟩ ?_
  refine t_then ?_
  refine t_seq ?_
  refine t_cond_t rfl ?_
  refine t_skip ?_
  refine t_then ?_
  refine t_seq ?_
  refine t_block ?_
  refine t_seq ?_
  refine t_region ?_
  refine t_val (r_ia_s 0 Tryz.underlying22 iz_9 hA rfl rfl rfl (by decide)) rfl ?_
  refine t_val (r_load ca_9 rfl ((hrd 0 (encS x) rfl 0 (.string x) rfl).sub (.cons _ (.refl _)))) rfl ?_
  refine t_val (r_assign rfl) rfl ?_
  refine t_nil ?_
  refine Tr.keep (env' := [(5, _), (7, _), (17, _), (18, _), (19, _)]) ⟨rfl, rfl, rfl, rfl, rfl, trivial⟩ ?_
  refine t_then ?_
  refine t_seq ?_
  refine t_region ?_
  refine t_val (r_move rfl) rfl ?_
  refine t_eff rfl (e_pcall en_268 rfl rfl rfl rfl (number_c x hx1 hx2) ?_)
  refine t_val (r_move rfl) rfl ?_
  refine t_val (r_extract rfl rfl) rfl ?_
  refine t_val (r_extract rfl rfl) rfl ?_
  refine t_val (r_assign rfl) rfl ?_
  refine t_val (r_assign rfl) rfl ?_
  refine t_nil ?_
  refine Tr.keep (env' := [(5, _), (8, _), (9, _), (17, _), (18, _), (19, _)]) ⟨rfl, rfl, rfl, rfl, rfl, rfl, trivial⟩ ?_
  refine t_then ?_
  refine t_seq ?_
  refine t_seq ?_
  refine t_region ?_
  refine t_val (r_move rfl) rfl ?_
  refine t_val (r_not rfl) rfl ?_
  refine t_nil ?_
  refine Tr.keep (env' := [(5, _), (8, _), (17, _), (18, _), (19, _), (29, _)]) ⟨rfl, rfl, rfl, rfl, rfl, rfl, trivial⟩ ?_
  refine t_then ?_
  refine t_cond_t (b_of (by rw [hx]; rfl)) ?_
  refine t_region ?_
  refine t_eff rfl (e_panics en_212 rfl rfl rfl (need_no 3 (by decide)) ?_)
  refine t_then_panic ?_
  refine t_in_panic ?_
  refine t_then_panic ?_
  refine t_then_panic ?_
  refine t_in_panic ?_
  refine t_then_panic ?_
  exact t_panic_end (fun w hw => ⟨rfl, Ok.sub hw (.cons _ (.refl _))⟩)
theorem hear_open {ea : EvAt} {lv : Value} {g : GuardSt} {Fr : List Ent} {A : Option Addr} {cc : Nat} {x : ByteArray} (s : Int) (hev : ea.ev lv ∈ Fr) (hs : SlRd w0 (g.eg ea.gl :: g.er ea.gl :: g.ep ea.gl :: g.ec ea.gl :: Fr) 1 A 1 [encS x]) (hx : Num x s) (hf : g.Fine) (hval : gvalid g.plan 1 s 0 0 = true) :
  ∀ w, Ok w0 (g.eg ea.gl :: g.er ea.gl :: g.ep ea.gl :: g.ec ea.gl :: Fr) w → Calls Tryz.prog 148 #[.pointer (some ⟨ea.eb, 0, none⟩), .agg #[.string ⟨#[111, 112, 101, 110]⟩, .slice A 1 cc]] w (fun e w' => e = .returned (.tuple #[]) ∧
   Ok w0 ((g.hear 1 s 0 0).eg ea.gl :: (g.hear 1 s 0 0).er ea.gl :: (g.hear 1 s 0 0).ep ea.gl :: (g.hear 1 s 0 0).ec ea.gl :: Fr) w') := by
  refine enter (vs := [_, _]) Tryz.func148 rfl Tryz.ntmps148 rfl ?_
  refine t_seq ?_
  refine t_region ?_
  refine t_eff rfl (e_box rfl rfl fun b3 => ?_)
  refine t_nil ?_
  refine Tr.keep (env' := [(0, _), (3, _)]) ⟨rfl, rfl, trivial⟩ ?_
  refine t_then ?_
  refine t_seq ?_
  refine t_region ?_
  refine t_val (r_fa fo_182_0 rfl) rfl ?_
  refine t_val (r_load ca_9 rfl (rd_m (.head _) rfl)) rfl ?_
  refine t_nil ?_
  refine Tr.keep (env' := [(0, _), (3, _), (9, _)]) ⟨rfl, rfl, rfl, trivial⟩ ?_
  refine t_then ?_
  refine t_block ?_
  refine t_seq ?_
  refine t_seq ?_
  refine t_region ?_
  refine t_val (r_to (v2 := .bool false) (r_eqs rfl rfl) (by rfl)) rfl ?_
  refine t_val (r_assign rfl) rfl ?_
  refine t_nil ?_
  refine Tr.keep (env' := [(0, _), (3, _), (9, _), (28, _)]) ⟨rfl, rfl, rfl, rfl, trivial⟩ ?_
  refine t_then ?_
  refine t_cond_f rfl ?_
  refine t_seq ?_
  refine t_region ?_
  refine t_val (r_to (v2 := .bool false) (r_eqs rfl rfl) (by rfl)) rfl ?_
  refine t_val (r_assign rfl) rfl ?_
  refine t_nil ?_
  refine Tr.keep (env' := [(0, _), (3, _), (9, _), (28, _)]) ⟨rfl, rfl, rfl, rfl, trivial⟩ ?_
  refine t_then ?_
  refine t_cond_f rfl ?_
  refine t_region ?_
  refine t_val (r_to (v2 := .bool false) (r_eqs rfl rfl) (by rfl)) rfl ?_
  refine t_val (r_assign rfl) rfl ?_
  refine t_nil ?_
  refine Tr.keep (env' := [(0, _), (3, _), (28, _)]) ⟨rfl, rfl, rfl, trivial⟩ ?_
  refine t_then ?_
  refine t_cond_f rfl ?_
  refine t_seq ?_
  refine t_region ?_
  refine t_val (r_loads ca_182 rfl (rds_m (n := 2) (vs := [_, _]) (.head _) rfl) rfl) rfl ?_
  refine t_eff rfl (e_call en_211 rfl rfl rfl rfl (numbers_ok (ws := [x]) _ (hs.sub (.cons _ (.refl _))) (by intro z hz; rw [List.mem_singleton.1 hz]; exact hx.1) (by decide)) fun xo hO => ?_)
  obtain ⟨xv, xE⟩ := xo
  dsimp only at hO ⊢
  obtain ⟨sN, hv, hE⟩ := own_sl (n := 1) hO rfl (by decide)
  subst hv hE
  show Tr _ _ _ _ (cel sN.b 3 (.int .i64 (wordV x) :: sN.sp) :: _) _
  rw [hx.2]
  refine t_val (r_assign rfl) rfl ?_
  refine t_nil ?_
  refine Tr.keep (env' := [(0, _), (3, _), (6, _)]) ⟨rfl, rfl, rfl, trivial⟩ ?_
  refine t_then ?_
  refine t_seq ?_
  refine t_region ?_
  refine t_eff rfl (e_makeMap (encK) rfl fun b12 => ?_)
  refine t_eff rfl (e_insert (a := ⟨#[111, 112, 101, 110]⟩) Tryz.underlying312 keyStr rfl rfl rfl .here ?_)
  refine t_eff rfl (e_insert (a := ⟨#[99, 108, 111, 115, 101]⟩) Tryz.underlying312 keyStr rfl rfl rfl .here ?_)
  refine t_eff rfl (e_insert (a := ⟨#[99, 111, 118, 101, 114, 101, 100]⟩) Tryz.underlying312 keyStr rfl rfl rfl .here ?_)
  refine t_eff rfl (e_insert (a := ⟨#[117, 110, 99, 111, 118, 101, 114, 101, 100]⟩) Tryz.underlying312 keyStr rfl rfl rfl .here ?_)
  refine t_val (r_move rfl) rfl ?_
  refine t_val (r_fa fo_182_0 rfl) rfl ?_
  refine t_val (r_load ca_9 rfl (rd_m (.tail _ (.tail _ (.head _))) rfl)) rfl ?_
  refine t_val (run_to (v' := .int .i64 1) (r_lookup1 (⟨#[111, 112, 101, 110]⟩) Tryz.underlying312 keyStr inf_311 rfl rfl (.head _)) (by (repeat' first | rw [mget_mput, if_pos rfl] | rw [mget_mput, if_neg (by decide)]); rfl)) rfl ?_
  refine t_val (r_assign rfl) rfl ?_
  refine t_nil ?_
  refine Tr.keep (env' := [(0, _), (6, _), (7, _)]) ⟨rfl, rfl, rfl, trivial⟩ ?_
  refine t_then ?_
  refine d_beginS (.cons_cons _ (.cons_cons _ (.cons_cons _ (.cons _ (.cons _ (.cons _ (.cons _ (.refl _)))))))) mixed rfl ?_
  refine d_val 0 rfl (by kernel_rfl) (by kernel_rfl) (by kernel_rfl) (.inBlock .body) (.cons_cons _ (.cons_cons _ (.cons_cons _ (.cons _ (.cons _ (.cons _ (.cons _ (.refl _)))))))) rfl (r_move rfl) ?_
  refine d_val 1 rfl (by kernel_rfl) (by kernel_rfl) (by kernel_rfl) (.inBlock .body) (.cons_cons _ (.cons_cons _ (.cons_cons _ (.cons _ (.cons _ (.cons _ (.cons _ (.refl _)))))))) rfl (r_nilCheck rfl) ?_
  refine d_val 2 rfl (by kernel_rfl) (by kernel_rfl) (by kernel_rfl) (.inBlock .body) (.cons_cons _ (.cons_cons _ (.cons_cons _ (.cons _ (.cons _ (.cons _ (.cons _ (.refl _)))))))) rfl (r_fa fo_56_1 rfl) ?_
  refine d_val 3 rfl (by kernel_rfl) (by kernel_rfl) (by kernel_rfl) (.inBlock .body) (.cons_cons _ (.cons_cons _ (.cons_cons _ (.cons _ (.cons _ (.cons _ (.cons _ (.refl _)))))))) rfl (r_load ca_51 rfl (rd_m (.tail _ (.tail _ (.tail _ hev))) rfl)) ?_
  refine d_val 4 rfl (by kernel_rfl) (by kernel_rfl) (by kernel_rfl) (.inBlock .body) (.cons_cons _ (.cons_cons _ (.cons_cons _ (.cons _ (.cons _ (.cons _ (.cons _ (.refl _)))))))) rfl (r_move rfl) ?_
  refine d_val 5 rfl (by kernel_rfl) (by kernel_rfl) (by kernel_rfl) (.inBlock .body) (.cons_cons _ (.cons_cons _ (.cons_cons _ (.cons _ (.cons _ (.cons _ (.cons _ (.refl _)))))))) rfl (r_move rfl) ?_
  refine d_val 6 rfl (by kernel_rfl) (by kernel_rfl) (by kernel_rfl) (.inBlock .body) (.cons_cons _ (.cons_cons _ (.cons_cons _ (.cons _ (.cons _ (.cons _ (.cons _ (.refl _)))))))) rfl (r_ia (j := 0) Tryz.underlying36 iz_3 rfl rfl rfl (by decide)) ?_
  refine d_val 7 rfl (by kernel_rfl) (by kernel_rfl) (by kernel_rfl) (.inBlock .body) (.cons_cons _ (.cons_cons _ (.cons_cons _ (.cons _ (.cons _ (.cons _ (.cons _ (.refl _)))))))) rfl (r_load ca_3 rfl (rd_m (.tail _ (.head _)) rfl)) ?_
  refine d_val 8 rfl (by kernel_rfl) (by kernel_rfl) (by kernel_rfl) (.inBlock .body) (.cons_cons _ (.cons_cons _ (.cons_cons _ (.cons _ (.cons _ (.cons _ (.cons _ (.refl _)))))))) rfl (r_build rfl (v := .agg #[.int .i64 1, .int .i64 s, .int .i64 0, .int .i64 0]) (fun w => by kernel_rfl)) ?_
  refine d_eff 9 rfl rfl (by kernel_rfl) (e_mcall en_213 rfl rfl rfl rfl (fun w hw => guard_hear_1 (Fr := _) s 0 0 hf hval w (hw.perm (pk (.there (.there (.there .here))) (pk (.there (.there (.there .here))) (pk (.there (.there (.there .here))) (pk (.there (.there (.there .here))) (.refl _))))))) ?_)
  refine d_held (.cons _ (.cons _ (.cons _ (.cons _ (.refl _))))) ?_
  refine d_eff 10 rfl rfl (by kernel_rfl) (e_pcall en_212 rfl rfl rfl rfl need_ok ?_)
  refine d_held (.cons _ (.cons _ (.cons _ (.cons _ (.refl _))))) ?_
  refine d_end (by kernel_rfl) ?_
  refine Tr.keep (env' := []) trivial ?_
  refine t_in ?_
  refine t_end0 rfl (fun w hw => ?_)
  exact ⟨rfl, Ok.sub (hw.perm (pk .here (pk .here (pk .here (pk .here (.refl _)))))) (.cons_cons _ (.cons_cons _ (.cons_cons _ (.cons_cons _ (.cons _ (.cons _ (.cons _ (.refl _))))))))⟩
theorem hear_covered {ea : EvAt} {lv : Value} {g : GuardSt} {Fr : List Ent} {A : Option Addr} {cc : Nat} {x : ByteArray} (s : Int) (hev : ea.ev lv ∈ Fr) (hs : SlRd w0 (g.eg ea.gl :: g.er ea.gl :: g.ep ea.gl :: g.ec ea.gl :: Fr) 1 A 1 [encS x]) (hx : Num x s) (hf : g.Fine) (hval : gvalid g.plan 6 s 0 0 = true) :
  ∀ w, Ok w0 (g.eg ea.gl :: g.er ea.gl :: g.ep ea.gl :: g.ec ea.gl :: Fr) w → Calls Tryz.prog 148 #[.pointer (some ⟨ea.eb, 0, none⟩), .agg #[.string ⟨#[99, 111, 118, 101, 114, 101, 100]⟩, .slice A 1 cc]] w (fun e w' => e = .returned (.tuple #[]) ∧
   Ok w0 ((g.hear 6 s 0 0).eg ea.gl :: (g.hear 6 s 0 0).er ea.gl :: (g.hear 6 s 0 0).ep ea.gl :: (g.hear 6 s 0 0).ec ea.gl :: Fr) w') := by
  refine enter (vs := [_, _]) Tryz.func148 rfl Tryz.ntmps148 rfl ?_
  refine t_seq ?_
  refine t_region ?_
  refine t_eff rfl (e_box rfl rfl fun b3 => ?_)
  refine t_nil ?_
  refine Tr.keep (env' := [(0, _), (3, _)]) ⟨rfl, rfl, trivial⟩ ?_
  refine t_then ?_
  refine t_seq ?_
  refine t_region ?_
  refine t_val (r_fa fo_182_0 rfl) rfl ?_
  refine t_val (r_load ca_9 rfl (rd_m (.head _) rfl)) rfl ?_
  refine t_nil ?_
  refine Tr.keep (env' := [(0, _), (3, _), (9, _)]) ⟨rfl, rfl, rfl, trivial⟩ ?_
  refine t_then ?_
  refine t_block ?_
  refine t_seq ?_
  refine t_seq ?_
  refine t_region ?_
  refine t_val (r_to (v2 := .bool false) (r_eqs rfl rfl) (by rfl)) rfl ?_
  refine t_val (r_assign rfl) rfl ?_
  refine t_nil ?_
  refine Tr.keep (env' := [(0, _), (3, _), (9, _), (28, _)]) ⟨rfl, rfl, rfl, rfl, trivial⟩ ?_
  refine t_then ?_
  refine t_cond_f rfl ?_
  refine t_seq ?_
  refine t_region ?_
  refine t_val (r_to (v2 := .bool false) (r_eqs rfl rfl) (by rfl)) rfl ?_
  refine t_val (r_assign rfl) rfl ?_
  refine t_nil ?_
  refine Tr.keep (env' := [(0, _), (3, _), (9, _), (28, _)]) ⟨rfl, rfl, rfl, rfl, trivial⟩ ?_
  refine t_then ?_
  refine t_cond_f rfl ?_
  refine t_region ?_
  refine t_val (r_to (v2 := .bool false) (r_eqs rfl rfl) (by rfl)) rfl ?_
  refine t_val (r_assign rfl) rfl ?_
  refine t_nil ?_
  refine Tr.keep (env' := [(0, _), (3, _), (28, _)]) ⟨rfl, rfl, rfl, trivial⟩ ?_
  refine t_then ?_
  refine t_cond_f rfl ?_
  refine t_seq ?_
  refine t_region ?_
  refine t_val (r_loads ca_182 rfl (rds_m (n := 2) (vs := [_, _]) (.head _) rfl) rfl) rfl ?_
  refine t_eff rfl (e_call en_211 rfl rfl rfl rfl (numbers_ok (ws := [x]) _ (hs.sub (.cons _ (.refl _))) (by intro z hz; rw [List.mem_singleton.1 hz]; exact hx.1) (by decide)) fun xo hO => ?_)
  obtain ⟨xv, xE⟩ := xo
  dsimp only at hO ⊢
  obtain ⟨sN, hv, hE⟩ := own_sl (n := 1) hO rfl (by decide)
  subst hv hE
  show Tr _ _ _ _ (cel sN.b 3 (.int .i64 (wordV x) :: sN.sp) :: _) _
  rw [hx.2]
  refine t_val (r_assign rfl) rfl ?_
  refine t_nil ?_
  refine Tr.keep (env' := [(0, _), (3, _), (6, _)]) ⟨rfl, rfl, rfl, trivial⟩ ?_
  refine t_then ?_
  refine t_seq ?_
  refine t_region ?_
  refine t_eff rfl (e_makeMap (encK) rfl fun b12 => ?_)
  refine t_eff rfl (e_insert (a := ⟨#[111, 112, 101, 110]⟩) Tryz.underlying312 keyStr rfl rfl rfl .here ?_)
  refine t_eff rfl (e_insert (a := ⟨#[99, 108, 111, 115, 101]⟩) Tryz.underlying312 keyStr rfl rfl rfl .here ?_)
  refine t_eff rfl (e_insert (a := ⟨#[99, 111, 118, 101, 114, 101, 100]⟩) Tryz.underlying312 keyStr rfl rfl rfl .here ?_)
  refine t_eff rfl (e_insert (a := ⟨#[117, 110, 99, 111, 118, 101, 114, 101, 100]⟩) Tryz.underlying312 keyStr rfl rfl rfl .here ?_)
  refine t_val (r_move rfl) rfl ?_
  refine t_val (r_fa fo_182_0 rfl) rfl ?_
  refine t_val (r_load ca_9 rfl (rd_m (.tail _ (.tail _ (.head _))) rfl)) rfl ?_
  refine t_val (run_to (v' := .int .i64 6) (r_lookup1 (⟨#[99, 111, 118, 101, 114, 101, 100]⟩) Tryz.underlying312 keyStr inf_311 rfl rfl (.head _)) (by (repeat' first | rw [mget_mput, if_pos rfl] | rw [mget_mput, if_neg (by decide)]); rfl)) rfl ?_
  refine t_val (r_assign rfl) rfl ?_
  refine t_nil ?_
  refine Tr.keep (env' := [(0, _), (6, _), (7, _)]) ⟨rfl, rfl, rfl, trivial⟩ ?_
  refine t_then ?_
  refine d_beginS (.cons_cons _ (.cons_cons _ (.cons_cons _ (.cons _ (.cons _ (.cons _ (.cons _ (.refl _)))))))) mixed rfl ?_
  refine d_val 0 rfl (by kernel_rfl) (by kernel_rfl) (by kernel_rfl) (.inBlock .body) (.cons_cons _ (.cons_cons _ (.cons_cons _ (.cons _ (.cons _ (.cons _ (.cons _ (.refl _)))))))) rfl (r_move rfl) ?_
  refine d_val 1 rfl (by kernel_rfl) (by kernel_rfl) (by kernel_rfl) (.inBlock .body) (.cons_cons _ (.cons_cons _ (.cons_cons _ (.cons _ (.cons _ (.cons _ (.cons _ (.refl _)))))))) rfl (r_nilCheck rfl) ?_
  refine d_val 2 rfl (by kernel_rfl) (by kernel_rfl) (by kernel_rfl) (.inBlock .body) (.cons_cons _ (.cons_cons _ (.cons_cons _ (.cons _ (.cons _ (.cons _ (.cons _ (.refl _)))))))) rfl (r_fa fo_56_1 rfl) ?_
  refine d_val 3 rfl (by kernel_rfl) (by kernel_rfl) (by kernel_rfl) (.inBlock .body) (.cons_cons _ (.cons_cons _ (.cons_cons _ (.cons _ (.cons _ (.cons _ (.cons _ (.refl _)))))))) rfl (r_load ca_51 rfl (rd_m (.tail _ (.tail _ (.tail _ hev))) rfl)) ?_
  refine d_val 4 rfl (by kernel_rfl) (by kernel_rfl) (by kernel_rfl) (.inBlock .body) (.cons_cons _ (.cons_cons _ (.cons_cons _ (.cons _ (.cons _ (.cons _ (.cons _ (.refl _)))))))) rfl (r_move rfl) ?_
  refine d_val 5 rfl (by kernel_rfl) (by kernel_rfl) (by kernel_rfl) (.inBlock .body) (.cons_cons _ (.cons_cons _ (.cons_cons _ (.cons _ (.cons _ (.cons _ (.cons _ (.refl _)))))))) rfl (r_move rfl) ?_
  refine d_val 6 rfl (by kernel_rfl) (by kernel_rfl) (by kernel_rfl) (.inBlock .body) (.cons_cons _ (.cons_cons _ (.cons_cons _ (.cons _ (.cons _ (.cons _ (.cons _ (.refl _)))))))) rfl (r_ia (j := 0) Tryz.underlying36 iz_3 rfl rfl rfl (by decide)) ?_
  refine d_val 7 rfl (by kernel_rfl) (by kernel_rfl) (by kernel_rfl) (.inBlock .body) (.cons_cons _ (.cons_cons _ (.cons_cons _ (.cons _ (.cons _ (.cons _ (.cons _ (.refl _)))))))) rfl (r_load ca_3 rfl (rd_m (.tail _ (.head _)) rfl)) ?_
  refine d_val 8 rfl (by kernel_rfl) (by kernel_rfl) (by kernel_rfl) (.inBlock .body) (.cons_cons _ (.cons_cons _ (.cons_cons _ (.cons _ (.cons _ (.cons _ (.cons _ (.refl _)))))))) rfl (r_build rfl (v := .agg #[.int .i64 6, .int .i64 s, .int .i64 0, .int .i64 0]) (fun w => by kernel_rfl)) ?_
  refine d_eff 9 rfl rfl (by kernel_rfl) (e_mcall en_213 rfl rfl rfl rfl (fun w hw => guard_hear_6 (Fr := _) s 0 0 hf hval w (hw.perm (pk (.there (.there (.there .here))) (pk (.there (.there (.there .here))) (pk (.there (.there (.there .here))) (pk (.there (.there (.there .here))) (.refl _))))))) ?_)
  refine d_held (.cons _ (.cons _ (.cons _ (.cons _ (.refl _))))) ?_
  refine d_eff 10 rfl rfl (by kernel_rfl) (e_pcall en_212 rfl rfl rfl rfl need_ok ?_)
  refine d_held (.cons _ (.cons _ (.cons _ (.cons _ (.refl _))))) ?_
  refine d_end (by kernel_rfl) ?_
  refine Tr.keep (env' := []) trivial ?_
  refine t_in ?_
  refine t_end0 rfl (fun w hw => ?_)
  exact ⟨rfl, Ok.sub (hw.perm (pk .here (pk .here (pk .here (pk .here (.refl _)))))) (.cons_cons _ (.cons_cons _ (.cons_cons _ (.cons_cons _ (.cons _ (.cons _ (.cons _ (.refl _))))))))⟩
theorem hear_post {ea : EvAt} {lv : Value} {g : GuardSt} {Fr : List Ent} {A : Option Addr} {cc : Nat} {x y : ByteArray} (s : Int) (p : Nat) (hev : ea.ev lv ∈ Fr) (hs : SlRd w0 (g.eg ea.gl :: g.er ea.gl :: g.ep ea.gl :: g.ec ea.gl :: Fr) 1 A 2 [encS x, encS y]) (hx : Num x (p : Int)) (hy : Num y s) (hf : g.Fine) (hval : gvalid g.plan 3 s p 0 = true) :
  ∀ w, Ok w0 (g.eg ea.gl :: g.er ea.gl :: g.ep ea.gl :: g.ec ea.gl :: Fr) w → Calls Tryz.prog 148 #[.pointer (some ⟨ea.eb, 0, none⟩), .agg #[.string ⟨#[112, 111, 115, 116]⟩, .slice A 2 cc]] w (fun e w' => e = .returned (.tuple #[]) ∧
   Ok w0 ((g.hear 3 s p 0).eg ea.gl :: (g.hear 3 s p 0).er ea.gl :: (g.hear 3 s p 0).ep ea.gl :: (g.hear 3 s p 0).ec ea.gl :: Fr) w') := by
  refine enter (vs := [_, _]) Tryz.func148 rfl Tryz.ntmps148 rfl ?_
  refine t_seq ?_
  refine t_region ?_
  refine t_eff rfl (e_box rfl rfl fun b3 => ?_)
  refine t_nil ?_
  refine Tr.keep (env' := [(0, _), (3, _)]) ⟨rfl, rfl, trivial⟩ ?_
  refine t_then ?_
  refine t_seq ?_
  refine t_region ?_
  refine t_val (r_fa fo_182_0 rfl) rfl ?_
  refine t_val (r_load ca_9 rfl (rd_m (.head _) rfl)) rfl ?_
  refine t_nil ?_
  refine Tr.keep (env' := [(0, _), (3, _), (9, _)]) ⟨rfl, rfl, rfl, trivial⟩ ?_
  refine t_then ?_
  refine t_block ?_
  refine t_seq ?_
  refine t_seq ?_
  refine t_region ?_
  refine t_val (r_to (v2 := .bool true) (r_eqs rfl rfl) (by rfl)) rfl ?_
  refine t_val (r_assign rfl) rfl ?_
  refine t_nil ?_
  refine Tr.keep (env' := [(0, _), (3, _), (9, _), (28, _)]) ⟨rfl, rfl, rfl, rfl, trivial⟩ ?_
  refine t_then ?_
  refine t_cond_t rfl ?_
  refine t_skip ?_
  refine t_then ?_
  refine t_cond_t rfl ?_
  refine t_seq ?_
  refine t_region ?_
  refine t_val (r_loads ca_182 rfl (rds_m (n := 2) (vs := [_, _]) (.head _) rfl) rfl) rfl ?_
  refine t_eff rfl (e_call en_211 rfl rfl rfl rfl (numbers_ok (ws := [x, y]) _ (hs.sub (.cons _ (.refl _))) (by intro z hz; simp at hz; rcases hz with rfl | rfl <;> first | exact hx.1 | exact hy.1) (by decide)) fun xo hO => ?_)
  obtain ⟨xv, xE⟩ := xo
  dsimp only at hO ⊢
  obtain ⟨sN, hv, hE⟩ := own_sl (n := 2) hO rfl (by decide)
  subst hv hE
  show Tr _ _ _ _ (cel sN.b 3 (.int .i64 (wordV x) :: .int .i64 (wordV y) :: sN.sp) :: _) _
  rw [hx.2]
  rw [hy.2]
  refine t_val (r_assign rfl) rfl ?_
  refine t_nil ?_
  refine Tr.keep (env' := [(0, _), (3, _), (4, _)]) ⟨rfl, rfl, rfl, trivial⟩ ?_
  refine t_then ?_
  refine t_seq ?_
  refine t_region ?_
  refine t_eff rfl (e_makeMap (encK) rfl fun b34 => ?_)
  refine t_eff rfl (e_insert (a := ⟨#[112, 111, 115, 116]⟩) Tryz.underlying312 keyStr rfl rfl rfl .here ?_)
  refine t_eff rfl (e_insert (a := ⟨#[114, 101, 100]⟩) Tryz.underlying312 keyStr rfl rfl rfl .here ?_)
  refine t_eff rfl (e_insert (a := ⟨#[103, 114, 101, 101, 110]⟩) Tryz.underlying312 keyStr rfl rfl rfl .here ?_)
  refine t_val (r_move rfl) rfl ?_
  refine t_val (r_fa fo_182_0 rfl) rfl ?_
  refine t_val (r_load ca_9 rfl (rd_m (.tail _ (.tail _ (.head _))) rfl)) rfl ?_
  refine t_val (run_to (v' := .int .i64 3) (r_lookup1 (⟨#[112, 111, 115, 116]⟩) Tryz.underlying312 keyStr inf_311 rfl rfl (.head _)) (by (repeat' first | rw [mget_mput, if_pos rfl] | rw [mget_mput, if_neg (by decide)]); rfl)) rfl ?_
  refine t_val (r_assign rfl) rfl ?_
  refine t_nil ?_
  refine Tr.keep (env' := [(0, _), (4, _), (5, _)]) ⟨rfl, rfl, rfl, trivial⟩ ?_
  refine t_then ?_
  refine d_beginS (.cons_cons _ (.cons_cons _ (.cons_cons _ (.cons _ (.cons _ (.cons _ (.cons _ (.refl _)))))))) mixed rfl ?_
  refine d_val 0 rfl (by kernel_rfl) (by kernel_rfl) (by kernel_rfl) (.inBlock .body) (.cons_cons _ (.cons_cons _ (.cons_cons _ (.cons _ (.cons _ (.cons _ (.cons _ (.refl _)))))))) rfl (r_move rfl) ?_
  refine d_val 1 rfl (by kernel_rfl) (by kernel_rfl) (by kernel_rfl) (.inBlock .body) (.cons_cons _ (.cons_cons _ (.cons_cons _ (.cons _ (.cons _ (.cons _ (.cons _ (.refl _)))))))) rfl (r_nilCheck rfl) ?_
  refine d_val 2 rfl (by kernel_rfl) (by kernel_rfl) (by kernel_rfl) (.inBlock .body) (.cons_cons _ (.cons_cons _ (.cons_cons _ (.cons _ (.cons _ (.cons _ (.cons _ (.refl _)))))))) rfl (r_fa fo_56_1 rfl) ?_
  refine d_val 3 rfl (by kernel_rfl) (by kernel_rfl) (by kernel_rfl) (.inBlock .body) (.cons_cons _ (.cons_cons _ (.cons_cons _ (.cons _ (.cons _ (.cons _ (.cons _ (.refl _)))))))) rfl (r_load ca_51 rfl (rd_m (.tail _ (.tail _ (.tail _ hev))) rfl)) ?_
  refine d_val 4 rfl (by kernel_rfl) (by kernel_rfl) (by kernel_rfl) (.inBlock .body) (.cons_cons _ (.cons_cons _ (.cons_cons _ (.cons _ (.cons _ (.cons _ (.cons _ (.refl _)))))))) rfl (r_move rfl) ?_
  refine d_val 5 rfl (by kernel_rfl) (by kernel_rfl) (by kernel_rfl) (.inBlock .body) (.cons_cons _ (.cons_cons _ (.cons_cons _ (.cons _ (.cons _ (.cons _ (.cons _ (.refl _)))))))) rfl (r_move rfl) ?_
  refine d_val 6 rfl (by kernel_rfl) (by kernel_rfl) (by kernel_rfl) (.inBlock .body) (.cons_cons _ (.cons_cons _ (.cons_cons _ (.cons _ (.cons _ (.cons _ (.cons _ (.refl _)))))))) rfl (r_ia (j := 0) Tryz.underlying36 iz_3 rfl rfl rfl (by decide)) ?_
  refine d_val 7 rfl (by kernel_rfl) (by kernel_rfl) (by kernel_rfl) (.inBlock .body) (.cons_cons _ (.cons_cons _ (.cons_cons _ (.cons _ (.cons _ (.cons _ (.cons _ (.refl _)))))))) rfl (r_load ca_3 rfl (rd_m (.tail _ (.head _)) rfl)) ?_
  refine d_val 8 rfl (by kernel_rfl) (by kernel_rfl) (by kernel_rfl) (.inBlock .body) (.cons_cons _ (.cons_cons _ (.cons_cons _ (.cons _ (.cons _ (.cons _ (.cons _ (.refl _)))))))) rfl (r_move rfl) ?_
  refine d_val 9 rfl (by kernel_rfl) (by kernel_rfl) (by kernel_rfl) (.inBlock .body) (.cons_cons _ (.cons_cons _ (.cons_cons _ (.cons _ (.cons _ (.cons _ (.cons _ (.refl _)))))))) rfl (r_ia (j := 1) Tryz.underlying36 iz_3 rfl rfl rfl (by decide)) ?_
  refine d_val 10 rfl (by kernel_rfl) (by kernel_rfl) (by kernel_rfl) (.inBlock .body) (.cons_cons _ (.cons_cons _ (.cons_cons _ (.cons _ (.cons _ (.cons _ (.cons _ (.refl _)))))))) rfl (r_load ca_3 rfl (rd_m (.tail _ (.head _)) rfl)) ?_
  refine d_val 11 rfl (by kernel_rfl) (by kernel_rfl) (by kernel_rfl) (.inBlock .body) (.cons_cons _ (.cons_cons _ (.cons_cons _ (.cons _ (.cons _ (.cons _ (.cons _ (.refl _)))))))) rfl (r_build rfl (v := .agg #[.int .i64 3, .int .i64 s, .int .i64 (p : Int), .int .i64 0]) (fun w => by kernel_rfl)) ?_
  refine d_eff 12 rfl rfl (by kernel_rfl) (e_mcall en_213 rfl rfl rfl rfl (fun w hw => guard_hear_3 (Fr := _) s p 0 hf hval w (hw.perm (pk (.there (.there (.there .here))) (pk (.there (.there (.there .here))) (pk (.there (.there (.there .here))) (pk (.there (.there (.there .here))) (.refl _))))))) ?_)
  refine d_held (.cons _ (.cons _ (.cons _ (.cons _ (.refl _))))) ?_
  refine d_eff 13 rfl rfl (by kernel_rfl) (e_pcall en_212 rfl rfl rfl rfl need_ok ?_)
  refine d_held (.cons _ (.cons _ (.cons _ (.cons _ (.refl _))))) ?_
  refine d_end (by kernel_rfl) ?_
  refine Tr.keep (env' := []) trivial ?_
  refine t_in ?_
  refine t_end0 rfl (fun w hw => ?_)
  exact ⟨rfl, Ok.sub (hw.perm (pk .here (pk .here (pk .here (pk .here (.refl _)))))) (.cons_cons _ (.cons_cons _ (.cons_cons _ (.cons_cons _ (.cons _ (.cons _ (.cons _ (.refl _))))))))⟩
end
end Go.Proofs.W
set_option linter.unusedVariables false
set_option linter.unusedSimpArgs false
set_option linter.unusedSectionVars false
set_option maxRecDepth 100000
namespace Go.Proofs.W
open Go Go.Sl Go.RowKit Go.Proofs
attribute [local irreducible] Go.Sl.Eff
theorem en_214 : Enters Tryz.prog 214 := enters_of Tryz.func214 (by kernel_rfl) (by kernel_rfl)
theorem en_215 : Enters Tryz.prog 215 := enters_of Tryz.func215 (by kernel_rfl) (by kernel_rfl)
section
variable {w0 : World} {M : List Ent}
theorem guard_hear_no {g : GuardSt} {l : GAt} (k s p c : Int) (hg : g.eg l ∈ M) (hf : g.Fine) (hval : gvalid g.plan k s p c = false) : ∀ w, Ok w0 M w → Calls Tryz.prog 213 #[.pointer (some ⟨l.g, 0, none⟩), .agg #[.int .i64 k, .int .i64 s, .int .i64 p, .int .i64 c]] w (fun e w' => e = .returned (.int .i64 2) ∧ Ok w0 M w') := by
  have hnc := hf.nc
  refine enter (vs := [_, _]) Tryz.func213 rfl Tryz.ntmps213 rfl ?_
  refine t_seq ?_
  refine t_region ?_
  refine t_eff rfl (e_box1 rfl rfl rfl fun b2 => ?_)
  refine t_eff rfl (e_box rfl rfl fun b3 => ?_)
  refine t_val (r_assign rfl) rfl ?_
  refine t_nil ?_
  refine Tr.keep (env' := [(2, _), (3, _)]) ⟨rfl, rfl, trivial⟩ ?_
  refine t_then ?_
  refine t_seq ?_
  refine t_seq ?_
  refine t_region ?_
  refine t_val (r_load ca_51 rfl (rd_m (.tail _ (.head _)) rfl)) rfl ?_
  refine t_eff rfl (e_pcall en_41 rfl rfl rfl rfl (guard_ready_c (.tail _ (.tail _ hg))) ?_)
  refine t_val (r_not rfl) rfl ?_
  refine t_nil ?_
  refine Tr.keep (env' := [(2, _), (3, _), (9, _)]) ⟨rfl, rfl, rfl, trivial⟩ ?_
  refine t_then ?_
  refine t_cond_f (b_of (by simp; omega)) ?_
  refine t_skip ?_
  refine t_then ?_
  refine t_seq ?_
  refine t_seq ?_
  refine t_region ?_
  refine t_val (r_load ca_51 rfl (rd_m (.tail _ (.head _)) rfl)) rfl ?_
  refine t_val (r_loads ca_316 rfl (rds_m (n := 4) (vs := [_, _, _, _]) (.head _) rfl) rfl) rfl ?_
  refine t_eff rfl (e_pcall en_269 rfl rfl rfl rfl (guard_valid_c k s p c (.tail _ (.tail _ hg)) hf) ?_)
  refine t_val (r_not rfl) rfl ?_
  refine t_nil ?_
  refine Tr.keep (env' := [(2, _), (3, _), (13, _)]) ⟨rfl, rfl, rfl, trivial⟩ ?_
  refine t_then ?_
  refine t_cond_t (b_of (by rw [hval]; rfl)) ?_
  refine t_seq ?_
  refine t_region ?_
  refine t_val (r_assign rfl) rfl ?_
  refine t_nil ?_
  refine Tr.keep (env' := [(4, _)]) ⟨rfl, trivial⟩ ?_
  refine t_then ?_
  refine t_retc ?_
  refine t_then_ret ?_
  refine t_ret1 rfl rfl (fun w hw => ?_)
  exact ⟨rfl, Ok.sub hw (.cons _ (.cons _ (.refl _)))⟩
theorem hear_open_bad {ea : EvAt} {lv : Value} {A : Option Addr} {cc : Nat} {x : ByteArray} (hev : ea.ev lv ∈ M) (hs : SlRd w0 M 1 A 1 [encS x]) (hx1 : Digits x) (hx2 : x.size ≤ 15) (hx : numOk x = false) :
  ∀ w, Ok w0 M w → Calls Tryz.prog 148 #[.pointer (some ⟨ea.eb, 0, none⟩), .agg #[.string ⟨#[111, 112, 101, 110]⟩, .slice A 1 cc]] w (fun e w' => e = .panicked (refused 3) ∧ Ok w0 M w') := by
  refine enter (vs := [_, _]) Tryz.func148 rfl Tryz.ntmps148 rfl ?_
  refine t_seq ?_
  refine t_region ?_
  refine t_eff rfl (e_box rfl rfl fun b3 => ?_)
  refine t_nil ?_
  refine Tr.keep (env' := [(0, _), (3, _)]) ⟨rfl, rfl, trivial⟩ ?_
  refine t_then ?_
  refine t_seq ?_
  refine t_region ?_
  refine t_val (r_fa fo_182_0 rfl) rfl ?_
  refine t_val (r_load ca_9 rfl (rd_m (.head _) rfl)) rfl ?_
  refine t_nil ?_
  refine Tr.keep (env' := [(0, _), (3, _), (9, _)]) ⟨rfl, rfl, rfl, trivial⟩ ?_
  refine t_then ?_
  refine t_block ?_
  refine t_seq ?_
  refine t_seq ?_
  refine t_region ?_
  refine t_val (r_to (v2 := .bool false) (r_eqs rfl rfl) (by rfl)) rfl ?_
  refine t_val (r_assign rfl) rfl ?_
  refine t_nil ?_
  refine Tr.keep (env' := [(0, _), (3, _), (9, _), (28, _)]) ⟨rfl, rfl, rfl, rfl, trivial⟩ ?_
  refine t_then ?_
  refine t_cond_f rfl ?_
  refine t_seq ?_
  refine t_region ?_
  refine t_val (r_to (v2 := .bool false) (r_eqs rfl rfl) (by rfl)) rfl ?_
  refine t_val (r_assign rfl) rfl ?_
  refine t_nil ?_
  refine Tr.keep (env' := [(0, _), (3, _), (9, _), (28, _)]) ⟨rfl, rfl, rfl, rfl, trivial⟩ ?_
  refine t_then ?_
  refine t_cond_f rfl ?_
  refine t_region ?_
  refine t_val (r_to (v2 := .bool false) (r_eqs rfl rfl) (by rfl)) rfl ?_
  refine t_val (r_assign rfl) rfl ?_
  refine t_nil ?_
  refine Tr.keep (env' := [(0, _), (3, _), (28, _)]) ⟨rfl, rfl, rfl, trivial⟩ ?_
  refine t_then ?_
  refine t_cond_f rfl ?_
  refine t_seq ?_
  refine t_region ?_
  refine t_val (r_loads ca_182 rfl (rds_m (n := 2) (vs := [_, _]) (.head _) rfl) rfl) rfl ?_
  refine t_eff rfl (e_panics en_211 rfl rfl rfl (numbers_bad _ (hs.sub (.cons _ (.refl _))) hx1 hx2 hx) ?_)
  refine t_then_panic ?_
  refine t_in_panic ?_
  exact t_panic_end (fun w hw => ⟨rfl, Ok.sub hw (.cons _ (.refl _))⟩)
theorem hear_post_no {ea : EvAt} {lv : Value} {g : GuardSt} {A : Option Addr} {cc : Nat} {x y : ByteArray} (s p : Int) (hev : ea.ev lv ∈ M) (hg : g.eg ea.gl ∈ M) (hs : SlRd w0 M 1 A 2 [encS x, encS y]) (hx : Num x p) (hy : Num y s) (hf : g.Fine) (hval : gvalid g.plan 3 s p 0 = false) :
  ∀ w, Ok w0 M w → Calls Tryz.prog 148 #[.pointer (some ⟨ea.eb, 0, none⟩), .agg #[.string ⟨#[112, 111, 115, 116]⟩, .slice A 2 cc]] w (fun e w' => e = .panicked (refused 2) ∧ Ok w0 M w') := by
  refine enter (vs := [_, _]) Tryz.func148 rfl Tryz.ntmps148 rfl ?_
  refine t_seq ?_
  refine t_region ?_
  refine t_eff rfl (e_box rfl rfl fun b3 => ?_)
  refine t_nil ?_
  refine Tr.keep (env' := [(0, _), (3, _)]) ⟨rfl, rfl, trivial⟩ ?_
  refine t_then ?_
  refine t_seq ?_
  refine t_region ?_
  refine t_val (r_fa fo_182_0 rfl) rfl ?_
  refine t_val (r_load ca_9 rfl (rd_m (.head _) rfl)) rfl ?_
  refine t_nil ?_
  refine Tr.keep (env' := [(0, _), (3, _), (9, _)]) ⟨rfl, rfl, rfl, trivial⟩ ?_
  refine t_then ?_
  refine t_block ?_
  refine t_seq ?_
  refine t_seq ?_
  refine t_region ?_
  refine t_val (r_to (v2 := .bool true) (r_eqs rfl rfl) (by rfl)) rfl ?_
  refine t_val (r_assign rfl) rfl ?_
  refine t_nil ?_
  refine Tr.keep (env' := [(0, _), (3, _), (9, _), (28, _)]) ⟨rfl, rfl, rfl, rfl, trivial⟩ ?_
  refine t_then ?_
  refine t_cond_t rfl ?_
  refine t_skip ?_
  refine t_then ?_
  refine t_cond_t rfl ?_
  refine t_seq ?_
  refine t_region ?_
  refine t_val (r_loads ca_182 rfl (rds_m (n := 2) (vs := [_, _]) (.head _) rfl) rfl) rfl ?_
  refine t_eff rfl (e_call en_211 rfl rfl rfl rfl (numbers_ok (ws := [x, y]) _ (hs.sub (.cons _ (.refl _))) (by intro z hz; simp at hz; rcases hz with rfl | rfl <;> first | exact hx.1 | exact hy.1) (by decide)) fun xo hO => ?_)
  obtain ⟨xv, xE⟩ := xo
  dsimp only at hO ⊢
  obtain ⟨sN, hv, hE⟩ := own_sl (n := 2) hO rfl (by decide)
  subst hv hE
  show Tr _ _ _ _ (cel sN.b 3 (.int .i64 (wordV x) :: .int .i64 (wordV y) :: sN.sp) :: _) _
  rw [hx.2]
  rw [hy.2]
  refine t_val (r_assign rfl) rfl ?_
  refine t_nil ?_
  refine Tr.keep (env' := [(0, _), (3, _), (4, _)]) ⟨rfl, rfl, rfl, trivial⟩ ?_
  refine t_then ?_
  refine t_seq ?_
  refine t_region ?_
  refine t_eff rfl (e_makeMap (encK) rfl fun b34 => ?_)
  refine t_eff rfl (e_insert (a := ⟨#[112, 111, 115, 116]⟩) Tryz.underlying312 keyStr rfl rfl rfl .here ?_)
  refine t_eff rfl (e_insert (a := ⟨#[114, 101, 100]⟩) Tryz.underlying312 keyStr rfl rfl rfl .here ?_)
  refine t_eff rfl (e_insert (a := ⟨#[103, 114, 101, 101, 110]⟩) Tryz.underlying312 keyStr rfl rfl rfl .here ?_)
  refine t_val (r_move rfl) rfl ?_
  refine t_val (r_fa fo_182_0 rfl) rfl ?_
  refine t_val (r_load ca_9 rfl (rd_m (.tail _ (.tail _ (.head _))) rfl)) rfl ?_
  refine t_val (run_to (v' := .int .i64 3) (r_lookup1 (⟨#[112, 111, 115, 116]⟩) Tryz.underlying312 keyStr inf_311 rfl rfl (.head _)) (by (repeat' first | rw [mget_mput, if_pos rfl] | rw [mget_mput, if_neg (by decide)]); rfl)) rfl ?_
  refine t_val (r_assign rfl) rfl ?_
  refine t_nil ?_
  refine Tr.keep (env' := [(0, _), (4, _), (5, _)]) ⟨rfl, rfl, rfl, trivial⟩ ?_
  refine t_then ?_
  refine d_begin mixed rfl ?_
  refine d_val 0 rfl (by kernel_rfl) (by kernel_rfl) (by kernel_rfl) (.inBlock .body) (.refl _) rfl (r_move rfl) ?_
  refine d_val 1 rfl (by kernel_rfl) (by kernel_rfl) (by kernel_rfl) (.inBlock .body) (.refl _) rfl (r_nilCheck rfl) ?_
  refine d_val 2 rfl (by kernel_rfl) (by kernel_rfl) (by kernel_rfl) (.inBlock .body) (.refl _) rfl (r_fa fo_56_1 rfl) ?_
  refine d_val 3 rfl (by kernel_rfl) (by kernel_rfl) (by kernel_rfl) (.inBlock .body) (.refl _) rfl (r_load ca_51 rfl (rd_m (.tail _ (.tail _ (.tail _ hev))) rfl)) ?_
  refine d_val 4 rfl (by kernel_rfl) (by kernel_rfl) (by kernel_rfl) (.inBlock .body) (.refl _) rfl (r_move rfl) ?_
  refine d_val 5 rfl (by kernel_rfl) (by kernel_rfl) (by kernel_rfl) (.inBlock .body) (.refl _) rfl (r_move rfl) ?_
  refine d_val 6 rfl (by kernel_rfl) (by kernel_rfl) (by kernel_rfl) (.inBlock .body) (.refl _) rfl (r_ia (j := 0) Tryz.underlying36 iz_3 rfl rfl rfl (by decide)) ?_
  refine d_val 7 rfl (by kernel_rfl) (by kernel_rfl) (by kernel_rfl) (.inBlock .body) (.refl _) rfl (r_load ca_3 rfl (rd_m (.tail _ (.head _)) rfl)) ?_
  refine d_val 8 rfl (by kernel_rfl) (by kernel_rfl) (by kernel_rfl) (.inBlock .body) (.refl _) rfl (r_move rfl) ?_
  refine d_val 9 rfl (by kernel_rfl) (by kernel_rfl) (by kernel_rfl) (.inBlock .body) (.refl _) rfl (r_ia (j := 1) Tryz.underlying36 iz_3 rfl rfl rfl (by decide)) ?_
  refine d_val 10 rfl (by kernel_rfl) (by kernel_rfl) (by kernel_rfl) (.inBlock .body) (.refl _) rfl (r_load ca_3 rfl (rd_m (.tail _ (.head _)) rfl)) ?_
  refine d_val 11 rfl (by kernel_rfl) (by kernel_rfl) (by kernel_rfl) (.inBlock .body) (.refl _) rfl (r_build rfl (v := .agg #[.int .i64 3, .int .i64 s, .int .i64 p, .int .i64 0]) (fun w => by kernel_rfl)) ?_
  refine d_eff 12 rfl rfl (by kernel_rfl) (e_pcall en_213 rfl rfl rfl rfl (guard_hear_no 3 s p 0 ((.tail _ (.tail _ (.tail _ hg)))) hf hval) ?_)
  refine d_held (.refl _) ?_
  refine d_eff 13 rfl rfl (by kernel_rfl) (e_panics en_212 rfl rfl rfl (need_no 2 (by decide)) ?_)
  refine t_in_panic ?_
  exact t_panic_end (fun w hw => ⟨rfl, Ok.sub hw (.cons _ (.cons _ (.cons _ (.refl _))))⟩)
theorem start_yes {ea : EvAt} {lv : Value} {g : GuardSt} {Fr : List Ent} {A : Option Addr} {cc : Nat} {x y : ByteArray} (s : Int) (hev : ea.ev lv ∈ Fr) (hs : SlRd w0 (g.eg ea.gl :: g.er ea.gl :: g.ep ea.gl :: g.ec ea.gl :: Fr) 1 A 2 [encS x, encS y]) (hx : Num x 1) (hy : Num y s) (hf : g.Fine) (hsn : g.Sane) (hss : 0 ≤ s ∧ s ≤ 100000) (hm : g.may 0 s = []) {v : ByteArray} :
  ∀ w, Ok w0 (g.eg ea.gl :: g.er ea.gl :: g.ep ea.gl :: g.ec ea.gl :: Fr) w → Calls Tryz.prog 150 #[.pointer (some ⟨ea.eb, 0, none⟩), .agg #[.string v, .slice A 2 cc]] w (fun e w' => e = .returned (.tuple #[]) ∧ Ok w0 ((g.start 0 s).eg ea.gl :: (g.start 0 s).er ea.gl :: (g.start 0 s).ep ea.gl :: (g.start 0 s).ec ea.gl :: Fr) w') := by
  refine enter (vs := [_, _]) Tryz.func150 rfl Tryz.ntmps150 rfl ?_
  refine t_seq ?_
  refine t_region ?_
  refine t_eff rfl (e_box rfl rfl fun b3 => ?_)
  refine t_nil ?_
  refine Tr.keep (env' := [(0, _), (3, _)]) ⟨rfl, rfl, trivial⟩ ?_
  refine t_then ?_
  refine t_seq ?_
  refine t_region ?_
  refine t_val (r_loads ca_182 rfl (rds_m (n := 2) (vs := [_, _]) (.head _) rfl) rfl) rfl ?_
  refine t_eff rfl (e_call en_211 rfl rfl rfl rfl (numbers_ok (ws := [x, y]) _ (hs.sub (.cons _ (.refl _))) (by intro z hz; simp at hz; rcases hz with rfl | rfl <;> first | exact hx.1 | exact hy.1) (by decide)) fun xo hO => ?_)
  obtain ⟨xv, xE⟩ := xo
  dsimp only at hO ⊢
  obtain ⟨sN, hv, hE⟩ := own_sl (n := 2) hO rfl (by decide)
  subst hv hE
  show Tr _ _ _ _ (cel sN.b 3 (.int .i64 (wordV x) :: .int .i64 (wordV y) :: sN.sp) :: _) _
  rw [hx.2]
  rw [hy.2]
  refine t_val (r_assign rfl) rfl ?_
  refine t_nil ?_
  refine Tr.keep (env' := [(0, _), (4, _)]) ⟨rfl, rfl, trivial⟩ ?_
  refine t_then ?_
  refine d_beginS (.cons_cons _ (.cons_cons _ (.cons _ (.cons _ (.cons _ (.cons _ (.refl _))))))) mixed rfl ?_
  refine d_val 0 rfl (by kernel_rfl) (by kernel_rfl) (by kernel_rfl) .body (.cons_cons _ (.cons_cons _ (.cons _ (.cons _ (.cons _ (.cons _ (.refl _))))))) rfl (r_move rfl) ?_
  refine d_val 1 rfl (by kernel_rfl) (by kernel_rfl) (by kernel_rfl) .body (.cons_cons _ (.cons_cons _ (.cons _ (.cons _ (.cons _ (.cons _ (.refl _))))))) rfl (r_nilCheck rfl) ?_
  refine d_val 2 rfl (by kernel_rfl) (by kernel_rfl) (by kernel_rfl) .body (.cons_cons _ (.cons_cons _ (.cons _ (.cons _ (.cons _ (.cons _ (.refl _))))))) rfl (r_fa fo_56_1 rfl) ?_
  refine d_val 3 rfl (by kernel_rfl) (by kernel_rfl) (by kernel_rfl) .body (.cons_cons _ (.cons_cons _ (.cons _ (.cons _ (.cons _ (.cons _ (.refl _))))))) rfl (r_load ca_51 rfl (rd_m (.tail _ (.tail _ hev)) rfl)) ?_
  refine d_val 4 rfl (by kernel_rfl) (by kernel_rfl) (by kernel_rfl) .body (.cons_cons _ (.cons_cons _ (.cons _ (.cons _ (.cons _ (.cons _ (.refl _))))))) rfl (r_move rfl) ?_
  refine d_val 5 rfl (by kernel_rfl) (by kernel_rfl) (by kernel_rfl) .body (.cons_cons _ (.cons_cons _ (.cons _ (.cons _ (.cons _ (.cons _ (.refl _))))))) rfl (r_move rfl) ?_
  refine d_val 6 rfl (by kernel_rfl) (by kernel_rfl) (by kernel_rfl) .body (.cons_cons _ (.cons_cons _ (.cons _ (.cons _ (.cons _ (.cons _ (.refl _))))))) rfl (r_ia (j := 0) Tryz.underlying36 iz_3 rfl rfl rfl (by decide)) ?_
  refine d_val 7 rfl (by kernel_rfl) (by kernel_rfl) (by kernel_rfl) .body (.cons_cons _ (.cons_cons _ (.cons _ (.cons _ (.cons _ (.cons _ (.refl _))))))) rfl (r_load ca_3 rfl (rd_m (.head _) rfl)) ?_
  refine d_val 9 rfl (by kernel_rfl) (by kernel_rfl) (by kernel_rfl) .body (.cons_cons _ (.cons_cons _ (.cons _ (.cons _ (.cons _ (.cons _ (.refl _))))))) rfl (r_move rfl) ?_
  refine d_val 10 rfl (by kernel_rfl) (by kernel_rfl) (by kernel_rfl) .body (.cons_cons _ (.cons_cons _ (.cons _ (.cons _ (.cons _ (.cons _ (.refl _))))))) rfl (r_ia (j := 1) Tryz.underlying36 iz_3 rfl rfl rfl (by decide)) ?_
  refine d_val 11 rfl (by kernel_rfl) (by kernel_rfl) (by kernel_rfl) .body (.cons_cons _ (.cons_cons _ (.cons _ (.cons _ (.cons _ (.cons _ (.refl _))))))) rfl (r_load ca_3 rfl (rd_m (.head _) rfl)) ?_
  refine d_eff 8 rfl rfl (by kernel_rfl) (e_pcall en_214 rfl rfl rfl rfl (car_c (e' := ea) (lv := lv) ((.tail _ (.tail _ (.tail _ (.tail _ (.tail _ (.tail _ hev)))))))) ?_)
  refine d_held (.cons_cons _ (.cons_cons _ (.cons _ (.cons _ (.cons _ (.cons _ (.refl _))))))) ?_
  refine d_eff 12 rfl rfl (by kernel_rfl) (e_mcall en_215 rfl rfl rfl rfl (fun w hw => guard_start_yes (Fr := _) (car := 0) (t := s) hf hsn (by have := hf.nc; omega) hss hm w (hw.perm (pk (.there (.there .here)) (pk (.there (.there .here)) (pk (.there (.there .here)) (pk (.there (.there .here)) (.refl _))))))) ?_)
  refine d_held (.cons _ (.cons _ (.cons _ (.cons _ (.refl _))))) ?_
  refine d_eff 13 rfl rfl (by kernel_rfl) (e_pcall en_212 rfl rfl rfl rfl need_ok ?_)
  refine d_held (.cons _ (.cons _ (.cons _ (.cons _ (.refl _))))) ?_
  refine d_end (by kernel_rfl) ?_
  refine Tr.keep (env' := []) trivial ?_
  refine t_end0 rfl (fun w hw => ?_)
  exact ⟨rfl, Ok.sub (hw.perm (pk .here (pk .here (pk .here (pk .here (.refl _)))))) (.cons_cons _ (.cons_cons _ (.cons_cons _ (.cons_cons _ (.cons _ (.cons _ (.refl _)))))))⟩
theorem start_no {ea : EvAt} {lv : Value} {g : GuardSt} {Fr : List Ent} {A : Option Addr} {cc : Nat} {x y : ByteArray} (s : Int) (hev : ea.ev lv ∈ Fr) (hs : SlRd w0 (g.eg ea.gl :: g.er ea.gl :: g.ep ea.gl :: g.ec ea.gl :: Fr) 1 A 2 [encS x, encS y]) (hx : Num x 1) (hy : Num y s) (hf : g.Fine) (hsn : g.Sane) (hss : 0 ≤ s ∧ s ≤ 100000) (hm : g.may 0 s ≠ []) {v : ByteArray} :
  ∀ w, Ok w0 (g.eg ea.gl :: g.er ea.gl :: g.ep ea.gl :: g.ec ea.gl :: Fr) w → Calls Tryz.prog 150 #[.pointer (some ⟨ea.eb, 0, none⟩), .agg #[.string v, .slice A 2 cc]] w (fun e w' => e = .panicked (refused 7) ∧ Ok w0 (g.eg ea.gl :: g.er ea.gl :: g.ep ea.gl :: g.ec ea.gl :: Fr) w') := by
  refine enter (vs := [_, _]) Tryz.func150 rfl Tryz.ntmps150 rfl ?_
  refine t_seq ?_
  refine t_region ?_
  refine t_eff rfl (e_box rfl rfl fun b3 => ?_)
  refine t_nil ?_
  refine Tr.keep (env' := [(0, _), (3, _)]) ⟨rfl, rfl, trivial⟩ ?_
  refine t_then ?_
  refine t_seq ?_
  refine t_region ?_
  refine t_val (r_loads ca_182 rfl (rds_m (n := 2) (vs := [_, _]) (.head _) rfl) rfl) rfl ?_
  refine t_eff rfl (e_call en_211 rfl rfl rfl rfl (numbers_ok (ws := [x, y]) _ (hs.sub (.cons _ (.refl _))) (by intro z hz; simp at hz; rcases hz with rfl | rfl <;> first | exact hx.1 | exact hy.1) (by decide)) fun xo hO => ?_)
  obtain ⟨xv, xE⟩ := xo
  dsimp only at hO ⊢
  obtain ⟨sN, hv, hE⟩ := own_sl (n := 2) hO rfl (by decide)
  subst hv hE
  show Tr _ _ _ _ (cel sN.b 3 (.int .i64 (wordV x) :: .int .i64 (wordV y) :: sN.sp) :: _) _
  rw [hx.2]
  rw [hy.2]
  refine t_val (r_assign rfl) rfl ?_
  refine t_nil ?_
  refine Tr.keep (env' := [(0, _), (4, _)]) ⟨rfl, rfl, trivial⟩ ?_
  refine t_then ?_
  refine d_beginS (.cons_cons _ (.cons_cons _ (.cons _ (.cons _ (.cons _ (.cons _ (.refl _))))))) mixed rfl ?_
  refine d_val 0 rfl (by kernel_rfl) (by kernel_rfl) (by kernel_rfl) .body (.cons_cons _ (.cons_cons _ (.cons _ (.cons _ (.cons _ (.cons _ (.refl _))))))) rfl (r_move rfl) ?_
  refine d_val 1 rfl (by kernel_rfl) (by kernel_rfl) (by kernel_rfl) .body (.cons_cons _ (.cons_cons _ (.cons _ (.cons _ (.cons _ (.cons _ (.refl _))))))) rfl (r_nilCheck rfl) ?_
  refine d_val 2 rfl (by kernel_rfl) (by kernel_rfl) (by kernel_rfl) .body (.cons_cons _ (.cons_cons _ (.cons _ (.cons _ (.cons _ (.cons _ (.refl _))))))) rfl (r_fa fo_56_1 rfl) ?_
  refine d_val 3 rfl (by kernel_rfl) (by kernel_rfl) (by kernel_rfl) .body (.cons_cons _ (.cons_cons _ (.cons _ (.cons _ (.cons _ (.cons _ (.refl _))))))) rfl (r_load ca_51 rfl (rd_m (.tail _ (.tail _ hev)) rfl)) ?_
  refine d_val 4 rfl (by kernel_rfl) (by kernel_rfl) (by kernel_rfl) .body (.cons_cons _ (.cons_cons _ (.cons _ (.cons _ (.cons _ (.cons _ (.refl _))))))) rfl (r_move rfl) ?_
  refine d_val 5 rfl (by kernel_rfl) (by kernel_rfl) (by kernel_rfl) .body (.cons_cons _ (.cons_cons _ (.cons _ (.cons _ (.cons _ (.cons _ (.refl _))))))) rfl (r_move rfl) ?_
  refine d_val 6 rfl (by kernel_rfl) (by kernel_rfl) (by kernel_rfl) .body (.cons_cons _ (.cons_cons _ (.cons _ (.cons _ (.cons _ (.cons _ (.refl _))))))) rfl (r_ia (j := 0) Tryz.underlying36 iz_3 rfl rfl rfl (by decide)) ?_
  refine d_val 7 rfl (by kernel_rfl) (by kernel_rfl) (by kernel_rfl) .body (.cons_cons _ (.cons_cons _ (.cons _ (.cons _ (.cons _ (.cons _ (.refl _))))))) rfl (r_load ca_3 rfl (rd_m (.head _) rfl)) ?_
  refine d_val 9 rfl (by kernel_rfl) (by kernel_rfl) (by kernel_rfl) .body (.cons_cons _ (.cons_cons _ (.cons _ (.cons _ (.cons _ (.cons _ (.refl _))))))) rfl (r_move rfl) ?_
  refine d_val 10 rfl (by kernel_rfl) (by kernel_rfl) (by kernel_rfl) .body (.cons_cons _ (.cons_cons _ (.cons _ (.cons _ (.cons _ (.cons _ (.refl _))))))) rfl (r_ia (j := 1) Tryz.underlying36 iz_3 rfl rfl rfl (by decide)) ?_
  refine d_val 11 rfl (by kernel_rfl) (by kernel_rfl) (by kernel_rfl) .body (.cons_cons _ (.cons_cons _ (.cons _ (.cons _ (.cons _ (.cons _ (.refl _))))))) rfl (r_load ca_3 rfl (rd_m (.head _) rfl)) ?_
  refine d_eff 8 rfl rfl (by kernel_rfl) (e_pcall en_214 rfl rfl rfl rfl (car_c (e' := ea) (lv := lv) ((.tail _ (.tail _ (.tail _ (.tail _ (.tail _ (.tail _ hev)))))))) ?_)
  refine d_held (.cons_cons _ (.cons_cons _ (.cons _ (.cons _ (.cons _ (.cons _ (.refl _))))))) ?_
  refine d_eff 12 rfl rfl (by kernel_rfl) (e_mcall en_215 rfl rfl rfl rfl (fun w hw => guard_start_no (Fr := _) (car := 0) (t := s) hf hsn (by have := hf.nc; omega) hss hm w (hw.perm (pk (.there (.there .here)) (pk (.there (.there .here)) (pk (.there (.there .here)) (pk (.there (.there .here)) (.refl _))))))) ?_)
  refine d_held (.cons _ (.cons _ (.cons _ (.cons _ (.refl _))))) ?_
  refine d_eff 13 rfl rfl (by kernel_rfl) (e_panics en_212 rfl rfl rfl (need_no 7 (by decide)) ?_)
  exact t_panic_end (fun w hw => ⟨rfl, Ok.sub (hw.perm (pk .here (pk .here (pk .here (pk .here (.refl _)))))) (.cons_cons _ (.cons_cons _ (.cons_cons _ (.cons_cons _ (.cons _ (.cons _ (.refl _)))))))⟩)
end
end Go.Proofs.W
set_option linter.unusedVariables false
set_option linter.unusedSimpArgs false
set_option linter.unusedSectionVars false
set_option maxRecDepth 100000
namespace Go.Proofs.W
open Go Go.Sl Go.RowKit Go.Proofs
attribute [local irreducible] Go.Sl.Eff
theorem ca_59 : cellsAs Tryz.prog 59 = some (none) := by kernel_rfl
theorem en_146 : Enters Tryz.prog 146 := enters_of Tryz.func146 (by kernel_rfl) (by kernel_rfl)
theorem en_81 : Enters Tryz.prog 81 := enters_of Tryz.func81 (by kernel_rfl) (by kernel_rfl)
theorem en_82 : Enters Tryz.prog 82 := enters_of Tryz.func82 (by kernel_rfl) (by kernel_rfl)
theorem en_83 : Enters Tryz.prog 83 := enters_of Tryz.func83 (by kernel_rfl) (by kernel_rfl)
theorem fo_172_0 : fieldOff Tryz.prog 172 0 = some 0 := by kernel_rfl
theorem inf_172 : (Tryz.prog.info? 172).map (fun i => (i.zero, i.size, i.bytes)) = some (some (.agg #[.int .i64 0]), 1, 8) := by kernel_rfl
theorem inf_177 : (Tryz.prog.info? 177).map (fun i => (i.zero, i.size, i.bytes)) = some (some ((.nilFunc)), 1, 8) := by kernel_rfl
theorem inf_22 : (Tryz.prog.info? 22).map (fun i => (i.zero, i.size, i.bytes)) = some (some ((.slice none 0 0)), 1, 24) := by kernel_rfl
theorem inf_59 : (Tryz.prog.info? 59).map (fun i => (i.zero, i.size, i.bytes)) = some (some ((.int .i64 0)), 1, 8) := by kernel_rfl
theorem inf_9 : (Tryz.prog.info? 9).map (fun i => (i.zero, i.size, i.bytes)) = some (some ((.string ⟨#[]⟩)), 1, 16) := by kernel_rfl
theorem iz_172 : (Tryz.prog.info? 172).map (·.size) = some 1 := by kernel_rfl
theorem iz_22 : (Tryz.prog.info? 22).map (·.size) = some 1 := by kernel_rfl
theorem iz_59 : (Tryz.prog.info? 59).map (·.size) = some 1 := by kernel_rfl
theorem splitB_length (c : UInt8) : ∀ (n : Nat) (s : ByteArray), (splitB c n s).length ≤ n + 1
  | 0, s => by simp [splitB]
  | n + 1, s => by
    unfold splitB
    split
    · have := splitB_length c n (cutB s c).2.1
      simp; omega
    · simp
theorem own_slc {T : TypeId} {z n : Nat} {v : Value} {xs : List (List Value)} {E : List Ent} (h : Own T z v xs E) (hn : xs.length = n) (h0 : 0 < n) : ∃ s : Sl3, v = s.v n ∧ E = [cel s.b T (flat xs ++ s.sp)] ∧ n ≤ s.c := by
  subst hn
  rcases h.sh with ⟨_, rfl, _⟩ | ⟨b, c, l, rfl, rfl, h2, h3, h4, h5⟩
  · simp at h0
  · refine ⟨⟨b, c, l.drop (xs.length * z)⟩, rfl, ?_, h3⟩
    rw [← h5, List.take_append_drop]
theorem ifc_err : Tryz.prog.isIface 20 = true := by kernel_rfl
section
variable {w0 : World} {M : List Ent}
theorem clo_ret {b4 : Nat} : ∀ w, Ok w0 M w → CallsDIn Fence.wide 1 Tryz.prog 81 #[.pointer (some ⟨b4, 0, none⟩)] .returning w (fun e x w' => e = .returned (.tuple #[]) ∧ x = .returning ∧ Ok w0 M w') := by
  refine callsD_rec (vs := [_]) Tryz.func81 rfl (fun c₀ cs h => .inl ⟨by simp [recoverD, h], rfl, rfl⟩) rfl rfl rfl rfl ?_
  refine t_seq ?_
  refine t_region ?_
  refine t_val (r_move rfl) rfl ?_
  refine t_val (r_nenil_ifc0 ifc_err rfl rfl) rfl ?_
  refine t_nil ?_
  refine Tr.keep (env' := [(0, _), (1, _), (6, _)]) ⟨rfl, rfl, rfl, trivial⟩ ?_
  refine t_then ?_
  refine t_cond_f rfl ?_
  refine t_skip ?_
  refine t_end0 rfl (fun w hw => ?_)
  exact ⟨rfl, hw⟩
theorem clo_panic {b4 : Nat} {x y : Int} {L M' : List Ent} (hu : Upd M (cel b4 59 [.int .i64 y]) (cel b4 59 [.int .i64 x]) M') : ∀ w, Ok w0 M w → CallsDIn Fence.wide 1 Tryz.prog 81 #[.pointer (some ⟨b4, 0, none⟩)] (.panicking (refused x)) w (fun e u w' => e = .returned (.tuple #[]) ∧ u = .panicking [{ v := .iface 172 (.agg #[.int .i64 x]), recovered := true }] ∧ Ok w0 M' w') := by
  refine callsD_rec (vs := [_]) (v := .iface 172 (.agg #[.int .i64 x])) Tryz.func81 rfl (fun c₀ cs h => .inr (by simp [recoverD, h])) rfl rfl rfl rfl ?_
  refine t_seq ?_
  refine t_region ?_
  refine t_val (r_move rfl) rfl ?_
  refine t_val (r_nenil_ifc1 ifc_err rfl rfl) rfl ?_
  refine t_nil ?_
  refine Tr.keep (env' := [(0, _), (1, _), (6, _)]) ⟨rfl, rfl, rfl, trivial⟩ ?_
  refine t_then ?_
  refine t_cond_t rfl ?_
  refine t_seq ?_
  refine t_region ?_
  refine t_val (r_move rfl) rfl ?_
  refine t_val (r_typeAssertOk Tryz.underlying172 (by simp) rfl) rfl ?_
  refine t_val (r_move rfl) rfl ?_
  refine t_val (r_extract rfl rfl) rfl ?_
  refine t_val (r_extract rfl rfl) rfl ?_
  refine t_eff rfl (e_alloc inf_172 (l := [.int .i64 0]) rfl rfl fun b2 => ?_)
  refine t_eff rfl (e_stores iz_172 rfl rfl (vs := [_]) rfl rfl (by simp [Value.oneCell']) (.cons .zero .nil) .here ?_)
  refine t_val (r_assign rfl) rfl ?_
  refine t_nil ?_
  refine Tr.keep (env' := [(0, _), (1, _), (2, _), (3, _)]) ⟨rfl, rfl, rfl, rfl, trivial⟩ ?_
  refine t_then ?_
  refine t_seq ?_
  refine t_seq ?_
  refine t_region ?_
  refine t_val (r_move rfl) rfl ?_
  refine t_val (r_not rfl) rfl ?_
  refine t_nil ?_
  refine Tr.keep (env' := [(0, _), (1, _), (2, _), (13, _)]) ⟨rfl, rfl, rfl, rfl, trivial⟩ ?_
  refine t_then ?_
  refine t_cond_f rfl ?_
  refine t_skip ?_
  refine t_then ?_
  refine t_region ?_
  refine t_val (r_fa fo_172_0 rfl) rfl ?_
  refine t_val (r_load ca_59 rfl (rd_m (.head _) rfl)) rfl ?_
  refine t_eff rfl (e_store (l := [.int .i64 y]) (l' := [.int .i64 x]) iz_59 rfl rfl rfl .zero (.there hu) ?_)
  refine t_nil ?_
  refine Tr.keep (env' := []) trivial ?_
  refine t_end0 rfl (fun w hw => ?_)
  exact ⟨rfl, Ok.sub hw (.cons _ (.refl _))⟩
theorem apply_ok {eb : Nat} {line wd : ByteArray} {ws : List ByteArray} {M1 : List Ent} {f : Nat} {φ : List Ent → Prop} (hlen : line.size ≤ 200) (hwd : wordsOf line = wd :: ws) (hget : mget wd (verbsL eb) = some (.func (.func f) #[.pointer (some ⟨eb, 0, none⟩)] #[])) (he : Enters Tryz.prog f) (hcall : ∀ A n c Fr, n = ws.length → SlRd w0 (M1 ++ Fr) 1 A n (ws.map encS) → ∀ w, Ok w0 (M1 ++ Fr) w → Calls Tryz.prog f #[.pointer (some ⟨eb, 0, none⟩), .agg #[.string wd, .slice A n c]] w (fun e w' => ∃ M2, e = .returned (.tuple #[]) ∧ φ M2 ∧ Ok w0 (M2 ++ Fr) w')) :
   ∀ w, Ok w0 M1 w → Calls Tryz.prog 33 #[.pointer (some ⟨eb, 0, none⟩), .string line] w (fun e w' => ∃ M2, e = .returned (.int .i64 0) ∧ φ M2 ∧ Ok w0 M2 w') := by
  refine enterM (vs := [_, _]) Tryz.func33 rfl Tryz.ntmps33 rfl ?_
  refine t_seq ?_
  refine t_region ?_
  refine t_eff rfl (e_alloc inf_59 (l := [.int .i64 0]) rfl rfl fun b4 => ?_)
  refine t_nil ?_
  refine Tr.keep (env' := [(0, _), (1, _), (4, _)]) ⟨rfl, rfl, rfl, trivial⟩ ?_
  refine t_then ?_
  refine t_seq ?_
  refine t_region ?_
  refine t_val (r_makeFunc rfl rfl) rfl ?_
  refine t_eff rfl (e_defer rfl ?_)
  refine t_nil ?_
  refine Tr.keep (env' := [(0, _), (1, _), (4, _)]) ⟨rfl, rfl, rfl, trivial⟩ ?_
  refine t_then ?_
  refine t_seq ?_
  refine t_seq ?_
  refine t_region ?_
  refine t_val (r_move rfl) rfl ?_
  refine t_val (r_len_str Tryz.underlying9 rfl) rfl ?_
  refine t_val (r_gt rfl rfl) rfl ?_
  refine t_nil ?_
  refine Tr.keep (env' := [(0, _), (1, _), (4, _), (12, _)]) ⟨rfl, rfl, rfl, rfl, trivial⟩ ?_
  refine t_then ?_
  refine t_cond_f (b_of (by simp; omega)) ?_
  refine t_skip ?_
  refine t_then ?_
  refine t_seq ?_
  refine t_region ?_
  refine t_eff rfl (e_alloc inf_22 (l := [.slice none 0 0]) rfl rfl fun b5 => ?_)
  refine t_nil ?_
  refine Tr.keep (env' := [(0, _), (1, _), (4, _), (5, _)]) ⟨rfl, rfl, rfl, rfl, trivial⟩ ?_
  refine t_then ?_
  refine t_seq ?_
  refine t_seq ?_
  refine t_region ?_
  refine t_val (r_move rfl) rfl ?_
  refine t_eff rfl (e_call en_82 rfl rfl rfl rfl (words_c line) fun lb _ => ?_)
  refine t_nil ?_
  refine Tr.keep (env' := [(0, _), (4, _), (5, _), (14, _)]) ⟨rfl, rfl, rfl, rfl, trivial⟩ ?_
  refine t_then ?_
  refine t_block ?_
  refine Tr.keep (env' := [(0, _), (4, _), (5, _), (14, _)]) ⟨rfl, rfl, rfl, rfl, trivial⟩ ?_
  refine t_rangeFunc rfl en_146 (encS) (fun _ => rfl) (by decide) (wordsOf line) (fun pre (z : (Value × List Ent) × ByteArray) => Own 9 1 z.1.1 (pre.map encS) z.1.2) (fun z : (Value × List Ent) × ByteArray => cel lb 9 [.string z.2] :: (z.1.2 ++ (cel b5 22 [z.1.1] :: cel b4 59 [.int .i64 0] :: M1))) (((.slice none 0 0, []), line)) (Own.nil _ _) rfl ?_ ?_ ?_
  · exact fun l r Fr hy => words1_c (σ := Value × List Ent) (inv := fun pre z => Own 9 1 z.1 (pre.map encS) z.2) (Me := fun z => z.2 ++ (cel b5 22 [z.1] :: cel b4 59 [.int .i64 0] :: M1)) line (by omega) hy (.slice none 0 0, []) (Own.nil _ _)
  · intro l rr Fr pre y post hx z hz
    obtain ⟨⟨v, E⟩, ln⟩ := z
    dsimp only at hz ⊢
    have hbb : pre.length ≤ 200 := by
      have h8 : (wordsOf line).length ≤ line.size + 1 := splitB_length 32 line.size line
      rw [hx] at h8
      simp at h8
      omega
    refine Tr.keep (env' := [(5, _), (15, _)]) ⟨rfl, rfl, trivial⟩ ?_
    refine i_region ?_
    refine i_val (r_assign rfl) rfl ?_
    refine i_nil ?_
    refine Tr.keep (env' := [(5, _), (6, _), (15, _)]) ⟨rfl, rfl, rfl, trivial⟩ ?_
    refine t_then ?_
    refine t_begin .here ?_
    refine i_block ?_
    refine i_region ?_
    refine i_val (r_load ca_22 rfl (rd_m (.tail _ (List.mem_append_right _ (.tail _ (List.mem_append_right _ (.head _))))) rfl)) rfl ?_
    refine i_val (r_move rfl) rfl ?_
    refine i_eff rfl (e_buildSlice (E := 9) (l := encS y) rfl (fun w => by kernel_rfl) rfl fun b18 => ?_)
    refine i_eff rfl (e_append Tryz.underlying22 inf_9 rfl (by decide) rfl rfl hz (pk .here (pkb (.there (.right (.there .here))) (.refl _))) rfl (by simp [encS, Value.oneCell']) (by simp; omega) (by simp [maxLen]; omega) rfl fun v2 E2 hO2 => ?_)
    refine i_eff rfl (e_store iz_22 rfl rfl (Own.one (by assumption)) .zero (.right (.there (.right (.there .here)))) ?_)
    refine i_nil ?_
    refine Tr.keep (env' := []) trivial ?_
    refine t_in ?_
    refine t_endRound (.right .here) (fun w hw => ?_)
    exact ⟨rfl, ((v2, E2), ln), by simpa using hO2, Ok.sub (hw.perm (pk (.right .here) (pkb (.right .here) (pk (.right .here) (pkb .here (pk .here (pk .here (.refl _)))))))) (.refl _)⟩
  · intro D z hz
    obtain ⟨⟨v, E⟩, ln⟩ := z
    dsimp only at hz ⊢
    rw [hwd] at hz
    obtain ⟨sW, hv, hE, hcW⟩ := own_slc (n := ws.length + 1) hz (by simp) (by omega)
    subst hv hE
    have hwl : ws.length ≤ 200 := by
      have h8 : (wordsOf line).length ≤ line.size + 1 := splitB_length 32 line.size line
      rw [hwd] at h8
      simp at h8
      omega
    show Tr w0 _ _ _ (defE D :: cel lb 9 [.string ln] :: cel sW.b 9 (.string wd :: (flat (ws.map encS) ++ sW.sp)) :: cel b5 22 [.slice (some ⟨sW.b, 0, none⟩) (ws.length + 1) sW.c] :: cel b4 59 [.int .i64 0] :: M1) _
    refine t_in ?_
    refine t_then ?_
    refine t_seq ?_
    refine d_begin mixed rfl ?_
    refine d_valS 0 rfl (by kernel_rfl) (by kernel_rfl) (by kernel_rfl) (.then (.bodyM rfl rfl)) (.refl _) rfl (r_move rfl) ?_
    refine d_valS 2 rfl (by kernel_rfl) (by kernel_rfl) (by kernel_rfl) (.then (.bodyM rfl rfl)) (.refl _) rfl (r_load ca_22 rfl (rd_m (.tail _ (.tail _ (.tail _ (.head _)))) rfl)) ?_
    refine d_valS 3 rfl (by kernel_rfl) (by kernel_rfl) (by kernel_rfl) (.then (.bodyM rfl rfl)) (.refl _) rfl (r_ia (j := 0) Tryz.underlying22 iz_9 rfl rfl rfl (by omega)) ?_
    refine d_valS 4 rfl (by kernel_rfl) (by kernel_rfl) (by kernel_rfl) (.then (.bodyM rfl rfl)) (.refl _) rfl (r_load ca_9 rfl (rd_m (.tail _ (.tail _ (.head _))) rfl)) ?_
    refine d_eff 1 rfl rfl (by kernel_rfl) (e_call en_83 rfl rfl rfl rfl (verbs_c eb) fun vb _ => ?_)
    refine d_held (.cons _ (.refl _)) ?_
    refine d_eff 5 rfl rfl (by kernel_rfl) (e_val (run_to (v' := .tuple #[.func (.func f) #[.pointer (some ⟨eb, 0, none⟩)] #[], .bool true]) (r_lookup2 (wd) Tryz.underlying179 keyStr inf_177 rfl rfl (.head _)) (by rw [hget]; rfl)) rfl ?_)
    refine d_held (.cons _ (.refl _)) ?_
    refine d_valS 6 rfl (by kernel_rfl) (by kernel_rfl) (by kernel_rfl) (.then (.bodyM rfl rfl)) (.cons _ (.refl _)) rfl (r_move rfl) ?_
    refine d_valS 7 rfl (by kernel_rfl) (by kernel_rfl) (by kernel_rfl) (.then (.bodyM rfl rfl)) (.cons _ (.refl _)) rfl (r_extract rfl rfl) ?_
    refine d_valS 8 rfl (by kernel_rfl) (by kernel_rfl) (by kernel_rfl) (.then (.bodyM rfl rfl)) (.cons _ (.refl _)) rfl (r_extract rfl rfl) ?_
    refine d_valS 9 rfl (by kernel_rfl) (by kernel_rfl) (by kernel_rfl) (.then (.bodyM rfl rfl)) (.cons _ (.refl _)) rfl (r_assign rfl) ?_
    refine d_valS 10 rfl (by kernel_rfl) (by kernel_rfl) (by kernel_rfl) (.then (.bodyM rfl rfl)) (.cons _ (.refl _)) rfl (r_assign rfl) ?_
    refine d_end (by kernel_rfl) ?_
    refine Tr.keep (env' := [(4, _), (5, _), (7, _), (8, _)]) ⟨rfl, rfl, rfl, rfl, trivial⟩ ?_
    refine t_then ?_
    refine t_seq ?_
    refine t_seq ?_
    refine t_region ?_
    refine t_val (r_move rfl) rfl ?_
    refine t_val (r_not rfl) rfl ?_
    refine t_nil ?_
    refine Tr.keep (env' := [(4, _), (5, _), (7, _), (30, _)]) ⟨rfl, rfl, rfl, rfl, trivial⟩ ?_
    refine t_then ?_
    refine t_cond_f rfl ?_
    refine t_skip ?_
    refine t_then ?_
    refine t_seq ?_
    have hW : cel sW.b 9 (flat ((wd :: ws).map encS) ++ sW.sp) ∈ M1 ++ [mpe vb encK (verbsL eb), defE D, cel lb 9 [.string ln], cel sW.b 9 (.string wd :: (flat (ws.map encS) ++ sW.sp)), cel b5 22 [.slice (some ⟨sW.b, 0, none⟩) (ws.length + 1) sW.c], cel b4 59 [.int .i64 0]] := List.mem_append_right _ (by simp [flat, encS])
    obtain ⟨A, hA, hrd⟩ := (SlRd.of_cel (w0 := w0) (M := M1 ++ [mpe vb encK (verbsL eb), defE D, cel lb 9 [.string ln], cel sW.b 9 (.string wd :: (flat (ws.map encS) ++ sW.sp)), cel b5 22 [.slice (some ⟨sW.b, 0, none⟩) (ws.length + 1) sW.c], cel b4 59 [.int .i64 0]]) (T := 9) (z := 1) (n := ws.length + 1) (b := sW.b) (xs := (wd :: ws).map encS) (sp := sW.sp) hW (by simp) (by simp [encS]) (by omega)).cut 1 (by omega) hcW
    simp only [List.map_cons, List.drop_succ_cons, List.drop_zero] at hrd
    refine d_beginS (.cons_cons _ (.cons_cons _ (.cons_cons _ (.cons_cons _ (.cons_cons _ (.cons_cons _ (List.nil_sublist _))))))) mixed rfl ?_
    refine d_valS 0 rfl (by kernel_rfl) (by kernel_rfl) (by kernel_rfl) (.then (.bodyM rfl rfl)) (.cons_cons _ (.cons_cons _ (.cons_cons _ (.cons_cons _ (.cons_cons _ (.cons_cons _ (List.nil_sublist _))))))) rfl (r_move rfl) ?_
    refine d_valS 1 rfl (by kernel_rfl) (by kernel_rfl) (by kernel_rfl) (.then (.bodyM rfl rfl)) (.cons_cons _ (.cons_cons _ (.cons_cons _ (.cons_cons _ (.cons_cons _ (.cons_cons _ (List.nil_sublist _))))))) rfl (r_load ca_22 rfl (rd_m (.tail _ (.tail _ (.tail _ (.tail _ (.head _))))) rfl)) ?_
    refine d_valS 2 rfl (by kernel_rfl) (by kernel_rfl) (by kernel_rfl) (.then (.bodyM rfl rfl)) (.cons_cons _ (.cons_cons _ (.cons_cons _ (.cons_cons _ (.cons_cons _ (.cons_cons _ (List.nil_sublist _))))))) rfl (r_ia (j := 0) Tryz.underlying22 iz_9 rfl rfl rfl (by omega)) ?_
    refine d_valS 3 rfl (by kernel_rfl) (by kernel_rfl) (by kernel_rfl) (.then (.bodyM rfl rfl)) (.cons_cons _ (.cons_cons _ (.cons_cons _ (.cons_cons _ (.cons_cons _ (.cons_cons _ (List.nil_sublist _))))))) rfl (r_load ca_9 rfl (rd_m (.tail _ (.tail _ (.tail _ (.head _)))) rfl)) ?_
    refine d_valS 4 rfl (by kernel_rfl) (by kernel_rfl) (by kernel_rfl) (.then (.bodyM rfl rfl)) (.cons_cons _ (.cons_cons _ (.cons_cons _ (.cons_cons _ (.cons_cons _ (.cons_cons _ (List.nil_sublist _))))))) rfl (r_load ca_22 rfl (rd_m (.tail _ (.tail _ (.tail _ (.tail _ (.head _))))) rfl)) ?_
    refine d_valS 5 rfl (by kernel_rfl) (by kernel_rfl) (by kernel_rfl) (.then (.bodyM rfl rfl)) (.cons_cons _ (.cons_cons _ (.cons_cons _ (.cons_cons _ (.cons_cons _ (.cons_cons _ (List.nil_sublist _))))))) rfl (run_to (v' := .slice A (ws.length + 1 - 1) (sW.c - 1)) (r_sl_l 1 Tryz.underlying22 iz_9 rfl rfl rfl (by omega)) hA) ?_
    refine d_valS 6 rfl (by kernel_rfl) (by kernel_rfl) (by kernel_rfl) (.then (.bodyM rfl rfl)) (.cons_cons _ (.cons_cons _ (.cons_cons _ (.cons_cons _ (.cons_cons _ (.cons_cons _ (List.nil_sublist _))))))) rfl (r_build rfl (v := .agg #[.string wd, .slice A (ws.length + 1 - 1) (sW.c - 1)]) (fun w => by kernel_rfl)) ?_
    refine d_eff 7 rfl rfl (by kernel_rfl) (e_call he rfl rfl rfl rfl (fun w hw => hcall A (ws.length + 1 - 1) (sW.c - 1) [mpe vb encK (verbsL eb), defE D, cel lb 9 [.string ln], cel sW.b 9 (.string wd :: (flat (ws.map encS) ++ sW.sp)), cel b5 22 [.slice (some ⟨sW.b, 0, none⟩) (ws.length + 1) sW.c], cel b4 59 [.int .i64 0]] (by omega) hrd w (hw.perm (List.perm_append_comm : ([mpe vb encK (verbsL eb), defE D, cel lb 9 [.string ln], cel sW.b 9 (.string wd :: (flat (ws.map encS) ++ sW.sp)), cel b5 22 [.slice (some ⟨sW.b, 0, none⟩) (ws.length + 1) sW.c], cel b4 59 [.int .i64 0]] ++ M1).Perm (M1 ++ [mpe vb encK (verbsL eb), defE D, cel lb 9 [.string ln], cel sW.b 9 (.string wd :: (flat (ws.map encS) ++ sW.sp)), cel b5 22 [.slice (some ⟨sW.b, 0, none⟩) (ws.length + 1) sW.c], cel b4 59 [.int .i64 0]])))) fun M2 hM2 => ?_)
    refine d_held (List.Sublist.trans (.refl _) (List.sublist_append_right _ _)) ?_
    refine d_end (by kernel_rfl) ?_
    refine Tr.keep (env' := [(4, _)]) ⟨rfl, trivial⟩ ?_
    refine t_then ?_
    refine t_seq ?_
    refine t_region ?_
    refine t_eff rfl (e_store iz_59 rfl rfl rfl .zero (.right (.there (.there (.there (.there (.there .here)))))) ?_)
    refine t_nil ?_
    refine Tr.keep (env' := [(4, _)]) ⟨rfl, trivial⟩ ?_
    refine t_then ?_
    refine t_retc ?_
    refine t_leave rfl ca_59 rfl en_81 (pk (.right (.there .here)) (.refl _)) (rd_m (List.mem_append_right _ (.tail _ (.tail _ (.tail _ (.tail _ (.head _)))))) rfl) clo_ret (fun w hw => ⟨M2, rfl, hM2, hw.sub (List.sublist_append_left _ _)⟩)
theorem apply_err {eb : Nat} {line wd : ByteArray} {ws : List ByteArray} {M1 : List Ent} {f : Nat} {x : Int} (hlen : line.size ≤ 200) (hwd : wordsOf line = wd :: ws) (hget : mget wd (verbsL eb) = some (.func (.func f) #[.pointer (some ⟨eb, 0, none⟩)] #[])) (he : Enters Tryz.prog f) (hcall : ∀ A n c Fr, n = ws.length → SlRd w0 (M1 ++ Fr) 1 A n (ws.map encS) → ∀ w, Ok w0 (M1 ++ Fr) w → Calls Tryz.prog f #[.pointer (some ⟨eb, 0, none⟩), .agg #[.string wd, .slice A n c]] w (fun e w' => e = .panicked (refused x) ∧ Ok w0 (M1 ++ Fr) w')) :
   ∀ w, Ok w0 M1 w → Calls Tryz.prog 33 #[.pointer (some ⟨eb, 0, none⟩), .string line] w (fun e w' => e = .returned (.int .i64 x) ∧ Ok w0 M1 w') := by
  refine enterM (vs := [_, _]) Tryz.func33 rfl Tryz.ntmps33 rfl ?_
  refine t_seq ?_
  refine t_region ?_
  refine t_eff rfl (e_alloc inf_59 (l := [.int .i64 0]) rfl rfl fun b4 => ?_)
  refine t_nil ?_
  refine Tr.keep (env' := [(0, _), (1, _), (4, _)]) ⟨rfl, rfl, rfl, trivial⟩ ?_
  refine t_then ?_
  refine t_seq ?_
  refine t_region ?_
  refine t_val (r_makeFunc rfl rfl) rfl ?_
  refine t_eff rfl (e_defer rfl ?_)
  refine t_nil ?_
  refine Tr.keep (env' := [(0, _), (1, _), (4, _)]) ⟨rfl, rfl, rfl, trivial⟩ ?_
  refine t_then ?_
  refine t_seq ?_
  refine t_seq ?_
  refine t_region ?_
  refine t_val (r_move rfl) rfl ?_
  refine t_val (r_len_str Tryz.underlying9 rfl) rfl ?_
  refine t_val (r_gt rfl rfl) rfl ?_
  refine t_nil ?_
  refine Tr.keep (env' := [(0, _), (1, _), (4, _), (12, _)]) ⟨rfl, rfl, rfl, rfl, trivial⟩ ?_
  refine t_then ?_
  refine t_cond_f (b_of (by simp; omega)) ?_
  refine t_skip ?_
  refine t_then ?_
  refine t_seq ?_
  refine t_region ?_
  refine t_eff rfl (e_alloc inf_22 (l := [.slice none 0 0]) rfl rfl fun b5 => ?_)
  refine t_nil ?_
  refine Tr.keep (env' := [(0, _), (1, _), (4, _), (5, _)]) ⟨rfl, rfl, rfl, rfl, trivial⟩ ?_
  refine t_then ?_
  refine t_seq ?_
  refine t_seq ?_
  refine t_region ?_
  refine t_val (r_move rfl) rfl ?_
  refine t_eff rfl (e_call en_82 rfl rfl rfl rfl (words_c line) fun lb _ => ?_)
  refine t_nil ?_
  refine Tr.keep (env' := [(0, _), (4, _), (5, _), (14, _)]) ⟨rfl, rfl, rfl, rfl, trivial⟩ ?_
  refine t_then ?_
  refine t_block ?_
  refine Tr.keep (env' := [(0, _), (4, _), (5, _), (14, _)]) ⟨rfl, rfl, rfl, rfl, trivial⟩ ?_
  refine t_rangeFunc rfl en_146 (encS) (fun _ => rfl) (by decide) (wordsOf line) (fun pre (z : (Value × List Ent) × ByteArray) => Own 9 1 z.1.1 (pre.map encS) z.1.2) (fun z : (Value × List Ent) × ByteArray => cel lb 9 [.string z.2] :: (z.1.2 ++ (cel b5 22 [z.1.1] :: cel b4 59 [.int .i64 0] :: M1))) (((.slice none 0 0, []), line)) (Own.nil _ _) rfl ?_ ?_ ?_
  · exact fun l r Fr hy => words1_c (σ := Value × List Ent) (inv := fun pre z => Own 9 1 z.1 (pre.map encS) z.2) (Me := fun z => z.2 ++ (cel b5 22 [z.1] :: cel b4 59 [.int .i64 0] :: M1)) line (by omega) hy (.slice none 0 0, []) (Own.nil _ _)
  · intro l rr Fr pre y post hx z hz
    obtain ⟨⟨v, E⟩, ln⟩ := z
    dsimp only at hz ⊢
    have hbb : pre.length ≤ 200 := by
      have h8 : (wordsOf line).length ≤ line.size + 1 := splitB_length 32 line.size line
      rw [hx] at h8
      simp at h8
      omega
    refine Tr.keep (env' := [(5, _), (15, _)]) ⟨rfl, rfl, trivial⟩ ?_
    refine i_region ?_
    refine i_val (r_assign rfl) rfl ?_
    refine i_nil ?_
    refine Tr.keep (env' := [(5, _), (6, _), (15, _)]) ⟨rfl, rfl, rfl, trivial⟩ ?_
    refine t_then ?_
    refine t_begin .here ?_
    refine i_block ?_
    refine i_region ?_
    refine i_val (r_load ca_22 rfl (rd_m (.tail _ (List.mem_append_right _ (.tail _ (List.mem_append_right _ (.head _))))) rfl)) rfl ?_
    refine i_val (r_move rfl) rfl ?_
    refine i_eff rfl (e_buildSlice (E := 9) (l := encS y) rfl (fun w => by kernel_rfl) rfl fun b18 => ?_)
    refine i_eff rfl (e_append Tryz.underlying22 inf_9 rfl (by decide) rfl rfl hz (pk .here (pkb (.there (.right (.there .here))) (.refl _))) rfl (by simp [encS, Value.oneCell']) (by simp; omega) (by simp [maxLen]; omega) rfl fun v2 E2 hO2 => ?_)
    refine i_eff rfl (e_store iz_22 rfl rfl (Own.one (by assumption)) .zero (.right (.there (.right (.there .here)))) ?_)
    refine i_nil ?_
    refine Tr.keep (env' := []) trivial ?_
    refine t_in ?_
    refine t_endRound (.right .here) (fun w hw => ?_)
    exact ⟨rfl, ((v2, E2), ln), by simpa using hO2, Ok.sub (hw.perm (pk (.right .here) (pkb (.right .here) (pk (.right .here) (pkb .here (pk .here (pk .here (.refl _)))))))) (.refl _)⟩
  · intro D z hz
    obtain ⟨⟨v, E⟩, ln⟩ := z
    dsimp only at hz ⊢
    rw [hwd] at hz
    obtain ⟨sW, hv, hE, hcW⟩ := own_slc (n := ws.length + 1) hz (by simp) (by omega)
    subst hv hE
    have hwl : ws.length ≤ 200 := by
      have h8 : (wordsOf line).length ≤ line.size + 1 := splitB_length 32 line.size line
      rw [hwd] at h8
      simp at h8
      omega
    show Tr w0 _ _ _ (defE D :: cel lb 9 [.string ln] :: cel sW.b 9 (.string wd :: (flat (ws.map encS) ++ sW.sp)) :: cel b5 22 [.slice (some ⟨sW.b, 0, none⟩) (ws.length + 1) sW.c] :: cel b4 59 [.int .i64 0] :: M1) _
    refine t_in ?_
    refine t_then ?_
    refine t_seq ?_
    refine d_begin mixed rfl ?_
    refine d_valS 0 rfl (by kernel_rfl) (by kernel_rfl) (by kernel_rfl) (.then (.bodyM rfl rfl)) (.refl _) rfl (r_move rfl) ?_
    refine d_valS 2 rfl (by kernel_rfl) (by kernel_rfl) (by kernel_rfl) (.then (.bodyM rfl rfl)) (.refl _) rfl (r_load ca_22 rfl (rd_m (.tail _ (.tail _ (.tail _ (.head _)))) rfl)) ?_
    refine d_valS 3 rfl (by kernel_rfl) (by kernel_rfl) (by kernel_rfl) (.then (.bodyM rfl rfl)) (.refl _) rfl (r_ia (j := 0) Tryz.underlying22 iz_9 rfl rfl rfl (by omega)) ?_
    refine d_valS 4 rfl (by kernel_rfl) (by kernel_rfl) (by kernel_rfl) (.then (.bodyM rfl rfl)) (.refl _) rfl (r_load ca_9 rfl (rd_m (.tail _ (.tail _ (.head _))) rfl)) ?_
    refine d_eff 1 rfl rfl (by kernel_rfl) (e_call en_83 rfl rfl rfl rfl (verbs_c eb) fun vb _ => ?_)
    refine d_held (.cons _ (.refl _)) ?_
    refine d_eff 5 rfl rfl (by kernel_rfl) (e_val (run_to (v' := .tuple #[.func (.func f) #[.pointer (some ⟨eb, 0, none⟩)] #[], .bool true]) (r_lookup2 (wd) Tryz.underlying179 keyStr inf_177 rfl rfl (.head _)) (by rw [hget]; rfl)) rfl ?_)
    refine d_held (.cons _ (.refl _)) ?_
    refine d_valS 6 rfl (by kernel_rfl) (by kernel_rfl) (by kernel_rfl) (.then (.bodyM rfl rfl)) (.cons _ (.refl _)) rfl (r_move rfl) ?_
    refine d_valS 7 rfl (by kernel_rfl) (by kernel_rfl) (by kernel_rfl) (.then (.bodyM rfl rfl)) (.cons _ (.refl _)) rfl (r_extract rfl rfl) ?_
    refine d_valS 8 rfl (by kernel_rfl) (by kernel_rfl) (by kernel_rfl) (.then (.bodyM rfl rfl)) (.cons _ (.refl _)) rfl (r_extract rfl rfl) ?_
    refine d_valS 9 rfl (by kernel_rfl) (by kernel_rfl) (by kernel_rfl) (.then (.bodyM rfl rfl)) (.cons _ (.refl _)) rfl (r_assign rfl) ?_
    refine d_valS 10 rfl (by kernel_rfl) (by kernel_rfl) (by kernel_rfl) (.then (.bodyM rfl rfl)) (.cons _ (.refl _)) rfl (r_assign rfl) ?_
    refine d_end (by kernel_rfl) ?_
    refine Tr.keep (env' := [(4, _), (5, _), (7, _), (8, _)]) ⟨rfl, rfl, rfl, rfl, trivial⟩ ?_
    refine t_then ?_
    refine t_seq ?_
    refine t_seq ?_
    refine t_region ?_
    refine t_val (r_move rfl) rfl ?_
    refine t_val (r_not rfl) rfl ?_
    refine t_nil ?_
    refine Tr.keep (env' := [(4, _), (5, _), (7, _), (30, _)]) ⟨rfl, rfl, rfl, rfl, trivial⟩ ?_
    refine t_then ?_
    refine t_cond_f rfl ?_
    refine t_skip ?_
    refine t_then ?_
    refine t_seq ?_
    have hW : cel sW.b 9 (flat ((wd :: ws).map encS) ++ sW.sp) ∈ M1 ++ [mpe vb encK (verbsL eb), defE D, cel lb 9 [.string ln], cel sW.b 9 (.string wd :: (flat (ws.map encS) ++ sW.sp)), cel b5 22 [.slice (some ⟨sW.b, 0, none⟩) (ws.length + 1) sW.c], cel b4 59 [.int .i64 0]] := List.mem_append_right _ (by simp [flat, encS])
    obtain ⟨A, hA, hrd⟩ := (SlRd.of_cel (w0 := w0) (M := M1 ++ [mpe vb encK (verbsL eb), defE D, cel lb 9 [.string ln], cel sW.b 9 (.string wd :: (flat (ws.map encS) ++ sW.sp)), cel b5 22 [.slice (some ⟨sW.b, 0, none⟩) (ws.length + 1) sW.c], cel b4 59 [.int .i64 0]]) (T := 9) (z := 1) (n := ws.length + 1) (b := sW.b) (xs := (wd :: ws).map encS) (sp := sW.sp) hW (by simp) (by simp [encS]) (by omega)).cut 1 (by omega) hcW
    simp only [List.map_cons, List.drop_succ_cons, List.drop_zero] at hrd
    refine d_beginS (.cons_cons _ (.cons_cons _ (.cons_cons _ (.cons_cons _ (.cons_cons _ (.cons_cons _ (List.nil_sublist _))))))) mixed rfl ?_
    refine d_valS 0 rfl (by kernel_rfl) (by kernel_rfl) (by kernel_rfl) (.then (.bodyM rfl rfl)) (.cons_cons _ (.cons_cons _ (.cons_cons _ (.cons_cons _ (.cons_cons _ (.cons_cons _ (List.nil_sublist _))))))) rfl (r_move rfl) ?_
    refine d_valS 1 rfl (by kernel_rfl) (by kernel_rfl) (by kernel_rfl) (.then (.bodyM rfl rfl)) (.cons_cons _ (.cons_cons _ (.cons_cons _ (.cons_cons _ (.cons_cons _ (.cons_cons _ (List.nil_sublist _))))))) rfl (r_load ca_22 rfl (rd_m (.tail _ (.tail _ (.tail _ (.tail _ (.head _))))) rfl)) ?_
    refine d_valS 2 rfl (by kernel_rfl) (by kernel_rfl) (by kernel_rfl) (.then (.bodyM rfl rfl)) (.cons_cons _ (.cons_cons _ (.cons_cons _ (.cons_cons _ (.cons_cons _ (.cons_cons _ (List.nil_sublist _))))))) rfl (r_ia (j := 0) Tryz.underlying22 iz_9 rfl rfl rfl (by omega)) ?_
    refine d_valS 3 rfl (by kernel_rfl) (by kernel_rfl) (by kernel_rfl) (.then (.bodyM rfl rfl)) (.cons_cons _ (.cons_cons _ (.cons_cons _ (.cons_cons _ (.cons_cons _ (.cons_cons _ (List.nil_sublist _))))))) rfl (r_load ca_9 rfl (rd_m (.tail _ (.tail _ (.tail _ (.head _)))) rfl)) ?_
    refine d_valS 4 rfl (by kernel_rfl) (by kernel_rfl) (by kernel_rfl) (.then (.bodyM rfl rfl)) (.cons_cons _ (.cons_cons _ (.cons_cons _ (.cons_cons _ (.cons_cons _ (.cons_cons _ (List.nil_sublist _))))))) rfl (r_load ca_22 rfl (rd_m (.tail _ (.tail _ (.tail _ (.tail _ (.head _))))) rfl)) ?_
    refine d_valS 5 rfl (by kernel_rfl) (by kernel_rfl) (by kernel_rfl) (.then (.bodyM rfl rfl)) (.cons_cons _ (.cons_cons _ (.cons_cons _ (.cons_cons _ (.cons_cons _ (.cons_cons _ (List.nil_sublist _))))))) rfl (run_to (v' := .slice A (ws.length + 1 - 1) (sW.c - 1)) (r_sl_l 1 Tryz.underlying22 iz_9 rfl rfl rfl (by omega)) hA) ?_
    refine d_valS 6 rfl (by kernel_rfl) (by kernel_rfl) (by kernel_rfl) (.then (.bodyM rfl rfl)) (.cons_cons _ (.cons_cons _ (.cons_cons _ (.cons_cons _ (.cons_cons _ (.cons_cons _ (List.nil_sublist _))))))) rfl (r_build rfl (v := .agg #[.string wd, .slice A (ws.length + 1 - 1) (sW.c - 1)]) (fun w => by kernel_rfl)) ?_
    refine d_eff 7 rfl rfl (by kernel_rfl) (e_panics he rfl rfl rfl (fun w hw => hcall A (ws.length + 1 - 1) (sW.c - 1) [mpe vb encK (verbsL eb), defE D, cel lb 9 [.string ln], cel sW.b 9 (.string wd :: (flat (ws.map encS) ++ sW.sp)), cel b5 22 [.slice (some ⟨sW.b, 0, none⟩) (ws.length + 1) sW.c], cel b4 59 [.int .i64 0]] (by omega) hrd w (hw.perm (List.perm_append_comm : ([mpe vb encK (verbsL eb), defE D, cel lb 9 [.string ln], cel sW.b 9 (.string wd :: (flat (ws.map encS) ++ sW.sp)), cel b5 22 [.slice (some ⟨sW.b, 0, none⟩) (ws.length + 1) sW.c], cel b4 59 [.int .i64 0]] ++ M1).Perm (M1 ++ [mpe vb encK (verbsL eb), defE D, cel lb 9 [.string ln], cel sW.b 9 (.string wd :: (flat (ws.map encS) ++ sW.sp)), cel b5 22 [.slice (some ⟨sW.b, 0, none⟩) (ws.length + 1) sW.c], cel b4 59 [.int .i64 0]])))) ?_)
    refine t_then_panic ?_
    refine t_leaveP (M' := M1 ++ [mpe vb encK (verbsL eb), cel lb 9 [.string ln], cel sW.b 9 (.string wd :: (flat (ws.map encS) ++ sW.sp)), cel b5 22 [.slice (some ⟨sW.b, 0, none⟩) (ws.length + 1) sW.c], cel b4 59 [.int .i64 0]]) (M2 := M1 ++ [mpe vb encK (verbsL eb), cel lb 9 [.string ln], cel sW.b 9 (.string wd :: (flat (ws.map encS) ++ sW.sp)), cel b5 22 [.slice (some ⟨sW.b, 0, none⟩) (ws.length + 1) sW.c], cel b4 59 [.int .i64 x]]) rfl ca_59 rfl en_81 (pk (.right (.there .here)) (.refl _)) (rd_m (List.mem_append_right _ (.tail _ (.tail _ (.tail _ (.tail _ (.head _)))))) rfl) (fun w hw => clo_panic (y := 0) (L := []) (.right (.there (.there (.there (.there .here))))) w hw) (fun w hw => ⟨rfl, hw.sub (List.sublist_append_left _ _)⟩)
theorem apply_text {eb : Nat} {line wd : ByteArray} {ws : List ByteArray} {M1 : List Ent}  (hlen : line.size ≤ 200) (hwd : wordsOf line = wd :: ws) (hget : mget wd (verbsL eb) = none)  :
   ∀ w, Ok w0 M1 w → Calls Tryz.prog 33 #[.pointer (some ⟨eb, 0, none⟩), .string line] w (fun e w' => e = .returned (.int .i64 3) ∧ Ok w0 M1 w') := by
  refine enterM (vs := [_, _]) Tryz.func33 rfl Tryz.ntmps33 rfl ?_
  refine t_seq ?_
  refine t_region ?_
  refine t_eff rfl (e_alloc inf_59 (l := [.int .i64 0]) rfl rfl fun b4 => ?_)
  refine t_nil ?_
  refine Tr.keep (env' := [(0, _), (1, _), (4, _)]) ⟨rfl, rfl, rfl, trivial⟩ ?_
  refine t_then ?_
  refine t_seq ?_
  refine t_region ?_
  refine t_val (r_makeFunc rfl rfl) rfl ?_
  refine t_eff rfl (e_defer rfl ?_)
  refine t_nil ?_
  refine Tr.keep (env' := [(0, _), (1, _), (4, _)]) ⟨rfl, rfl, rfl, trivial⟩ ?_
  refine t_then ?_
  refine t_seq ?_
  refine t_seq ?_
  refine t_region ?_
  refine t_val (r_move rfl) rfl ?_
  refine t_val (r_len_str Tryz.underlying9 rfl) rfl ?_
  refine t_val (r_gt rfl rfl) rfl ?_
  refine t_nil ?_
  refine Tr.keep (env' := [(0, _), (1, _), (4, _), (12, _)]) ⟨rfl, rfl, rfl, rfl, trivial⟩ ?_
  refine t_then ?_
  refine t_cond_f (b_of (by simp; omega)) ?_
  refine t_skip ?_
  refine t_then ?_
  refine t_seq ?_
  refine t_region ?_
  refine t_eff rfl (e_alloc inf_22 (l := [.slice none 0 0]) rfl rfl fun b5 => ?_)
  refine t_nil ?_
  refine Tr.keep (env' := [(0, _), (1, _), (4, _), (5, _)]) ⟨rfl, rfl, rfl, rfl, trivial⟩ ?_
  refine t_then ?_
  refine t_seq ?_
  refine t_seq ?_
  refine t_region ?_
  refine t_val (r_move rfl) rfl ?_
  refine t_eff rfl (e_call en_82 rfl rfl rfl rfl (words_c line) fun lb _ => ?_)
  refine t_nil ?_
  refine Tr.keep (env' := [(0, _), (4, _), (5, _), (14, _)]) ⟨rfl, rfl, rfl, rfl, trivial⟩ ?_
  refine t_then ?_
  refine t_block ?_
  refine Tr.keep (env' := [(0, _), (4, _), (5, _), (14, _)]) ⟨rfl, rfl, rfl, rfl, trivial⟩ ?_
  refine t_rangeFunc rfl en_146 (encS) (fun _ => rfl) (by decide) (wordsOf line) (fun pre (z : (Value × List Ent) × ByteArray) => Own 9 1 z.1.1 (pre.map encS) z.1.2) (fun z : (Value × List Ent) × ByteArray => cel lb 9 [.string z.2] :: (z.1.2 ++ (cel b5 22 [z.1.1] :: cel b4 59 [.int .i64 0] :: M1))) (((.slice none 0 0, []), line)) (Own.nil _ _) rfl ?_ ?_ ?_
  · exact fun l r Fr hy => words1_c (σ := Value × List Ent) (inv := fun pre z => Own 9 1 z.1 (pre.map encS) z.2) (Me := fun z => z.2 ++ (cel b5 22 [z.1] :: cel b4 59 [.int .i64 0] :: M1)) line (by omega) hy (.slice none 0 0, []) (Own.nil _ _)
  · intro l rr Fr pre y post hx z hz
    obtain ⟨⟨v, E⟩, ln⟩ := z
    dsimp only at hz ⊢
    have hbb : pre.length ≤ 200 := by
      have h8 : (wordsOf line).length ≤ line.size + 1 := splitB_length 32 line.size line
      rw [hx] at h8
      simp at h8
      omega
    refine Tr.keep (env' := [(5, _), (15, _)]) ⟨rfl, rfl, trivial⟩ ?_
    refine i_region ?_
    refine i_val (r_assign rfl) rfl ?_
    refine i_nil ?_
    refine Tr.keep (env' := [(5, _), (6, _), (15, _)]) ⟨rfl, rfl, rfl, trivial⟩ ?_
    refine t_then ?_
    refine t_begin .here ?_
    refine i_block ?_
    refine i_region ?_
    refine i_val (r_load ca_22 rfl (rd_m (.tail _ (List.mem_append_right _ (.tail _ (List.mem_append_right _ (.head _))))) rfl)) rfl ?_
    refine i_val (r_move rfl) rfl ?_
    refine i_eff rfl (e_buildSlice (E := 9) (l := encS y) rfl (fun w => by kernel_rfl) rfl fun b18 => ?_)
    refine i_eff rfl (e_append Tryz.underlying22 inf_9 rfl (by decide) rfl rfl hz (pk .here (pkb (.there (.right (.there .here))) (.refl _))) rfl (by simp [encS, Value.oneCell']) (by simp; omega) (by simp [maxLen]; omega) rfl fun v2 E2 hO2 => ?_)
    refine i_eff rfl (e_store iz_22 rfl rfl (Own.one (by assumption)) .zero (.right (.there (.right (.there .here)))) ?_)
    refine i_nil ?_
    refine Tr.keep (env' := []) trivial ?_
    refine t_in ?_
    refine t_endRound (.right .here) (fun w hw => ?_)
    exact ⟨rfl, ((v2, E2), ln), by simpa using hO2, Ok.sub (hw.perm (pk (.right .here) (pkb (.right .here) (pk (.right .here) (pkb .here (pk .here (pk .here (.refl _)))))))) (.refl _)⟩
  · intro D z hz
    obtain ⟨⟨v, E⟩, ln⟩ := z
    dsimp only at hz ⊢
    rw [hwd] at hz
    obtain ⟨sW, hv, hE, hcW⟩ := own_slc (n := ws.length + 1) hz (by simp) (by omega)
    subst hv hE
    have hwl : ws.length ≤ 200 := by
      have h8 : (wordsOf line).length ≤ line.size + 1 := splitB_length 32 line.size line
      rw [hwd] at h8
      simp at h8
      omega
    show Tr w0 _ _ _ (defE D :: cel lb 9 [.string ln] :: cel sW.b 9 (.string wd :: (flat (ws.map encS) ++ sW.sp)) :: cel b5 22 [.slice (some ⟨sW.b, 0, none⟩) (ws.length + 1) sW.c] :: cel b4 59 [.int .i64 0] :: M1) _
    refine t_in ?_
    refine t_then ?_
    refine t_seq ?_
    refine d_begin mixed rfl ?_
    refine d_valS 0 rfl (by kernel_rfl) (by kernel_rfl) (by kernel_rfl) (.then (.bodyM rfl rfl)) (.refl _) rfl (r_move rfl) ?_
    refine d_valS 2 rfl (by kernel_rfl) (by kernel_rfl) (by kernel_rfl) (.then (.bodyM rfl rfl)) (.refl _) rfl (r_load ca_22 rfl (rd_m (.tail _ (.tail _ (.tail _ (.head _)))) rfl)) ?_
    refine d_valS 3 rfl (by kernel_rfl) (by kernel_rfl) (by kernel_rfl) (.then (.bodyM rfl rfl)) (.refl _) rfl (r_ia (j := 0) Tryz.underlying22 iz_9 rfl rfl rfl (by omega)) ?_
    refine d_valS 4 rfl (by kernel_rfl) (by kernel_rfl) (by kernel_rfl) (.then (.bodyM rfl rfl)) (.refl _) rfl (r_load ca_9 rfl (rd_m (.tail _ (.tail _ (.head _))) rfl)) ?_
    refine d_eff 1 rfl rfl (by kernel_rfl) (e_call en_83 rfl rfl rfl rfl (verbs_c eb) fun vb _ => ?_)
    refine d_held (.cons _ (.refl _)) ?_
    refine d_eff 5 rfl rfl (by kernel_rfl) (e_val (run_to (v' := .tuple #[.nilFunc, .bool false]) (r_lookup2 (wd) Tryz.underlying179 keyStr inf_177 rfl rfl (.head _)) (by rw [hget]; rfl)) rfl ?_)
    refine d_held (.cons _ (.refl _)) ?_
    refine d_valS 6 rfl (by kernel_rfl) (by kernel_rfl) (by kernel_rfl) (.then (.bodyM rfl rfl)) (.cons _ (.refl _)) rfl (r_move rfl) ?_
    refine d_valS 7 rfl (by kernel_rfl) (by kernel_rfl) (by kernel_rfl) (.then (.bodyM rfl rfl)) (.cons _ (.refl _)) rfl (r_extract rfl rfl) ?_
    refine d_valS 8 rfl (by kernel_rfl) (by kernel_rfl) (by kernel_rfl) (.then (.bodyM rfl rfl)) (.cons _ (.refl _)) rfl (r_extract rfl rfl) ?_
    refine d_valS 9 rfl (by kernel_rfl) (by kernel_rfl) (by kernel_rfl) (.then (.bodyM rfl rfl)) (.cons _ (.refl _)) rfl (r_assign rfl) ?_
    refine d_valS 10 rfl (by kernel_rfl) (by kernel_rfl) (by kernel_rfl) (.then (.bodyM rfl rfl)) (.cons _ (.refl _)) rfl (r_assign rfl) ?_
    refine d_end (by kernel_rfl) ?_
    refine Tr.keep (env' := [(4, _), (5, _), (7, _), (8, _)]) ⟨rfl, rfl, rfl, rfl, trivial⟩ ?_
    refine t_then ?_
    refine t_seq ?_
    refine t_seq ?_
    refine t_region ?_
    refine t_val (r_move rfl) rfl ?_
    refine t_val (r_not rfl) rfl ?_
    refine t_nil ?_
    refine Tr.keep (env' := [(4, _), (5, _), (7, _), (30, _)]) ⟨rfl, rfl, rfl, rfl, trivial⟩ ?_
    refine t_then ?_
    refine t_cond_t rfl ?_
    refine t_seq ?_
    refine t_region ?_
    refine t_eff rfl (e_store iz_59 rfl rfl rfl .zero (.there (.there (.there (.there (.there .here))))) ?_)
    refine t_nil ?_
    refine Tr.keep (env' := [(4, _)]) ⟨rfl, trivial⟩ ?_
    refine t_then ?_
    refine t_retc ?_
    refine t_then_ret ?_
    refine t_leave rfl ca_59 rfl en_81 (pk (.there .here) (.refl _)) (rd_m (.tail _ (.tail _ (.tail _ (.tail _ (.head _))))) rfl) clo_ret (fun w hw => ⟨rfl, hw.sub (.cons _ (.cons _ (.cons _ (.cons _ (.cons _ (.refl _))))))⟩)
end
end Go.Proofs.W
set_option linter.unusedVariables false
set_option linter.unusedSimpArgs false
set_option linter.unusedSectionVars false
set_option maxRecDepth 100000
namespace Go.Proofs.W
open Go Go.Sl Go.RowKit Go.Proofs
attribute [local irreducible] Go.Sl.Eff
theorem en_86 : Enters Tryz.prog 86 := enters_of Tryz.func86 (by kernel_rfl) (by kernel_rfl)
theorem iz_76 : (Tryz.prog.info? 76).map (·.size) = some 1 := by kernel_rfl
theorem cells_cline (l : CLine) : l.cells.length = 4 := rfl
section
variable {w0 : World} {M : List Ent}
theorem copied_c {A B : Option Addr} {cA cB : Nat} {cls : Int} {xs : List Int} {ls : List CLine} (hA : SlRd w0 M 1 A xs.length (xs.map encI)) (hB : SlRd w0 M 4 B ls.length (ls.map CLine.cells)) (hnA : A ≠ none) (hnB : B ≠ none) (hx : 0 < xs.length ∧ xs.length ≤ 1000) (hl : 0 < ls.length ∧ ls.length ≤ 1000) :
   ∀ w, Ok w0 M w → Calls Tryz.prog 36 #[.agg #[.int .i64 cls, .slice A xs.length cA, .slice B ls.length cB]] w (fun e w' => ∃ y : Sl3 × Sl3, e = .returned (.agg #[.int .i64 cls, y.1.v xs.length, y.2.v ls.length]) ∧ True ∧
     Ok w0 (cel y.1.b 3 (flat (xs.map encI) ++ y.1.sp) :: cel y.2.b 81 (flat (ls.map CLine.cells) ++ y.2.sp) :: M) w') := by
  refine enter (vs := [_]) Tryz.func36 rfl Tryz.ntmps36 rfl ?_
  refine t_seq ?_
  refine t_region ?_
  refine t_eff rfl (e_box rfl rfl fun b1 => ?_)
  refine t_eff rfl (e_alloc inf_78 (l := [.int .i64 0, .slice none 0 0, .slice none 0 0]) rfl rfl fun b2 => ?_)
  refine t_nil ?_
  refine Tr.keep (env' := [(1, _), (2, _)]) ⟨rfl, rfl, trivial⟩ ?_
  refine t_then ?_
  refine t_seq ?_
  refine k_begin 7 (.cons_cons _ (.cons _ (.refl _))) mixed rfl ?_
  refine k_val1 0 rfl (by kernel_rfl) (by kernel_rfl) (by kernel_rfl) rfl (by kernel_rfl) (.cons_cons _ (.cons _ (.refl _))) (.then .body) (.refl _) rfl (r_fa fo_78_1 rfl) ?_
  refine k_val 1 rfl (by kernel_rfl) (by kernel_rfl) (by kernel_rfl) rfl (by kernel_rfl) (by kernel_rfl) (.then .body) (.refl _) rfl (r_load ca_36 rfl (rd_m (.tail _ (.head _)) rfl)) ?_
  refine k_val1 3 rfl (by kernel_rfl) (by kernel_rfl) (by kernel_rfl) rfl (by kernel_rfl) (.cons_cons _ (.cons _ (.refl _))) (.then .body) (.refl _) rfl (r_fa fo_78_2 rfl) ?_
  refine k_val 4 rfl (by kernel_rfl) (by kernel_rfl) (by kernel_rfl) rfl (by kernel_rfl) (by kernel_rfl) (.then .body) (.refl _) rfl (r_load ca_76 rfl (rd_m (.tail _ (.head _)) rfl)) ?_
  refine k_eff 2 rfl rfl (by kernel_rfl) (e_call en_85 rfl rfl rfl rfl (clone_int_c (hA.sub (.cons _ (.cons _ (.refl _)))) (by simp [encI, Value.oneCell']) (fun h => absurd h hnA) (by omega)) fun x hx => ?_)
  obtain ⟨vSI, ESI⟩ := x
  obtain ⟨hOSI, _⟩ := hx
  obtain ⟨sSI, hv, hE⟩ := own_sl (n := xs.length) hOSI (by simp) (by omega)
  dsimp only at hv hE ⊢
  subst hv hE
  show Tr _ _ _ _ (cel sSI.b 3 (flat (xs.map encI) ++ sSI.sp) :: _) _
  refine k_held1 (by kernel_rfl) (.cons _ (.refl _)) ?_
  refine k_val1 6 rfl (by kernel_rfl) (by kernel_rfl) (by kernel_rfl) rfl (by kernel_rfl) (.cons_cons _ (.cons _ (.refl _))) (.then .body) (.cons _ (.refl _)) rfl (r_fa fo_78_1 rfl) ?_
  refine k_eff 5 rfl rfl (by kernel_rfl) (e_call en_86 rfl rfl rfl rfl (clone_line_c (hB.sub (.cons _ (.cons _ (.cons _ (.refl _))))) (by simp [CLine.cells, Value.oneCell']) (fun h => absurd h hnB) (by omega)) fun x hx => ?_)
  obtain ⟨vSL, ESL⟩ := x
  obtain ⟨hOSL, _⟩ := hx
  obtain ⟨sSL, hv, hE⟩ := own_sl (n := ls.length) hOSL (by simp) (by omega)
  dsimp only at hv hE ⊢
  subst hv hE
  show Tr _ _ _ _ (cel sSL.b 81 (flat (ls.map CLine.cells) ++ sSL.sp) :: _) _
  refine k_held1 (by kernel_rfl) (.cons _ (.cons _ (.refl _))) ?_
  refine k_eff 7 rfl rfl (by kernel_rfl) (e_store iz_36 rfl rfl rfl (.succ .zero) (.there (.there (.there .here))) ?_)
  refine k_held2 (by kernel_rfl) (.cons _ (.cons _ (.cons_cons _ (.cons _ (.refl _))))) ?_
  refine k_eff 8 rfl rfl (by kernel_rfl) (e_val (r_fa fo_78_2 rfl) rfl ?_)
  refine k_held2 (by kernel_rfl) (.cons _ (.cons _ (.cons_cons _ (.cons _ (.refl _))))) ?_
  refine k_eff 9 rfl rfl (by kernel_rfl) (e_store iz_76 rfl rfl rfl (.succ (.succ .zero)) (.there (.there (.there .here))) ?_)
  refine k_held2 (by kernel_rfl) (.cons _ (.cons _ (.cons_cons _ (.cons _ (.refl _))))) ?_
  refine k_end (by kernel_rfl) ?_
  refine Tr.keep (env' := [(1, _), (2, _)]) ⟨rfl, rfl, trivial⟩ ?_
  refine t_then ?_
  refine t_seq ?_
  refine t_region ?_
  refine t_val (r_loads ca_78 rfl (rds_m (n := 3) (vs := [_, _, _]) (.tail _ (.tail _ (.tail _ (.head _)))) rfl) rfl) rfl ?_
  refine t_eff rfl (e_stores iz_78 rfl rfl (vs := [_, _, _]) rfl rfl (by simp [Value.oneCell']) (.cons .zero (.cons (.succ .zero) (.cons (.succ (.succ .zero)) .nil))) (.there (.there .here)) ?_)
  refine t_nil ?_
  refine Tr.keep (env' := [(2, _)]) ⟨rfl, trivial⟩ ?_
  refine t_then ?_
  refine t_retc ?_
  refine t_ret1c rfl ca_78 rfl (rds_m (n := 3) (vs := [_, _, _]) (.tail _ (.tail _ (.head _))) rfl) rfl (fun w hw => ?_)
  exact ⟨(sSI, sSL), rfl, trivial, Ok.sub (hw.perm (pk (.there .here) (pk .here (.refl _)))) (.cons_cons _ (.cons_cons _ (.cons _ (.cons _ (.refl _)))))⟩
end
end Go.Proofs.W
set_option linter.unusedVariables false
set_option linter.unusedSimpArgs false
set_option linter.unusedSectionVars false
set_option maxRecDepth 100000
namespace Go.Proofs.W
open Go Go.Sl Go.RowKit Go.Proofs
attribute [local irreducible] Go.Sl.Eff
theorem en_122 : Enters Tryz.prog 122 := enters_of Tryz.func122 (by kernel_rfl) (by kernel_rfl)
theorem en_36 : Enters Tryz.prog 36 := enters_of Tryz.func36 (by kernel_rfl) (by kernel_rfl)
abbrev cd (s0 : Int) (l0 l1 l2 : CLine) : CardM := ⟨0, [s0], [l0, l1, l2]⟩
abbrev cardOk (l0 l1 l2 : CLine) : Prop := ∀ k, k < 3 → okAt exItems [l0, l1, l2] k = true
section
variable {w0 : World} {M : List Ent}
theorem check3 {a : SAt} {s0 : Int} {l0 l1 l2 : CLine} {y1 y2 : Sl3} (hin : a.In M) (hs : cel y1.b 3 (flat ([s0].map encI) ++ y1.sp) ∈ M) (hl : cel y2.b 81 (flat ([l0, l1, l2].map CLine.cells) ++ y2.sp) ∈ M) (h0 : 0 ≤ s0 ∧ s0 ≤ 100000) :
   ∀ w, Ok w0 M w → Calls Tryz.prog 122 #[.agg a.plan.toArray, .agg #[.int .i64 0, y1.v 1, y2.v 3]] w (fun e w' => e = .returned (.int .i64 (if cardOk l0 l1 l2 then 0 else 2)) ∧ Ok w0 M w') :=
  checkCard_c (items := exItems) (starts := [s0]) (lines := [l0, l1, l2]) (last := ⟨1, 0, 60, false⟩) hin.rItems
    (SlRd.of_cel (T := 3) (sp := y1.sp) hs rfl (by simp [encI]) (by simp)) (SlRd.of_cel (T := 81) (sp := y2.sp) hl rfl (by simp [cells_cline]) (by simp))
    (fun M' hs w hw => scoreCheck_c (hin.sub hs) w hw) (by simp [Value.oneCell']) (by simp) (by decide) (by decide) rfl rfl (by decide) rfl (by simp [timesB, inB]; omega)
theorem write_ok {ea : EvAt} {lv : Value} {Fr : List Ent} {s0 t0 : Int} {l0 l1 l2 k0 k1 k2 : CLine} {f : Nat} {cap : Array Value} (args : Nat → Array Value) (hargs : ∀ b, (#[] ++ [Value.pointer (some ⟨b, 0, none⟩)].toArray ++ cap) = args b) (hev : ea.ev lv ∈ Fr) (hin : ea.sa.In Fr) (he : Enters Tryz.prog f)
   (hchg : ∀ (b : Nat) (s l : Sl3) X, Fr.Sublist X → ∀ w, Ok w0 (cel b 78 [.int .i64 0, s.v 1, l.v 3] :: cel s.b 3 (flat ([s0].map encI) ++ s.sp) :: cel l.b 81 (flat ([l0, l1, l2].map CLine.cells) ++ l.sp) :: X) w →
     Calls Tryz.prog f (args b) w (fun e w' => e = .returned (.tuple #[]) ∧ Ok w0 (cel b 78 [.int .i64 0, s.v 1, l.v 3] :: cel s.b 3 (flat ([t0].map encI) ++ s.sp) :: cel l.b 81 (flat ([k0, k1, k2].map CLine.cells) ++ l.sp) :: X) w'))
   (ht : 0 ≤ t0 ∧ t0 ≤ 100000) (hok : cardOk k0 k1 k2) :
   ∀ w, Ok w0 (ea.ec (cd s0 l0 l1 l2) :: ea.es (cd s0 l0 l1 l2) :: ea.el (cd s0 l0 l1 l2) :: Fr) w → Calls Tryz.prog 217 #[.pointer (some ⟨ea.eb, 0, none⟩), .int .i64 0, .func (.func f) #[] cap] w (fun e w' => ∃ y : Sl3 × Sl3, e = .returned (.tuple #[]) ∧ True ∧ Ok w0 ({ ea with starts := y.1, lines := y.2 }.ec (cd t0 k0 k1 k2) :: { ea with starts := y.1, lines := y.2 }.es (cd t0 k0 k1 k2) :: { ea with starts := y.1, lines := y.2 }.el (cd t0 k0 k1 k2) :: Fr) w') := by
  refine enter (vs := [_, _, _]) Tryz.func217 rfl Tryz.ntmps217 rfl ?_
  refine t_seq ?_
  refine t_region ?_
  refine t_val (r_move rfl) rfl ?_
  refine t_val (r_nilCheck rfl) rfl ?_
  refine t_val (r_fa fo_56_4 rfl) rfl ?_
  refine t_val (r_load ca_54 rfl (rd_m (.tail _ (.tail _ (.tail _ hev))) rfl)) rfl ?_
  refine t_val (r_move rfl) rfl ?_
  refine t_val (r_ia (j := 0) Tryz.underlying54 iz_78 rfl rfl rfl (by decide)) rfl ?_
  refine t_val (r_loads ca_78 rfl (rds_m (n := 3) (vs := [_, _, _]) (.head _) rfl) rfl) rfl ?_
  refine t_eff rfl (e_call en_36 rfl rfl rfl rfl (copied_c (xs := [s0]) (ls := [l0, l1, l2]) (SlRd.of_cel (T := 3) (xs := [s0].map encI) (sp := ea.starts.sp) (.tail _ (.head _)) rfl (by simp [encI]) (by simp)) (SlRd.of_cel (T := 81) (xs := [l0, l1, l2].map CLine.cells) (sp := ea.lines.sp) (.tail _ (.tail _ (.head _))) rfl (by simp [cells_cline]) (by simp)) (by simp) (by simp) (by simp) (by simp)) fun y _ => ?_)
  refine t_eff rfl (e_alloc inf_78 (l := [.int .i64 0, .slice none 0 0, .slice none 0 0]) rfl rfl fun b6 => ?_)
  refine t_eff rfl (e_stores iz_78 rfl rfl (vs := [_, _, _]) rfl rfl (by simp [Value.oneCell']) (.cons .zero (.cons (.succ .zero) (.cons (.succ (.succ .zero)) .nil))) .here ?_)
  refine t_nil ?_
  refine Tr.keep (env' := [(0, _), (1, _), (2, _), (6, _)]) ⟨rfl, rfl, rfl, rfl, trivial⟩ ?_
  refine t_then ?_
  refine t_seq ?_
  refine t_region ?_
  refine t_val (r_move rfl) rfl ?_
  refine t_eff rfl (e_mcall he rfl rfl (hargs b6) rfl (hchg b6 y.1 y.2 _ (.cons _ (.cons _ (.cons _ (.refl _))))) ?_)
  refine t_nil ?_
  refine Tr.keep (env' := [(0, _), (1, _), (6, _)]) ⟨rfl, rfl, rfl, trivial⟩ ?_
  refine t_then ?_
  refine t_seq ?_
  refine d_begin mixed rfl ?_
  refine d_val 0 rfl (by kernel_rfl) (by kernel_rfl) (by kernel_rfl) (.then .body) (.refl _) rfl (r_move rfl) ?_
  refine d_val 1 rfl (by kernel_rfl) (by kernel_rfl) (by kernel_rfl) (.then .body) (.refl _) rfl (r_nilCheck rfl) ?_
  refine d_val 2 rfl (by kernel_rfl) (by kernel_rfl) (by kernel_rfl) (.then .body) (.refl _) rfl (r_fa fo_56_0 rfl) ?_
  refine d_val 3 rfl (by kernel_rfl) (by kernel_rfl) (by kernel_rfl) (.then .body) (.refl _) rfl (r_fa fo_50_3 rfl) ?_
  refine d_val 4 rfl (by kernel_rfl) (by kernel_rfl) (by kernel_rfl) (.then .body) (.refl _) rfl (r_loads ca_45 rfl (rds_m (n := 14) (vs := [_, _, _, _, _, _, _, _, _, _, _, _, _, _]) (.tail _ (.tail _ (.tail _ (.tail _ (.tail _ (.tail _ hev)))))) rfl) rfl) ?_
  refine d_val 5 rfl (by kernel_rfl) (by kernel_rfl) (by kernel_rfl) (.then .body) (.refl _) rfl (r_loads ca_78 rfl (rds_m (n := 3) (vs := [_, _, _]) (.head _) rfl) rfl) ?_
  refine d_eff 6 rfl rfl (by kernel_rfl) (e_pcall en_122 rfl rfl rfl rfl (fun w hw => (check3 (a := ea.sa) (s0 := t0) (l0 := k0) (l1 := k1) (l2 := k2) (y1 := y.1) (y2 := y.2) (hin.sub (.cons _ (.cons _ (.cons _ (.cons _ (.cons _ (.cons _ (.refl _)))))))) (.tail _ (.head _)) (.tail _ (.tail _ (.head _))) ht w hw).mono fun e w' hh => ⟨by rw [hh.1, if_pos hok], hh.2⟩) ?_)
  refine d_held (.refl _) ?_
  refine d_eff 7 rfl rfl (by kernel_rfl) (e_pcall en_212 rfl rfl rfl rfl need_ok ?_)
  refine d_held (.refl _) ?_
  refine d_end (by kernel_rfl) ?_
  refine Tr.keep (env' := [(0, _), (1, _), (6, _)]) ⟨rfl, rfl, rfl, trivial⟩ ?_
  refine t_then ?_
  refine d_beginS (.cons_cons _ (.cons_cons _ (.cons_cons _ (.cons _ (.refl _))))) mixed rfl ?_
  refine d_val 0 rfl (by kernel_rfl) (by kernel_rfl) (by kernel_rfl) .body (.cons_cons _ (.cons_cons _ (.cons_cons _ (.cons _ (.refl _))))) rfl (r_move rfl) ?_
  refine d_val 1 rfl (by kernel_rfl) (by kernel_rfl) (by kernel_rfl) .body (.cons_cons _ (.cons_cons _ (.cons_cons _ (.cons _ (.refl _))))) rfl (r_nilCheck rfl) ?_
  refine d_val 2 rfl (by kernel_rfl) (by kernel_rfl) (by kernel_rfl) .body (.cons_cons _ (.cons_cons _ (.cons_cons _ (.cons _ (.refl _))))) rfl (r_fa fo_56_4 rfl) ?_
  refine d_val 3 rfl (by kernel_rfl) (by kernel_rfl) (by kernel_rfl) .body (.cons_cons _ (.cons_cons _ (.cons_cons _ (.cons _ (.refl _))))) rfl (r_load ca_54 rfl (rd_m (.tail _ (.tail _ (.tail _ (.tail _ (.tail _ hev))))) rfl)) ?_
  refine d_val 4 rfl (by kernel_rfl) (by kernel_rfl) (by kernel_rfl) .body (.cons_cons _ (.cons_cons _ (.cons_cons _ (.cons _ (.refl _))))) rfl (r_move rfl) ?_
  refine d_val 5 rfl (by kernel_rfl) (by kernel_rfl) (by kernel_rfl) .body (.cons_cons _ (.cons_cons _ (.cons_cons _ (.cons _ (.refl _))))) rfl (r_loads ca_78 rfl (rds_m (n := 3) (vs := [_, _, _]) (.head _) rfl) rfl) ?_
  refine d_val 6 rfl (by kernel_rfl) (by kernel_rfl) (by kernel_rfl) .body (.cons_cons _ (.cons_cons _ (.cons_cons _ (.cons _ (.refl _))))) rfl (r_ia (j := 0) Tryz.underlying54 iz_78 rfl rfl rfl (by decide)) ?_
  refine d_eff 7 rfl rfl (by kernel_rfl) (e_stores iz_78 rfl rfl (vs := [_, _, _]) rfl rfl (by simp [Value.oneCell']) (.cons .zero (.cons (.succ .zero) (.cons (.succ (.succ .zero)) .nil))) (.there (.there (.there .here))) ?_)
  refine d_held (.cons_cons _ (.cons_cons _ (.cons_cons _ (.cons _ (.refl _))))) ?_
  refine d_end (by kernel_rfl) ?_
  refine Tr.keep (env' := []) trivial ?_
  refine t_end0 rfl (fun w hw => ?_)
  exact ⟨y, rfl, trivial, Ok.sub (hw.perm (pk (.there (.there (.there .here))) (pk (.there .here) (pk (.there .here) (.refl _))))) (.cons_cons _ (.cons_cons _ (.cons_cons _ (.cons _ (.cons _ (.cons _ (.refl _)))))))⟩
theorem write_no {ea : EvAt} {lv : Value} {Fr : List Ent} {s0 t0 : Int} {l0 l1 l2 k0 k1 k2 : CLine} {f : Nat} {cap : Array Value} (args : Nat → Array Value) (hargs : ∀ b, (#[] ++ [Value.pointer (some ⟨b, 0, none⟩)].toArray ++ cap) = args b) (hev : ea.ev lv ∈ Fr) (hin : ea.sa.In Fr) (he : Enters Tryz.prog f)
   (hchg : ∀ (b : Nat) (s l : Sl3) X, Fr.Sublist X → ∀ w, Ok w0 (cel b 78 [.int .i64 0, s.v 1, l.v 3] :: cel s.b 3 (flat ([s0].map encI) ++ s.sp) :: cel l.b 81 (flat ([l0, l1, l2].map CLine.cells) ++ l.sp) :: X) w →
     Calls Tryz.prog f (args b) w (fun e w' => e = .returned (.tuple #[]) ∧ Ok w0 (cel b 78 [.int .i64 0, s.v 1, l.v 3] :: cel s.b 3 (flat ([t0].map encI) ++ s.sp) :: cel l.b 81 (flat ([k0, k1, k2].map CLine.cells) ++ l.sp) :: X) w'))
   (ht : 0 ≤ t0 ∧ t0 ≤ 100000) (hok : ¬ cardOk k0 k1 k2) :
   ∀ w, Ok w0 (ea.ec (cd s0 l0 l1 l2) :: ea.es (cd s0 l0 l1 l2) :: ea.el (cd s0 l0 l1 l2) :: Fr) w → Calls Tryz.prog 217 #[.pointer (some ⟨ea.eb, 0, none⟩), .int .i64 0, .func (.func f) #[] cap] w (fun e w' => e = .panicked (refused 2) ∧ Ok w0 (ea.ec (cd s0 l0 l1 l2) :: ea.es (cd s0 l0 l1 l2) :: ea.el (cd s0 l0 l1 l2) :: Fr) w') := by
  refine enter (vs := [_, _, _]) Tryz.func217 rfl Tryz.ntmps217 rfl ?_
  refine t_seq ?_
  refine t_region ?_
  refine t_val (r_move rfl) rfl ?_
  refine t_val (r_nilCheck rfl) rfl ?_
  refine t_val (r_fa fo_56_4 rfl) rfl ?_
  refine t_val (r_load ca_54 rfl (rd_m (.tail _ (.tail _ (.tail _ hev))) rfl)) rfl ?_
  refine t_val (r_move rfl) rfl ?_
  refine t_val (r_ia (j := 0) Tryz.underlying54 iz_78 rfl rfl rfl (by decide)) rfl ?_
  refine t_val (r_loads ca_78 rfl (rds_m (n := 3) (vs := [_, _, _]) (.head _) rfl) rfl) rfl ?_
  refine t_eff rfl (e_call en_36 rfl rfl rfl rfl (copied_c (xs := [s0]) (ls := [l0, l1, l2]) (SlRd.of_cel (T := 3) (xs := [s0].map encI) (sp := ea.starts.sp) (.tail _ (.head _)) rfl (by simp [encI]) (by simp)) (SlRd.of_cel (T := 81) (xs := [l0, l1, l2].map CLine.cells) (sp := ea.lines.sp) (.tail _ (.tail _ (.head _))) rfl (by simp [cells_cline]) (by simp)) (by simp) (by simp) (by simp) (by simp)) fun y _ => ?_)
  refine t_eff rfl (e_alloc inf_78 (l := [.int .i64 0, .slice none 0 0, .slice none 0 0]) rfl rfl fun b6 => ?_)
  refine t_eff rfl (e_stores iz_78 rfl rfl (vs := [_, _, _]) rfl rfl (by simp [Value.oneCell']) (.cons .zero (.cons (.succ .zero) (.cons (.succ (.succ .zero)) .nil))) .here ?_)
  refine t_nil ?_
  refine Tr.keep (env' := [(0, _), (1, _), (2, _), (6, _)]) ⟨rfl, rfl, rfl, rfl, trivial⟩ ?_
  refine t_then ?_
  refine t_seq ?_
  refine t_region ?_
  refine t_val (r_move rfl) rfl ?_
  refine t_eff rfl (e_mcall he rfl rfl (hargs b6) rfl (hchg b6 y.1 y.2 _ (.cons _ (.cons _ (.cons _ (.refl _))))) ?_)
  refine t_nil ?_
  refine Tr.keep (env' := [(0, _), (1, _), (6, _)]) ⟨rfl, rfl, rfl, trivial⟩ ?_
  refine t_then ?_
  refine t_seq ?_
  refine d_begin mixed rfl ?_
  refine d_val 0 rfl (by kernel_rfl) (by kernel_rfl) (by kernel_rfl) (.then .body) (.refl _) rfl (r_move rfl) ?_
  refine d_val 1 rfl (by kernel_rfl) (by kernel_rfl) (by kernel_rfl) (.then .body) (.refl _) rfl (r_nilCheck rfl) ?_
  refine d_val 2 rfl (by kernel_rfl) (by kernel_rfl) (by kernel_rfl) (.then .body) (.refl _) rfl (r_fa fo_56_0 rfl) ?_
  refine d_val 3 rfl (by kernel_rfl) (by kernel_rfl) (by kernel_rfl) (.then .body) (.refl _) rfl (r_fa fo_50_3 rfl) ?_
  refine d_val 4 rfl (by kernel_rfl) (by kernel_rfl) (by kernel_rfl) (.then .body) (.refl _) rfl (r_loads ca_45 rfl (rds_m (n := 14) (vs := [_, _, _, _, _, _, _, _, _, _, _, _, _, _]) (.tail _ (.tail _ (.tail _ (.tail _ (.tail _ (.tail _ hev)))))) rfl) rfl) ?_
  refine d_val 5 rfl (by kernel_rfl) (by kernel_rfl) (by kernel_rfl) (.then .body) (.refl _) rfl (r_loads ca_78 rfl (rds_m (n := 3) (vs := [_, _, _]) (.head _) rfl) rfl) ?_
  refine d_eff 6 rfl rfl (by kernel_rfl) (e_pcall en_122 rfl rfl rfl rfl (fun w hw => (check3 (a := ea.sa) (s0 := t0) (l0 := k0) (l1 := k1) (l2 := k2) (y1 := y.1) (y2 := y.2) (hin.sub (.cons _ (.cons _ (.cons _ (.cons _ (.cons _ (.cons _ (.refl _)))))))) (.tail _ (.head _)) (.tail _ (.tail _ (.head _))) ht w hw).mono fun e w' hh => ⟨by rw [hh.1, if_neg hok], hh.2⟩) ?_)
  refine d_held (.refl _) ?_
  refine d_eff 7 rfl rfl (by kernel_rfl) (e_panics en_212 rfl rfl rfl (need_no 2 (by decide)) ?_)
  refine t_then_panic ?_
  exact t_panic_end (fun w hw => ⟨rfl, Ok.sub hw (.cons _ (.cons _ (.cons _ (.refl _))))⟩)
end
end Go.Proofs.W
