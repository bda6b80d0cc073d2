/-
  What functions of the program that RallyChains reaches do, one contract each, part 5.
-/
import Derived.Test.YtkacdmfekjincaaGreatDoorWD
set_option linter.unusedVariables false
set_option linter.unusedSimpArgs false
set_option linter.unusedSectionVars false
set_option maxRecDepth 100000
namespace Go.Proofs.W
open Go Go.Sl Go.RowKit Go.Proofs
theorem en_117 : Enters Tryz.prog 117 := enters_of Tryz.func117 (by kernel_rfl) (by kernel_rfl)
theorem en_189 : Enters Tryz.prog 189 := enters_of Tryz.func189 (by kernel_rfl) (by kernel_rfl)
theorem en_307 : Enters Tryz.prog 307 := enters_of Tryz.func307 (by kernel_rfl) (by kernel_rfl)
theorem inf_36 : (Tryz.prog.info? 36).map (fun i => (i.zero, i.size, i.bytes)) = some (some ((.slice none 0 0)), 1, 24) := by kernel_rfl
def selB (p : Int) (x : IxRep) : Bool := (x.2.1.kind == 1) && (x.2.1.place == p)
theorem own_ints1 {v x : Value} {E : List Ent} (h : Own 3 1 v [[x]] E) : ∃ b c si, v = .slice (some ⟨b, 0, none⟩) 1 c ∧ E = [cel b 3 (x :: si)] := by
  rcases h.sh with ⟨_, h0, _⟩ | ⟨b, c, l, rfl, rfl, h2, h3, h4, h5⟩
  · simp at h0
  · simp at h3 h5
    refine ⟨b, c, l.drop 1, rfl, ?_⟩
    have hl : l = x :: l.drop 1 := by
      conv => lhs; rw [← List.take_append_drop 1 l, h5]
      simp [flat]
    rw [← hl]
section
variable {w0 : World} {M : List Ent}
theorem of_c (vb : Nat) (car : Int) : ∀ w, Ok w0 M w → Calls Tryz.prog 117 #[.pointer (some ⟨vb, 0, none⟩), .int .i64 car] w (fun e w' => ∃ b : Nat × Nat, e = .returned (.func (.func 189) #[] #[.pointer (some ⟨b.1, 0, none⟩), .pointer (some ⟨b.2, 0, none⟩)]) ∧ True ∧
   Ok w0 (cel b.2 3 [.int .i64 car] :: cel b.1 129 [.pointer (some ⟨vb, 0, none⟩)] :: M) w') := by
  refine enter (vs := [_, _]) Tryz.func117 rfl Tryz.ntmps117 rfl ?_
  refine t_seq ?_
  refine t_region ?_
  refine t_eff rfl (e_box1 rfl rfl rfl fun b2 => ?_)
  refine t_eff rfl (e_box1 rfl rfl rfl fun b3 => ?_)
  refine t_val (r_assign rfl) rfl ?_
  refine t_nil ?_
  refine Tr.keep (env' := [(2, _), (3, _)]) ⟨rfl, rfl, trivial⟩ ?_
  refine t_then ?_
  refine t_seq ?_
  refine t_region ?_
  refine t_val (r_makeFunc rfl rfl) rfl ?_
  refine t_val (r_assign rfl) rfl ?_
  refine t_nil ?_
  refine Tr.keep (env' := [(4, _)]) ⟨rfl, trivial⟩ ?_
  refine t_then ?_
  refine t_retc ?_
  refine t_ret1 rfl rfl (fun w hw => ?_)
  exact ⟨(b2, b3), rfl, trivial, hw⟩
theorem least_one {ab c : Nat} {x : Int} {sa : List Value} {F : Value} (ha : cel ab 3 (.int .i64 x :: sa) ∈ M) : ∀ w, Ok w0 M w → Calls Tryz.prog 307 #[.slice (some ⟨ab, 0, none⟩) 1 c, F] w (fun e w' => e = .returned (.tuple #[.int .i64 x, .bool true]) ∧ Ok w0 M w') := by
  refine enter (vs := [_, _]) Tryz.func307 rfl Tryz.ntmps307 rfl ?_
  refine t_seq ?_
  refine t_region ?_
  refine t_val (r_assign rfl) rfl ?_
  refine t_val (r_assign rfl) rfl ?_
  refine t_nil ?_
  refine Tr.keep (env' := [(0, _), (1, _)]) ⟨rfl, rfl, trivial⟩ ?_
  refine t_then ?_
  refine t_seq ?_
  refine t_region ?_
  refine t_val (r_assign rfl) rfl ?_
  refine t_nil ?_
  refine Tr.keep (env' := [(0, _), (1, _), (6, _)]) ⟨rfl, rfl, rfl, trivial⟩ ?_
  refine t_then ?_
  refine t_seq ?_
  refine t_seq ?_
  refine t_region ?_
  refine t_val (r_move rfl) rfl ?_
  refine t_val (r_len_slice Tryz.underlying36 rfl) rfl ?_
  refine t_val (r_move rfl) rfl ?_
  refine t_nil ?_
  refine Tr.keep (env' := [(0, _), (1, _), (6, _), (9, _), (10, _), (11, _)]) ⟨rfl, rfl, rfl, rfl, rfl, rfl, trivial⟩ ?_
  refine t_then ?_
  refine t_block ?_
  refine t_unroll0 ?_
  refine t_unroll ?_
  refine t_seq ?_
  refine t_region ?_
  refine t_val (r_lt rfl rfl) rfl ?_
  refine t_nil ?_
  refine Tr.keep (env' := [(0, _), (1, _), (6, _), (9, _), (10, _), (11, _), (12, _)]) ⟨rfl, rfl, rfl, rfl, rfl, rfl, rfl, trivial⟩ ?_
  refine t_then ?_
  refine t_seq ?_
  refine t_cond_t rfl ?_
  refine t_skip ?_
  refine t_then ?_
  refine t_seq ?_
  refine t_block ?_
  refine t_seq ?_
  refine t_region ?_
  refine t_val (r_move rfl) rfl ?_
  refine t_val (r_ia (j := 0) Tryz.underlying36 iz_3 rfl rfl rfl (by decide)) rfl ?_
  refine t_val (r_load ca_3 rfl (rd_m ha rfl)) rfl ?_
  refine t_val (r_assign rfl) rfl ?_
  refine t_val (r_assign rfl) rfl ?_
  refine t_nil ?_
  refine Tr.keep (env' := [(0, _), (1, _), (6, _), (7, _), (8, _), (9, _), (10, _), (11, _)]) ⟨rfl, rfl, rfl, rfl, rfl, rfl, rfl, rfl, trivial⟩ ?_
  refine t_then ?_
  refine t_seq ?_
  refine t_region ?_
  refine t_val (r_move rfl) rfl ?_
  refine t_val (r_eq rfl rfl) rfl ?_
  refine t_val (r_move rfl) rfl ?_
  refine t_gskip rfl rfl rfl rfl ?_
  refine t_gskip rfl rfl rfl rfl ?_
  refine t_gskip rfl rfl rfl rfl ?_
  refine t_gskip rfl rfl rfl rfl ?_
  refine t_val (r_pick_t rfl rfl) rfl ?_
  refine t_nil ?_
  refine Tr.keep (env' := [(0, _), (1, _), (6, _), (8, _), (9, _), (10, _), (11, _), (23, _)]) ⟨rfl, rfl, rfl, rfl, rfl, rfl, rfl, rfl, trivial⟩ ?_
  refine t_then ?_
  refine t_cond_t rfl ?_
  refine t_region ?_
  refine t_val (r_move rfl) rfl ?_
  refine t_val (r_assign rfl) rfl ?_
  refine t_nil ?_
  refine Tr.keep (env' := [(0, _), (1, _), (6, _), (9, _), (10, _), (11, _)]) ⟨rfl, rfl, rfl, rfl, rfl, rfl, trivial⟩ ?_
  refine t_in ?_
  refine t_then ?_
  refine t_region ?_
  refine t_val (r_addi rfl rfl (by omega)) rfl ?_
  refine t_val (r_move rfl) rfl ?_
  refine t_nil ?_
  refine Tr.keep (env' := [(0, _), (1, _), (6, _), (9, _), (10, _), (11, _)]) ⟨rfl, rfl, rfl, rfl, rfl, rfl, trivial⟩ ?_
  refine t_then ?_
  refine t_unroll ?_
  refine t_seq ?_
  refine t_region ?_
  refine t_val (r_lt rfl rfl) rfl ?_
  refine t_nil ?_
  refine Tr.keep (env' := [(0, _), (1, _), (6, _), (9, _), (10, _), (11, _), (12, _)]) ⟨rfl, rfl, rfl, rfl, rfl, rfl, rfl, trivial⟩ ?_
  refine t_then ?_
  refine t_seq ?_
  refine t_cond_f rfl ?_
  refine t_exit ?_
  refine t_then_exit ?_
  refine t_then_exit ?_
  refine t_in_hit ?_
  refine t_then ?_
  refine t_seq ?_
  refine t_region ?_
  refine t_val (r_move rfl) rfl ?_
  refine t_val (r_move rfl) rfl ?_
  refine t_val (r_len_slice Tryz.underlying36 rfl) rfl ?_
  refine t_val (r_gt rfl rfl) rfl ?_
  refine t_val (r_assign rfl) rfl ?_
  refine t_val (r_assign rfl) rfl ?_
  refine t_nil ?_
  refine Tr.keep (env' := [(4, _), (5, _)]) ⟨rfl, rfl, trivial⟩ ?_
  refine t_then ?_
  refine t_retc ?_
  refine t_ret2 rfl rfl rfl (fun w hw => ?_)
  exact ⟨rfl, hw⟩
theorem best_0 {lb : Nat} (x : VAt) (hv : x.ev lb ∈ M) (hd : x.ed ∈ M) (hi : x.ei ∈ M) : ∀ w, Ok w0 M w → Calls Tryz.prog 278 #[.pointer (some ⟨x.vb, 0, none⟩), .int .i64 1, .int .i64 0] w (fun e w' => e = .returned (.int .i64 0) ∧ Ok w0 M w') := by
  refine enterM (vs := [_, _, _]) Tryz.func278 rfl Tryz.ntmps278 rfl ?_
  refine t_noPanic ?_
  refine t_seq ?_
  refine t_region ?_
  refine t_eff rfl (e_box1 rfl rfl rfl fun b3 => ?_)
  refine t_eff rfl (e_box1 rfl rfl rfl fun b5 => ?_)
  refine t_val (r_assign rfl) rfl ?_
  refine t_nil ?_
  refine Tr.keep (env' := [(1, _), (3, _), (5, _), (6, _)]) ⟨rfl, rfl, rfl, rfl, trivial⟩ ?_
  refine t_then ?_
  refine t_seq ?_
  refine t_region ?_
  refine t_eff rfl (e_alloc inf_36 (l := [.slice none 0 0]) rfl rfl fun b7 => ?_)
  refine t_nil ?_
  refine Tr.keep (env' := [(1, _), (3, _), (5, _), (6, _), (7, _)]) ⟨rfl, rfl, rfl, rfl, rfl, trivial⟩ ?_
  refine t_then ?_
  refine t_seq ?_
  refine t_seq ?_
  refine t_region ?_
  refine t_val (r_load ca_129 rfl (rd_m (.tail _ (.tail _ (.head _))) rfl)) rfl ?_
  refine t_val (r_move rfl) rfl ?_
  refine t_eff rfl (e_call en_117 rfl rfl rfl rfl (of_c _ _) fun bp _ => ?_)
  obtain ⟨bv, bc⟩ := bp
  dsimp only
  refine t_nil ?_
  refine Tr.keep (env' := [(3, _), (5, _), (6, _), (7, _), (14, _)]) ⟨rfl, rfl, rfl, rfl, rfl, trivial⟩ ?_
  refine t_then ?_
  refine t_block ?_
  refine Tr.keep (env' := [(3, _), (5, _), (7, _), (14, _)]) ⟨rfl, rfl, rfl, rfl, trivial⟩ ?_
  refine t_rangeFunc rfl en_189 (encX) (fun _ => rfl) (by decide) ([(0, R1, 2000), (1, R2, 302000)]) (fun pre (z : Value × List Ent) => Own 3 1 z.1 ((pre.filter (selB 0)).map fun y => encI y.1) z.2) (fun z : Value × List Ent => z.2 ++ (cel bc 3 [.int .i64 1] :: cel bv 129 [.pointer (some ⟨x.vb, 0, none⟩)] :: cel b7 36 [z.1] :: cel b5 3 [.int .i64 0] :: cel b3 129 [.pointer (some ⟨x.vb, 0, none⟩)] :: M)) ((.slice none 0 0, [])) (Own.nil _ _) rfl ?_ ?_ ?_
  · exact fun l r Fr hy => of_two (σ := Value × List Ent) (fun _ => (List.mem_append_right _ (.tail _ (.head _)))) (fun _ => (List.mem_append_right _ (.head _))) (fun _ => (List.mem_append_right _ (.tail _ (.tail _ (.tail _ (.tail _ (.tail _ hv))))))) (fun _ => (List.mem_append_right _ (.tail _ (.tail _ (.tail _ (.tail _ (.tail _ hd))))))) (fun _ => (List.mem_append_right _ (.tail _ (.tail _ (.tail _ (.tail _ (.tail _ hi))))))) hy (.slice none 0 0, []) (Own.nil _ _)
  · intro l rr Fr pre y post hx z hz
    obtain ⟨v, E⟩ := z
    dsimp only at hz ⊢
    have hbb : ((pre.filter (selB 0)).map fun y => encI y.1).length ≤ 2 := by
      have h8 := List.length_filter_le (selB 0) pre
      have h9 : pre.length ≤ 2 := by have := congrArg List.length hx; simp at this; omega
      rw [List.length_map]; omega
    refine Tr.keep (env' := [(5, _), (7, _), (15, _), (16, _)]) ⟨rfl, rfl, rfl, rfl, trivial⟩ ?_
    refine i_seq ?_
    refine i_region ?_
    refine i_val (r_assign rfl) rfl ?_
    refine i_nil ?_
    refine Tr.keep (env' := [(5, _), (7, _), (8, _), (15, _), (16, _)]) ⟨rfl, rfl, rfl, rfl, rfl, trivial⟩ ?_
    refine t_then ?_
    refine i_region ?_
    refine i_eff rfl (e_alloc inf_228 (l := [.int .i64 0, .int .i64 0, .int .i64 0, .int .i64 0, .int .i64 0, .int .i64 0, .int .i64 0]) rfl rfl fun b9 => ?_)
    refine i_eff rfl (e_stores iz_228 rfl rfl (vs := [_, _, _, _, _, _, _]) rfl rfl (by simp [Value.oneCell']) (.cons .zero (.cons (.succ .zero) (.cons (.succ (.succ .zero)) (.cons (.succ (.succ (.succ .zero))) (.cons (.succ (.succ (.succ (.succ .zero)))) (.cons (.succ (.succ (.succ (.succ (.succ .zero))))) (.cons (.succ (.succ (.succ (.succ (.succ (.succ .zero)))))) .nil))))))) .here ?_)
    refine i_nil ?_
    refine Tr.keep (env' := [(5, _), (7, _), (8, _), (9, _), (15, _), (16, _)]) ⟨rfl, rfl, rfl, rfl, rfl, rfl, trivial⟩ ?_
    refine t_then ?_
    refine t_begin (.there .here) ?_
    refine i_block ?_
    refine i_seq ?_
    refine i_region ?_
    refine i_val (r_fa fo_228_2 rfl) rfl ?_
    refine i_val (r_load ca_226 rfl (rd_m (.head _) rfl)) rfl ?_
    refine i_val (r_eq rfl rfl) rfl ?_
    refine i_val (r_move rfl) rfl ?_
    apply i_group_and 5 (s := 20) (d := 25) rfl
    · intro hg1 K hK
      refine ig_val hg1 rfl rfl (r_fa fo_228_4 rfl) rfl ?_
      refine ig_val hg1 rfl rfl (r_load ca_3 rfl (rd_m (.head _) rfl)) rfl ?_
      refine ig_val hg1 rfl rfl (r_load ca_3 rfl (rd_m (.tail _ (.tail _ (List.mem_append_right _ (List.mem_append_right _ (.tail _ (.tail _ (.tail _ (.head _)))))))) rfl)) rfl ?_
      refine ig_val hg1 rfl rfl (r_eq rfl rfl) rfl ?_
      refine i_val (rp_t hg1 rfl rfl) rfl ?_
      iterate 4 refine Tr.weak2 rfl ?_
      exact hK _ (and_t hg1)
    · intro hg1 K hK
      refine ig_skip hg1 rfl rfl rfl rfl ?_
      refine ig_skip hg1 rfl rfl rfl rfl ?_
      refine ig_skip hg1 rfl rfl rfl rfl ?_
      refine ig_skip hg1 rfl rfl rfl rfl ?_
      refine i_val (rp_f hg1 rfl rfl) rfl ?_
      iterate 4 refine Tr.weak2 rfl ?_
      exact hK _ (and_f hg1)
    refine i_nil ?_
    refine Tr.keep (env' := [(7, _), (8, _), (25, _)]) ⟨rfl, rfl, rfl, trivial⟩ ?_
    refine t_then ?_
    refine i_cond rfl (fun hc25 => ?_) (fun hc25 => ?_)
    · skip
      refine i_region ?_
      refine i_val (r_load ca_36 rfl (rd_m (.tail _ (.tail _ (List.mem_append_right _ (List.mem_append_right _ (.tail _ (.tail _ (.head _))))))) rfl)) rfl ?_
      refine i_val (r_move rfl) rfl ?_
      refine i_eff rfl (e_buildSlice (E := 3) (l := encI y.1) rfl (fun w => by kernel_rfl) rfl fun b28 => ?_)
      refine i_eff rfl (e_append Tryz.underlying36 inf_3 rfl (by decide) rfl rfl hz (pk .here (pkb (.there (.there (.right .here))) (.refl _))) rfl (by simp [encI, Value.oneCell']) (by omega) (by unfold maxLen; omega) rfl fun v2 E2 hO2 => ?_)
      refine i_eff rfl (e_store iz_36 rfl rfl (Own.one (by assumption)) .zero (.right (.there (.there (.right (.there (.there .here)))))) ?_)
      refine i_nil ?_
      refine Tr.keep (env' := []) trivial ?_
      refine t_in ?_
      refine t_endRound (.right (.there .here)) (fun w hw => ?_)
      have hsel : selB 0 y = true := hc25
      exact ⟨rfl, (v2, E2), by simp only [List.filter_append, List.map_append, List.filter_cons, hsel, if_true, List.filter_nil, List.map_cons, List.map_nil]; exact hO2, Ok.sub (hw.perm (pk (.right (.there .here)) (pkb (.right (.there .here)) (pkb .here (.refl _))))) (.cons_cons _ (List.Sublist.append (.refl _) (List.Sublist.append (.refl _) (.cons _ (.refl _)))))⟩
    · skip
      refine i_skipc ?_
      refine t_in ?_
      refine t_endRound (.there .here) (fun w hw => ?_)
      have hsel : selB 0 y = false := hc25
      exact ⟨rfl, (v, E), by simp only [List.filter_append, List.map_append, List.filter_cons, hsel, if_false, List.filter_nil, List.map_nil, List.append_nil, Bool.false_eq_true]; exact hz, Ok.sub (hw.perm (pk (.there .here) (pkb (.there .here) (pkb (.there .here) (.refl _))))) (.cons_cons _ (List.Sublist.append (.refl _) (List.Sublist.append (.refl _) (.cons _ (.refl _)))))⟩
  · intro D z hz
    obtain ⟨v, E⟩ := z
    obtain ⟨ab, ac, sa, rfl, rfl⟩ := own_ints1 (show Own 3 1 v [[.int .i64 0]] E from hz)
    show Tr w0 _ _ _ (defE D :: cel ab 3 (.int .i64 0 :: sa) :: cel bc 3 [.int .i64 1] :: cel bv 129 [.pointer (some ⟨x.vb, 0, none⟩)] :: cel b7 36 [.slice (some ⟨ab, 0, none⟩) 1 ac] :: cel b5 3 [.int .i64 0] :: cel b3 129 [.pointer (some ⟨x.vb, 0, none⟩)] :: M) _
    refine t_in ?_
    refine t_then ?_
    refine t_seq ?_
    refine t_region ?_
    refine t_val (r_load ca_36 rfl (rd_m (.tail _ (.tail _ (.tail _ (.tail _ (.head _))))) rfl)) rfl ?_
    refine t_val (r_makeFunc rfl rfl) rfl ?_
    refine t_eff rfl (e_pcall en_307 rfl rfl rfl rfl (least_one (.tail _ (.head _))) ?_)
    refine t_val (r_move rfl) rfl ?_
    refine t_val (r_extract rfl rfl) rfl ?_
    refine t_val (r_extract rfl rfl) rfl ?_
    refine t_val (r_assign rfl) rfl ?_
    refine t_val (r_assign rfl) rfl ?_
    refine t_nil ?_
    refine Tr.keep (env' := [(10, _), (11, _)]) ⟨rfl, rfl, trivial⟩ ?_
    refine t_then ?_
    refine t_seq ?_
    refine t_seq ?_
    refine t_region ?_
    refine t_val (r_move rfl) rfl ?_
    refine t_val (r_not rfl) rfl ?_
    refine t_nil ?_
    refine Tr.keep (env' := [(10, _), (37, _)]) ⟨rfl, rfl, trivial⟩ ?_
    refine t_then ?_
    refine t_cond rfl (fun hok => ?_) (fun hok => ?_)
    · cases hok
    · skip
      refine t_skip ?_
      refine t_then ?_
      refine t_seq ?_
      refine t_region ?_
      refine t_val (r_move rfl) rfl ?_
      refine t_val (r_assign rfl) rfl ?_
      refine t_nil ?_
      refine Tr.keep (env' := [(6, _)]) ⟨rfl, trivial⟩ ?_
      refine t_then ?_
      refine t_retc ?_
      refine t_retM1 rfl rfl (pk .here (.refl _)) (fun w hw => ?_)
      exact ⟨rfl, Ok.sub hw (.cons _ (.cons _ (.cons _ (.cons _ (.cons _ (.cons _ (.refl _)))))))⟩
theorem best_1 {lb : Nat} (x : VAt) (hv : x.ev lb ∈ M) (hd : x.ed ∈ M) (hi : x.ei ∈ M) : ∀ w, Ok w0 M w → Calls Tryz.prog 278 #[.pointer (some ⟨x.vb, 0, none⟩), .int .i64 1, .int .i64 1] w (fun e w' => e = .returned (.int .i64 1) ∧ Ok w0 M w') := by
  refine enterM (vs := [_, _, _]) Tryz.func278 rfl Tryz.ntmps278 rfl ?_
  refine t_noPanic ?_
  refine t_seq ?_
  refine t_region ?_
  refine t_eff rfl (e_box1 rfl rfl rfl fun b3 => ?_)
  refine t_eff rfl (e_box1 rfl rfl rfl fun b5 => ?_)
  refine t_val (r_assign rfl) rfl ?_
  refine t_nil ?_
  refine Tr.keep (env' := [(1, _), (3, _), (5, _), (6, _)]) ⟨rfl, rfl, rfl, rfl, trivial⟩ ?_
  refine t_then ?_
  refine t_seq ?_
  refine t_region ?_
  refine t_eff rfl (e_alloc inf_36 (l := [.slice none 0 0]) rfl rfl fun b7 => ?_)
  refine t_nil ?_
  refine Tr.keep (env' := [(1, _), (3, _), (5, _), (6, _), (7, _)]) ⟨rfl, rfl, rfl, rfl, rfl, trivial⟩ ?_
  refine t_then ?_
  refine t_seq ?_
  refine t_seq ?_
  refine t_region ?_
  refine t_val (r_load ca_129 rfl (rd_m (.tail _ (.tail _ (.head _))) rfl)) rfl ?_
  refine t_val (r_move rfl) rfl ?_
  refine t_eff rfl (e_call en_117 rfl rfl rfl rfl (of_c _ _) fun bp _ => ?_)
  obtain ⟨bv, bc⟩ := bp
  dsimp only
  refine t_nil ?_
  refine Tr.keep (env' := [(3, _), (5, _), (6, _), (7, _), (14, _)]) ⟨rfl, rfl, rfl, rfl, rfl, trivial⟩ ?_
  refine t_then ?_
  refine t_block ?_
  refine Tr.keep (env' := [(3, _), (5, _), (7, _), (14, _)]) ⟨rfl, rfl, rfl, rfl, trivial⟩ ?_
  refine t_rangeFunc rfl en_189 (encX) (fun _ => rfl) (by decide) ([(0, R1, 2000), (1, R2, 302000)]) (fun pre (z : Value × List Ent) => Own 3 1 z.1 ((pre.filter (selB 1)).map fun y => encI y.1) z.2) (fun z : Value × List Ent => z.2 ++ (cel bc 3 [.int .i64 1] :: cel bv 129 [.pointer (some ⟨x.vb, 0, none⟩)] :: cel b7 36 [z.1] :: cel b5 3 [.int .i64 1] :: cel b3 129 [.pointer (some ⟨x.vb, 0, none⟩)] :: M)) ((.slice none 0 0, [])) (Own.nil _ _) rfl ?_ ?_ ?_
  · exact fun l r Fr hy => of_two (σ := Value × List Ent) (fun _ => (List.mem_append_right _ (.tail _ (.head _)))) (fun _ => (List.mem_append_right _ (.head _))) (fun _ => (List.mem_append_right _ (.tail _ (.tail _ (.tail _ (.tail _ (.tail _ hv))))))) (fun _ => (List.mem_append_right _ (.tail _ (.tail _ (.tail _ (.tail _ (.tail _ hd))))))) (fun _ => (List.mem_append_right _ (.tail _ (.tail _ (.tail _ (.tail _ (.tail _ hi))))))) hy (.slice none 0 0, []) (Own.nil _ _)
  · intro l rr Fr pre y post hx z hz
    obtain ⟨v, E⟩ := z
    dsimp only at hz ⊢
    have hbb : ((pre.filter (selB 1)).map fun y => encI y.1).length ≤ 2 := by
      have h8 := List.length_filter_le (selB 1) pre
      have h9 : pre.length ≤ 2 := by have := congrArg List.length hx; simp at this; omega
      rw [List.length_map]; omega
    refine Tr.keep (env' := [(5, _), (7, _), (15, _), (16, _)]) ⟨rfl, rfl, rfl, rfl, trivial⟩ ?_
    refine i_seq ?_
    refine i_region ?_
    refine i_val (r_assign rfl) rfl ?_
    refine i_nil ?_
    refine Tr.keep (env' := [(5, _), (7, _), (8, _), (15, _), (16, _)]) ⟨rfl, rfl, rfl, rfl, rfl, trivial⟩ ?_
    refine t_then ?_
    refine i_region ?_
    refine i_eff rfl (e_alloc inf_228 (l := [.int .i64 0, .int .i64 0, .int .i64 0, .int .i64 0, .int .i64 0, .int .i64 0, .int .i64 0]) rfl rfl fun b9 => ?_)
    refine i_eff rfl (e_stores iz_228 rfl rfl (vs := [_, _, _, _, _, _, _]) rfl rfl (by simp [Value.oneCell']) (.cons .zero (.cons (.succ .zero) (.cons (.succ (.succ .zero)) (.cons (.succ (.succ (.succ .zero))) (.cons (.succ (.succ (.succ (.succ .zero)))) (.cons (.succ (.succ (.succ (.succ (.succ .zero))))) (.cons (.succ (.succ (.succ (.succ (.succ (.succ .zero)))))) .nil))))))) .here ?_)
    refine i_nil ?_
    refine Tr.keep (env' := [(5, _), (7, _), (8, _), (9, _), (15, _), (16, _)]) ⟨rfl, rfl, rfl, rfl, rfl, rfl, trivial⟩ ?_
    refine t_then ?_
    refine t_begin (.there .here) ?_
    refine i_block ?_
    refine i_seq ?_
    refine i_region ?_
    refine i_val (r_fa fo_228_2 rfl) rfl ?_
    refine i_val (r_load ca_226 rfl (rd_m (.head _) rfl)) rfl ?_
    refine i_val (r_eq rfl rfl) rfl ?_
    refine i_val (r_move rfl) rfl ?_
    apply i_group_and 5 (s := 20) (d := 25) rfl
    · intro hg1 K hK
      refine ig_val hg1 rfl rfl (r_fa fo_228_4 rfl) rfl ?_
      refine ig_val hg1 rfl rfl (r_load ca_3 rfl (rd_m (.head _) rfl)) rfl ?_
      refine ig_val hg1 rfl rfl (r_load ca_3 rfl (rd_m (.tail _ (.tail _ (List.mem_append_right _ (List.mem_append_right _ (.tail _ (.tail _ (.tail _ (.head _)))))))) rfl)) rfl ?_
      refine ig_val hg1 rfl rfl (r_eq rfl rfl) rfl ?_
      refine i_val (rp_t hg1 rfl rfl) rfl ?_
      iterate 4 refine Tr.weak2 rfl ?_
      exact hK _ (and_t hg1)
    · intro hg1 K hK
      refine ig_skip hg1 rfl rfl rfl rfl ?_
      refine ig_skip hg1 rfl rfl rfl rfl ?_
      refine ig_skip hg1 rfl rfl rfl rfl ?_
      refine ig_skip hg1 rfl rfl rfl rfl ?_
      refine i_val (rp_f hg1 rfl rfl) rfl ?_
      iterate 4 refine Tr.weak2 rfl ?_
      exact hK _ (and_f hg1)
    refine i_nil ?_
    refine Tr.keep (env' := [(7, _), (8, _), (25, _)]) ⟨rfl, rfl, rfl, trivial⟩ ?_
    refine t_then ?_
    refine i_cond rfl (fun hc25 => ?_) (fun hc25 => ?_)
    · skip
      refine i_region ?_
      refine i_val (r_load ca_36 rfl (rd_m (.tail _ (.tail _ (List.mem_append_right _ (List.mem_append_right _ (.tail _ (.tail _ (.head _))))))) rfl)) rfl ?_
      refine i_val (r_move rfl) rfl ?_
      refine i_eff rfl (e_buildSlice (E := 3) (l := encI y.1) rfl (fun w => by kernel_rfl) rfl fun b28 => ?_)
      refine i_eff rfl (e_append Tryz.underlying36 inf_3 rfl (by decide) rfl rfl hz (pk .here (pkb (.there (.there (.right .here))) (.refl _))) rfl (by simp [encI, Value.oneCell']) (by omega) (by unfold maxLen; omega) rfl fun v2 E2 hO2 => ?_)
      refine i_eff rfl (e_store iz_36 rfl rfl (Own.one (by assumption)) .zero (.right (.there (.there (.right (.there (.there .here)))))) ?_)
      refine i_nil ?_
      refine Tr.keep (env' := []) trivial ?_
      refine t_in ?_
      refine t_endRound (.right (.there .here)) (fun w hw => ?_)
      have hsel : selB 1 y = true := hc25
      exact ⟨rfl, (v2, E2), by simp only [List.filter_append, List.map_append, List.filter_cons, hsel, if_true, List.filter_nil, List.map_cons, List.map_nil]; exact hO2, Ok.sub (hw.perm (pk (.right (.there .here)) (pkb (.right (.there .here)) (pkb .here (.refl _))))) (.cons_cons _ (List.Sublist.append (.refl _) (List.Sublist.append (.refl _) (.cons _ (.refl _)))))⟩
    · skip
      refine i_skipc ?_
      refine t_in ?_
      refine t_endRound (.there .here) (fun w hw => ?_)
      have hsel : selB 1 y = false := hc25
      exact ⟨rfl, (v, E), by simp only [List.filter_append, List.map_append, List.filter_cons, hsel, if_false, List.filter_nil, List.map_nil, List.append_nil, Bool.false_eq_true]; exact hz, Ok.sub (hw.perm (pk (.there .here) (pkb (.there .here) (pkb (.there .here) (.refl _))))) (.cons_cons _ (List.Sublist.append (.refl _) (List.Sublist.append (.refl _) (.cons _ (.refl _)))))⟩
  · intro D z hz
    obtain ⟨v, E⟩ := z
    obtain ⟨ab, ac, sa, rfl, rfl⟩ := own_ints1 (show Own 3 1 v [[.int .i64 1]] E from hz)
    show Tr w0 _ _ _ (defE D :: cel ab 3 (.int .i64 1 :: sa) :: cel bc 3 [.int .i64 1] :: cel bv 129 [.pointer (some ⟨x.vb, 0, none⟩)] :: cel b7 36 [.slice (some ⟨ab, 0, none⟩) 1 ac] :: cel b5 3 [.int .i64 1] :: cel b3 129 [.pointer (some ⟨x.vb, 0, none⟩)] :: M) _
    refine t_in ?_
    refine t_then ?_
    refine t_seq ?_
    refine t_region ?_
    refine t_val (r_load ca_36 rfl (rd_m (.tail _ (.tail _ (.tail _ (.tail _ (.head _))))) rfl)) rfl ?_
    refine t_val (r_makeFunc rfl rfl) rfl ?_
    refine t_eff rfl (e_pcall en_307 rfl rfl rfl rfl (least_one (.tail _ (.head _))) ?_)
    refine t_val (r_move rfl) rfl ?_
    refine t_val (r_extract rfl rfl) rfl ?_
    refine t_val (r_extract rfl rfl) rfl ?_
    refine t_val (r_assign rfl) rfl ?_
    refine t_val (r_assign rfl) rfl ?_
    refine t_nil ?_
    refine Tr.keep (env' := [(10, _), (11, _)]) ⟨rfl, rfl, trivial⟩ ?_
    refine t_then ?_
    refine t_seq ?_
    refine t_seq ?_
    refine t_region ?_
    refine t_val (r_move rfl) rfl ?_
    refine t_val (r_not rfl) rfl ?_
    refine t_nil ?_
    refine Tr.keep (env' := [(10, _), (37, _)]) ⟨rfl, rfl, trivial⟩ ?_
    refine t_then ?_
    refine t_cond rfl (fun hok => ?_) (fun hok => ?_)
    · cases hok
    · skip
      refine t_skip ?_
      refine t_then ?_
      refine t_seq ?_
      refine t_region ?_
      refine t_val (r_move rfl) rfl ?_
      refine t_val (r_assign rfl) rfl ?_
      refine t_nil ?_
      refine Tr.keep (env' := [(6, _)]) ⟨rfl, trivial⟩ ?_
      refine t_then ?_
      refine t_retc ?_
      refine t_retM1 rfl rfl (pk .here (.refl _)) (fun w hw => ?_)
      exact ⟨rfl, Ok.sub hw (.cons _ (.cons _ (.cons _ (.cons _ (.cons _ (.cons _ (.refl _)))))))⟩
end
end Go.Proofs.W
set_option linter.unusedVariables false
set_option linter.unusedSimpArgs false
set_option linter.unusedSectionVars false
set_option maxRecDepth 100000
namespace Go.Proofs.W
open Go Go.Sl Go.RowKit Go.Proofs
theorem en_278 : Enters Tryz.prog 278 := enters_of Tryz.func278 (by kernel_rfl) (by kernel_rfl)
theorem en_51 : Enters Tryz.prog 51 := enters_of Tryz.func51 (by kernel_rfl) (by kernel_rfl)
theorem en_52 : Enters Tryz.prog 52 := enters_of Tryz.func52 (by kernel_rfl) (by kernel_rfl)
section
variable {w0 : World} {M : List Ent}
theorem check_ok {g : WLog} {l : WAt} (p : Int) (hb : g.eb l ∈ M) (hf : g.Fine) (hp : 0 ≤ p ∧ p ≤ 1) : ∀ w, Ok w0 M w → Calls Tryz.prog 51 #[.pointer (some ⟨l.b, 0, none⟩), .int .i64 1, .int .i64 p, .int .i64 400000] w
   (fun e w' => e = .returned (.int .i64 0) ∧ Ok w0 M w') := fun w hw => by
  have h := wire_check_c 1 p 400000 hb hf w hw
  have h1 := hf.cars; have h2 := hf.places
  have e1 : inB 1 1 g.cars = true := inB_iff.2 (by omega)
  have e2 : inB p 0 (g.places - 1) = true := inB_iff.2 (by omega)
  rw [e1, e2] at h
  exact h
theorem wire_best_0 {g : WLog} {l : WAt} (hb : g.eb l ∈ M) (hm : g.em l ∈ M) (hf : g.Fine) (hkv : g.kv = [(R1, 2000), (R2, 302000)]) : ∀ w, Ok w0 M w → Calls Tryz.prog 222 #[.pointer (some ⟨l.b, 0, none⟩), .int .i64 1, .int .i64 0, .int .i64 400000] w
      (fun e w' => e = .returned (.tuple #[.int .i64 0, .int .i64 0]) ∧ Ok w0 M w') := by
  refine enter (vs := [_, _, _, _]) Tryz.func222 rfl Tryz.ntmps222 rfl ?_
  refine t_seq ?_
  refine t_region ?_
  refine t_val (r_assign rfl) rfl ?_
  refine t_val (r_assign rfl) rfl ?_
  refine t_nil ?_
  refine Tr.keep (env' := [(0, _), (1, _), (2, _), (3, _)]) ⟨rfl, rfl, rfl, rfl, trivial⟩ ?_
  refine t_then ?_
  refine t_seq ?_
  refine t_seq ?_
  refine t_region ?_
  refine t_val (r_move rfl) rfl ?_
  refine t_val (r_move rfl) rfl ?_
  refine t_val (r_move rfl) rfl ?_
  refine t_val (r_move rfl) rfl ?_
  refine t_eff rfl (e_pcall en_51 rfl rfl rfl rfl (check_ok 0 hb hf (by decide)) ?_)
  refine t_val (r_assign rfl) rfl ?_
  refine t_nil ?_
  refine Tr.keep (env' := [(0, _), (1, _), (2, _), (3, _), (10, _)]) ⟨rfl, rfl, rfl, rfl, rfl, trivial⟩ ?_
  refine t_then ?_
  refine t_seq ?_
  refine t_region ?_
  refine t_val (r_move rfl) rfl ?_
  refine t_val (r_ne rfl rfl) rfl ?_
  refine t_nil ?_
  refine Tr.keep (env' := [(0, _), (1, _), (2, _), (3, _), (10, _), (18, _)]) ⟨rfl, rfl, rfl, rfl, rfl, rfl, trivial⟩ ?_
  refine t_then ?_
  refine t_cond_f rfl ?_
  refine t_skip ?_
  refine t_then ?_
  refine t_seq ?_
  refine t_region ?_
  refine t_val (r_move rfl) rfl ?_
  refine t_val (r_move rfl) rfl ?_
  refine t_eff rfl (e_call en_52 rfl rfl rfl rfl (at_two hb hm hkv) fun x _ => ?_)
  refine t_val (r_move rfl) rfl ?_
  refine t_val (r_move rfl) rfl ?_
  refine t_eff rfl (e_pcall en_278 rfl rfl rfl rfl (best_0 x (.head _) (.tail _ (.head _)) (.tail _ (.tail _ (.head _)))) ?_)
  refine t_val (r_assign rfl) rfl ?_
  refine t_nil ?_
  refine Tr.keep (env' := [(11, _)]) ⟨rfl, trivial⟩ ?_
  refine t_then ?_
  refine t_seq ?_
  refine t_seq ?_
  refine t_region ?_
  refine t_val (r_move rfl) rfl ?_
  refine t_val (r_lt rfl rfl) rfl ?_
  refine t_nil ?_
  refine Tr.keep (env' := [(11, _), (27, _)]) ⟨rfl, rfl, trivial⟩ ?_
  refine t_then ?_
  refine t_cond_f rfl ?_
  refine t_skip ?_
  refine t_then ?_
  refine t_seq ?_
  refine t_region ?_
  refine t_val (r_move rfl) rfl ?_
  refine t_val (r_assign rfl) rfl ?_
  refine t_val (r_assign rfl) rfl ?_
  refine t_nil ?_
  refine Tr.keep (env' := [(8, _), (9, _)]) ⟨rfl, rfl, trivial⟩ ?_
  refine t_then ?_
  refine t_retc ?_
  refine t_ret2 rfl rfl rfl (fun w hw => ?_)
  exact ⟨rfl, Ok.sub hw (.cons _ (.cons _ (.cons _ (.refl _))))⟩
theorem wire_best_1 {g : WLog} {l : WAt} (hb : g.eb l ∈ M) (hm : g.em l ∈ M) (hf : g.Fine) (hkv : g.kv = [(R1, 2000), (R2, 302000)]) : ∀ w, Ok w0 M w → Calls Tryz.prog 222 #[.pointer (some ⟨l.b, 0, none⟩), .int .i64 1, .int .i64 1, .int .i64 400000] w
      (fun e w' => e = .returned (.tuple #[.int .i64 1, .int .i64 0]) ∧ Ok w0 M w') := by
  refine enter (vs := [_, _, _, _]) Tryz.func222 rfl Tryz.ntmps222 rfl ?_
  refine t_seq ?_
  refine t_region ?_
  refine t_val (r_assign rfl) rfl ?_
  refine t_val (r_assign rfl) rfl ?_
  refine t_nil ?_
  refine Tr.keep (env' := [(0, _), (1, _), (2, _), (3, _)]) ⟨rfl, rfl, rfl, rfl, trivial⟩ ?_
  refine t_then ?_
  refine t_seq ?_
  refine t_seq ?_
  refine t_region ?_
  refine t_val (r_move rfl) rfl ?_
  refine t_val (r_move rfl) rfl ?_
  refine t_val (r_move rfl) rfl ?_
  refine t_val (r_move rfl) rfl ?_
  refine t_eff rfl (e_pcall en_51 rfl rfl rfl rfl (check_ok 1 hb hf (by decide)) ?_)
  refine t_val (r_assign rfl) rfl ?_
  refine t_nil ?_
  refine Tr.keep (env' := [(0, _), (1, _), (2, _), (3, _), (10, _)]) ⟨rfl, rfl, rfl, rfl, rfl, trivial⟩ ?_
  refine t_then ?_
  refine t_seq ?_
  refine t_region ?_
  refine t_val (r_move rfl) rfl ?_
  refine t_val (r_ne rfl rfl) rfl ?_
  refine t_nil ?_
  refine Tr.keep (env' := [(0, _), (1, _), (2, _), (3, _), (10, _), (18, _)]) ⟨rfl, rfl, rfl, rfl, rfl, rfl, trivial⟩ ?_
  refine t_then ?_
  refine t_cond_f rfl ?_
  refine t_skip ?_
  refine t_then ?_
  refine t_seq ?_
  refine t_region ?_
  refine t_val (r_move rfl) rfl ?_
  refine t_val (r_move rfl) rfl ?_
  refine t_eff rfl (e_call en_52 rfl rfl rfl rfl (at_two hb hm hkv) fun x _ => ?_)
  refine t_val (r_move rfl) rfl ?_
  refine t_val (r_move rfl) rfl ?_
  refine t_eff rfl (e_pcall en_278 rfl rfl rfl rfl (best_1 x (.head _) (.tail _ (.head _)) (.tail _ (.tail _ (.head _)))) ?_)
  refine t_val (r_assign rfl) rfl ?_
  refine t_nil ?_
  refine Tr.keep (env' := [(11, _)]) ⟨rfl, trivial⟩ ?_
  refine t_then ?_
  refine t_seq ?_
  refine t_seq ?_
  refine t_region ?_
  refine t_val (r_move rfl) rfl ?_
  refine t_val (r_lt rfl rfl) rfl ?_
  refine t_nil ?_
  refine Tr.keep (env' := [(11, _), (27, _)]) ⟨rfl, rfl, trivial⟩ ?_
  refine t_then ?_
  refine t_cond_f rfl ?_
  refine t_skip ?_
  refine t_then ?_
  refine t_seq ?_
  refine t_region ?_
  refine t_val (r_move rfl) rfl ?_
  refine t_val (r_assign rfl) rfl ?_
  refine t_val (r_assign rfl) rfl ?_
  refine t_nil ?_
  refine Tr.keep (env' := [(8, _), (9, _)]) ⟨rfl, rfl, trivial⟩ ?_
  refine t_then ?_
  refine t_retc ?_
  refine t_ret2 rfl rfl rfl (fun w hw => ?_)
  exact ⟨rfl, Ok.sub hw (.cons _ (.cons _ (.cons _ (.refl _))))⟩
end
end Go.Proofs.W
set_option linter.unusedVariables false
set_option linter.unusedSimpArgs false
set_option linter.unusedSectionVars false
set_option maxRecDepth 100000
namespace Go.Proofs.W
open Go Go.Sl Go.RowKit Go.Proofs
theorem ca_105 : cellsAs Tryz.prog 105 = some (none) := by kernel_rfl
theorem ca_79 : cellsAs Tryz.prog 79 = some (none) := by kernel_rfl
theorem en_190 : Enters Tryz.prog 190 := enters_of Tryz.func190 (by kernel_rfl) (by kernel_rfl)
theorem en_248 : Enters Tryz.prog 248 := enters_of Tryz.func248 (by kernel_rfl) (by kernel_rfl)
theorem fo_107_0 : fieldOff Tryz.prog 107 0 = some 0 := by kernel_rfl
theorem fo_81_0 : fieldOff Tryz.prog 81 0 = some 0 := by kernel_rfl
theorem fo_81_1 : fieldOff Tryz.prog 81 1 = some 1 := by kernel_rfl
theorem fo_81_2 : fieldOff Tryz.prog 81 2 = some 2 := by kernel_rfl
theorem fo_81_3 : fieldOff Tryz.prog 81 3 = some 3 := by kernel_rfl
structure SItem where
  kind : Int
  leg : Int
  target : Int
  free : Bool
def SItem.cells (x : SItem) : List Value := [.int .i64 x.kind, .int .i64 x.leg, .int .i64 x.target, .bool x.free]
structure CLine where
  minute : Int
  time : Int
  jump : Bool
  mark : Int
def CLine.cells (l : CLine) : List Value := [.int .i64 l.minute, .int .i64 l.time, .bool l.jump, .int .i64 l.mark]
theorem cells_item (x : SItem) : x.cells.length = 4 := rfl
def timesB (l : List Int) (least many most : Int) : Bool := inB (l.length : Int) least many && !(l.any fun x => !inB x 0 most)
def lineB (x : SItem) (l : CLine) : Bool :=
  bif !inB l.minute 0 100000 || !inB l.time 0 36000000 then false
  else bif l.mark == 0 then ((x.kind == 1) && (l.time == 0) && !l.jump) || (!(x.kind == 1) && decide (0 < l.time))
  else bif l.mark == 1 then !(x.kind == 1) && (l.time == 0)
  else bif l.mark == 2 then (l.minute == 0) && (l.time == 0) && !l.jump
  else false
section
variable {w0 : World} {M : List Ent}
theorem times1_c {b : Nat} {most : Int} (hb : cel b 3 [.int .i64 most] ∈ M) (x : Int) : ∀ w, Ok w0 M w → Calls Tryz.prog 248 #[.int .i64 x, .pointer (some ⟨b, 0, none⟩)] w (fun e w' => e = .returned (.bool (!inB x 0 most)) ∧ Ok w0 M w') := by
  refine enter (vs := [_, _]) Tryz.func248 rfl Tryz.ntmps248 rfl ?_
  refine t_seq ?_
  refine t_region ?_
  refine t_val (r_assign rfl) rfl ?_
  refine t_nil ?_
  refine Tr.keep (env' := [(0, _), (1, _)]) ⟨rfl, rfl, trivial⟩ ?_
  refine t_then ?_
  refine t_seq ?_
  refine t_region ?_
  refine t_val (r_move rfl) rfl ?_
  refine t_val (r_load ca_3 rfl (rd_m hb rfl)) rfl ?_
  refine t_eff rfl (e_pcall en_190 rfl rfl rfl rfl (score_within_c _ _ _) ?_)
  refine t_val (r_not rfl) rfl ?_
  refine t_val (r_assign rfl) rfl ?_
  refine t_nil ?_
  refine Tr.keep (env' := [(3, _)]) ⟨rfl, trivial⟩ ?_
  refine t_then ?_
  refine t_retc ?_
  refine t_ret1 rfl rfl (fun w hw => ?_)
  exact ⟨rfl, hw⟩
theorem times_c {A : Option Addr} {n c : Nat} {xs : List Int} (hs : SlRd w0 M 1 A n (xs.map encI)) (least many most : Int) : ∀ w, Ok w0 M w → Calls Tryz.prog 191 #[.slice A n c, .int .i64 least, .int .i64 many, .int .i64 most] w (fun e w' => e = .returned (.bool (timesB xs least many most)) ∧ Ok w0 M w') := by
  have hn : n = xs.length := by have := hs.len; simpa using this.symm
  subst hn
  refine enter (vs := [_, _, _, _]) Tryz.func191 rfl Tryz.ntmps191 rfl ?_
  refine t_seq ?_
  refine t_region ?_
  refine t_eff rfl (e_box1 rfl rfl rfl fun b7 => ?_)
  refine t_val (r_assign rfl) rfl ?_
  refine t_nil ?_
  refine Tr.keep (env' := [(0, _), (1, _), (2, _), (7, _)]) ⟨rfl, rfl, rfl, rfl, trivial⟩ ?_
  refine t_then ?_
  refine t_seq ?_
  refine t_region ?_
  refine t_val (r_move rfl) rfl ?_
  refine t_val (r_len_slice Tryz.underlying36 rfl) rfl ?_
  refine t_val (r_move rfl) rfl ?_
  refine t_val (r_move rfl) rfl ?_
  refine t_eff rfl (e_pcall en_190 rfl rfl rfl rfl (score_within_c _ _ _) ?_)
  refine t_val (r_move rfl) rfl ?_
  apply t_group_and 5 (s := 14) (d := 19) rfl
  · intro hg1 K hK
    refine g_val hg1 rfl rfl (r_move rfl) rfl ?_
    refine g_val hg1 rfl rfl (r_makeFunc rfl rfl) rfl ?_
    refine g_eff hg1 rfl rfl (e_pcall en_232 rfl rfl rfl rfl (containsFunc_int_c (fun y => !inB (decI y) 0 most) en_248 hs.cons (by
          intro y hy v hv; obtain ⟨x, hx, rfl⟩ := List.mem_map.1 hy
          obtain rfl : v = .int .i64 x := by simpa [encI] using hv.symm
          exact times1_c (.head _) x)) ?_)
    refine g_val hg1 rfl rfl (r_not rfl) rfl ?_
    refine t_val (rp_t hg1 rfl rfl) rfl ?_
    iterate 4 refine Tr.weak2 rfl ?_
    exact hK _ (and_t hg1)
  · intro hg1 K hK
    refine g_skip hg1 rfl rfl rfl rfl ?_
    refine g_skip hg1 rfl rfl rfl rfl ?_
    refine g_skip hg1 rfl rfl rfl rfl ?_
    refine g_skip hg1 rfl rfl rfl rfl ?_
    refine t_val (rp_f hg1 rfl rfl) rfl ?_
    iterate 4 refine Tr.weak2 rfl ?_
    exact hK _ (and_f hg1)
  refine t_val (r_assign rfl) rfl ?_
  refine t_nil ?_
  refine Tr.keep (env' := [(8, _)]) ⟨rfl, trivial⟩ ?_
  refine t_then ?_
  refine t_retc ?_
  refine t_ret1 rfl rfl (fun w hw => ?_)
  refine ⟨?_, Ok.sub hw (List.sublist_cons_self _ _)⟩
  simp [timesB, List.any_map, Function.comp_def]
theorem line_c (x : SItem) (l : CLine) : ∀ w, Ok w0 M w → Calls Tryz.prog 193 #[.agg x.cells.toArray, .agg l.cells.toArray] w (fun e w' => e = .returned (.bool (lineB x l)) ∧ Ok w0 M w') := by
  refine enter (vs := [_, _]) Tryz.func193 rfl Tryz.ntmps193 rfl ?_
  refine t_seq ?_
  refine t_region ?_
  refine t_eff rfl (e_box rfl rfl fun b2 => ?_)
  refine t_eff rfl (e_box rfl rfl fun b3 => ?_)
  refine t_val (r_assign rfl) rfl ?_
  refine t_nil ?_
  refine Tr.keep (env' := [(2, _), (3, _)]) ⟨rfl, rfl, trivial⟩ ?_
  refine t_then ?_
  refine t_seq ?_
  refine t_seq ?_
  refine t_region ?_
  refine t_val (r_fa fo_81_0 rfl) rfl ?_
  refine t_val (r_load ca_3 rfl (rd_m (.head _) rfl)) rfl ?_
  refine t_eff rfl (e_pcall en_190 rfl rfl rfl rfl (score_within_c _ _ _) ?_)
  refine t_val (r_not rfl) rfl ?_
  refine t_val (r_move rfl) rfl ?_
  apply t_group_or 5 (s := 10) (d := 15) rfl
  · intro hg1 K hK
    refine g_val hg1 rfl rfl (r_fa fo_81_1 rfl) rfl ?_
    refine g_val hg1 rfl rfl (r_load ca_3 rfl (rd_m (.head _) rfl)) rfl ?_
    refine g_eff hg1 rfl rfl (e_pcall en_190 rfl rfl rfl rfl (score_within_c _ _ _) ?_)
    refine g_val hg1 rfl rfl (r_not rfl) rfl ?_
    refine t_val (rp_f hg1 rfl rfl) rfl ?_
    iterate 4 refine Tr.weak2 rfl ?_
    exact hK _ (or_f hg1)
  · intro hg1 K hK
    refine g_skip hg1 rfl rfl rfl rfl ?_
    refine g_skip hg1 rfl rfl rfl rfl ?_
    refine g_skip hg1 rfl rfl rfl rfl ?_
    refine g_skip hg1 rfl rfl rfl rfl ?_
    refine t_val (rp_t hg1 rfl rfl) rfl ?_
    iterate 4 refine Tr.weak2 rfl ?_
    exact hK _ (or_t hg1)
  refine t_nil ?_
  refine Tr.keep (env' := [(2, _), (3, _), (15, _)]) ⟨rfl, rfl, rfl, trivial⟩ ?_
  refine t_then ?_
  refine t_cond rfl (fun hv => ?_) (fun hv => ?_)
  · skip
    refine t_seq ?_
    refine t_region ?_
    refine t_val (r_assign rfl) rfl ?_
    refine t_nil ?_
    refine Tr.keep (env' := [(4, _)]) ⟨rfl, trivial⟩ ?_
    refine t_then ?_
    refine t_retc ?_
    refine t_then_ret ?_
    refine t_ret1 rfl rfl (fun w hw => ?_)
    refine ⟨?_, Ok.sub hw (.cons _ (.cons _ (.refl _)))⟩
    unfold lineB; rw [hv]; rfl
  · skip
    refine t_skip ?_
    refine t_then ?_
    refine t_seq ?_
    refine t_region ?_
    refine t_val (r_fa fo_107_0 rfl) rfl ?_
    refine t_val (r_load ca_105 rfl (rd_m (.tail _ (.head _)) rfl)) rfl ?_
    refine t_val (r_eq rfl rfl) rfl ?_
    refine t_val (r_assign rfl) rfl ?_
    refine t_nil ?_
    refine Tr.keep (env' := [(3, _), (5, _)]) ⟨rfl, rfl, trivial⟩ ?_
    refine t_then ?_
    refine t_seq ?_
    refine t_seq ?_
    refine t_region ?_
    refine t_val (r_fa fo_81_3 rfl) rfl ?_
    refine t_val (r_load ca_79 rfl (rd_m (.head _) rfl)) rfl ?_
    refine t_nil ?_
    refine Tr.keep (env' := [(3, _), (5, _), (20, _)]) ⟨rfl, rfl, rfl, trivial⟩ ?_
    refine t_then ?_
    refine t_block ?_
    refine t_seq ?_
    refine t_region ?_
    refine t_val (r_eq rfl rfl) rfl ?_
    refine t_val (r_assign rfl) rfl ?_
    refine t_nil ?_
    refine Tr.keep (env' := [(3, _), (5, _), (20, _), (21, _)]) ⟨rfl, rfl, rfl, rfl, trivial⟩ ?_
    refine t_then ?_
    refine t_cond rfl (fun hc3 => ?_) (fun hc3 => ?_)
    · skip
      refine t_seq ?_
      refine t_region ?_
      refine t_val (r_move rfl) rfl ?_
      refine t_val (r_move rfl) rfl ?_
      apply t_group_and 4 (s := 24) (d := 28) rfl
      · intro hg4 K hK
        refine g_val hg4 rfl rfl (r_fa fo_81_1 rfl) rfl ?_
        refine g_val hg4 rfl rfl (r_load ca_3 rfl (rd_m (.head _) rfl)) rfl ?_
        refine g_val hg4 rfl rfl (r_eq rfl rfl) rfl ?_
        refine t_val (rp_t hg4 rfl rfl) rfl ?_
        iterate 3 refine Tr.weak2 rfl ?_
        exact hK _ (and_t hg4)
      · intro hg4 K hK
        refine g_skip hg4 rfl rfl rfl rfl ?_
        refine g_skip hg4 rfl rfl rfl rfl ?_
        refine g_skip hg4 rfl rfl rfl rfl ?_
        refine t_val (rp_f hg4 rfl rfl) rfl ?_
        iterate 3 refine Tr.weak2 rfl ?_
        exact hK _ (and_f hg4)
      refine t_val (r_move rfl) rfl ?_
      apply t_group_and 4 (s := 29) (d := 33) rfl
      · intro hg5 K hK
        refine g_val hg5 rfl rfl (r_fa fo_81_2 rfl) rfl ?_
        refine g_val hg5 rfl rfl (r_load ca_4 rfl (rd_m (.head _) rfl)) rfl ?_
        refine g_val hg5 rfl rfl (r_not rfl) rfl ?_
        refine t_val (rp_t hg5 rfl rfl) rfl ?_
        iterate 3 refine Tr.weak2 rfl ?_
        exact hK _ (and_t hg5)
      · intro hg5 K hK
        refine g_skip hg5 rfl rfl rfl rfl ?_
        refine g_skip hg5 rfl rfl rfl rfl ?_
        refine g_skip hg5 rfl rfl rfl rfl ?_
        refine t_val (rp_f hg5 rfl rfl) rfl ?_
        iterate 3 refine Tr.weak2 rfl ?_
        exact hK _ (and_f hg5)
      refine t_val (r_move rfl) rfl ?_
      apply t_group_or 8 (s := 34) (d := 42) rfl
      · intro hg6 K hK
        refine g_val hg6 rfl rfl (r_move rfl) rfl ?_
        refine g_val hg6 rfl rfl (r_not rfl) rfl ?_
        refine g_val hg6 rfl rfl (r_move rfl) rfl ?_
        apply t_group_and 4 (s := 37) (d := 41) rfl
        · intro hg7 K hK
          refine g_val hg7 rfl rfl (r_fa fo_81_1 rfl) rfl ?_
          refine g_val hg7 rfl rfl (r_load ca_3 rfl (rd_m (.head _) rfl)) rfl ?_
          refine g_val hg7 rfl rfl (r_gt rfl rfl) rfl ?_
          refine g_val hg6 rfl rfl (rp_t hg7 rfl rfl) rfl ?_
          iterate 3 refine Tr.weak2 rfl ?_
          exact hK _ (and_t hg7)
        · intro hg7 K hK
          refine g_skip hg7 rfl rfl rfl rfl ?_
          refine g_skip hg7 rfl rfl rfl rfl ?_
          refine g_skip hg7 rfl rfl rfl rfl ?_
          refine g_val hg6 rfl rfl (rp_f hg7 rfl rfl) rfl ?_
          iterate 3 refine Tr.weak2 rfl ?_
          exact hK _ (and_f hg7)
        refine t_val (rp_f hg6 rfl rfl) rfl ?_
        iterate 4 refine Tr.weak2 rfl ?_
        exact hK _ (or_f hg6)
      · intro hg6 K hK
        refine g_skip hg6 rfl rfl rfl rfl ?_
        refine g_skip hg6 rfl rfl rfl rfl ?_
        refine g_skip hg6 rfl rfl rfl rfl ?_
        refine t_gskip0 rfl rfl rfl ?_
        refine t_gskip0 rfl rfl rfl ?_
        refine t_gskip0 rfl rfl rfl ?_
        refine g_skip hg6 rfl rfl rfl rfl ?_
        refine t_val (rp_t hg6 rfl rfl) rfl ?_
        iterate 7 refine Tr.weak2 rfl ?_
        exact hK _ (or_t hg6)
      refine t_val (r_assign rfl) rfl ?_
      refine t_nil ?_
      refine Tr.keep (env' := [(4, _)]) ⟨rfl, trivial⟩ ?_
      refine t_then ?_
      refine t_retc ?_
      refine t_in_ret ?_
      refine t_then_ret ?_
      refine t_ret1 rfl rfl (fun w hw => ?_)
      refine ⟨?_, Ok.sub hw (.cons _ (.cons _ (.refl _)))⟩
      unfold lineB; simp_all
    · skip
      refine t_seq ?_
      refine t_region ?_
      refine t_val (r_eq rfl rfl) rfl ?_
      refine t_val (r_assign rfl) rfl ?_
      refine t_nil ?_
      refine Tr.keep (env' := [(3, _), (5, _), (20, _), (43, _)]) ⟨rfl, rfl, rfl, rfl, trivial⟩ ?_
      refine t_then ?_
      refine t_cond rfl (fun hc8 => ?_) (fun hc8 => ?_)
      · skip
        refine t_seq ?_
        refine t_region ?_
        refine t_val (r_move rfl) rfl ?_
        refine t_val (r_not rfl) rfl ?_
        refine t_val (r_move rfl) rfl ?_
        apply t_group_and 4 (s := 47) (d := 51) rfl
        · intro hg9 K hK
          refine g_val hg9 rfl rfl (r_fa fo_81_1 rfl) rfl ?_
          refine g_val hg9 rfl rfl (r_load ca_3 rfl (rd_m (.head _) rfl)) rfl ?_
          refine g_val hg9 rfl rfl (r_eq rfl rfl) rfl ?_
          refine t_val (rp_t hg9 rfl rfl) rfl ?_
          iterate 3 refine Tr.weak2 rfl ?_
          exact hK _ (and_t hg9)
        · intro hg9 K hK
          refine g_skip hg9 rfl rfl rfl rfl ?_
          refine g_skip hg9 rfl rfl rfl rfl ?_
          refine g_skip hg9 rfl rfl rfl rfl ?_
          refine t_val (rp_f hg9 rfl rfl) rfl ?_
          iterate 3 refine Tr.weak2 rfl ?_
          exact hK _ (and_f hg9)
        refine t_val (r_assign rfl) rfl ?_
        refine t_nil ?_
        refine Tr.keep (env' := [(4, _)]) ⟨rfl, trivial⟩ ?_
        refine t_then ?_
        refine t_retc ?_
        refine t_in_ret ?_
        refine t_then_ret ?_
        refine t_ret1 rfl rfl (fun w hw => ?_)
        refine ⟨?_, Ok.sub hw (.cons _ (.cons _ (.refl _)))⟩
        unfold lineB; simp_all
      · skip
        refine t_seq ?_
        refine t_region ?_
        refine t_val (r_eq rfl rfl) rfl ?_
        refine t_val (r_assign rfl) rfl ?_
        refine t_nil ?_
        refine Tr.keep (env' := [(3, _), (52, _)]) ⟨rfl, rfl, trivial⟩ ?_
        refine t_then ?_
        refine t_cond rfl (fun hc10 => ?_) (fun hc10 => ?_)
        · skip
          refine t_seq ?_
          refine t_region ?_
          refine t_val (r_fa fo_81_0 rfl) rfl ?_
          refine t_val (r_load ca_3 rfl (rd_m (.head _) rfl)) rfl ?_
          refine t_val (r_eq rfl rfl) rfl ?_
          refine t_val (r_move rfl) rfl ?_
          apply t_group_and 4 (s := 57) (d := 61) rfl
          · intro hg11 K hK
            refine g_val hg11 rfl rfl (r_fa fo_81_1 rfl) rfl ?_
            refine g_val hg11 rfl rfl (r_load ca_3 rfl (rd_m (.head _) rfl)) rfl ?_
            refine g_val hg11 rfl rfl (r_eq rfl rfl) rfl ?_
            refine t_val (rp_t hg11 rfl rfl) rfl ?_
            iterate 3 refine Tr.weak2 rfl ?_
            exact hK _ (and_t hg11)
          · intro hg11 K hK
            refine g_skip hg11 rfl rfl rfl rfl ?_
            refine g_skip hg11 rfl rfl rfl rfl ?_
            refine g_skip hg11 rfl rfl rfl rfl ?_
            refine t_val (rp_f hg11 rfl rfl) rfl ?_
            iterate 3 refine Tr.weak2 rfl ?_
            exact hK _ (and_f hg11)
          refine t_val (r_move rfl) rfl ?_
          apply t_group_and 4 (s := 62) (d := 66) rfl
          · intro hg12 K hK
            refine g_val hg12 rfl rfl (r_fa fo_81_2 rfl) rfl ?_
            refine g_val hg12 rfl rfl (r_load ca_4 rfl (rd_m (.head _) rfl)) rfl ?_
            refine g_val hg12 rfl rfl (r_not rfl) rfl ?_
            refine t_val (rp_t hg12 rfl rfl) rfl ?_
            iterate 3 refine Tr.weak2 rfl ?_
            exact hK _ (and_t hg12)
          · intro hg12 K hK
            refine g_skip hg12 rfl rfl rfl rfl ?_
            refine g_skip hg12 rfl rfl rfl rfl ?_
            refine g_skip hg12 rfl rfl rfl rfl ?_
            refine t_val (rp_f hg12 rfl rfl) rfl ?_
            iterate 3 refine Tr.weak2 rfl ?_
            exact hK _ (and_f hg12)
          refine t_val (r_assign rfl) rfl ?_
          refine t_nil ?_
          refine Tr.keep (env' := [(4, _)]) ⟨rfl, trivial⟩ ?_
          refine t_then ?_
          refine t_retc ?_
          refine t_in_ret ?_
          refine t_then_ret ?_
          refine t_ret1 rfl rfl (fun w hw => ?_)
          refine ⟨?_, Ok.sub hw (.cons _ (.cons _ (.refl _)))⟩
          unfold lineB; simp_all
        · skip
          refine t_skip ?_
          refine t_in ?_
          refine t_then ?_
          refine t_seq ?_
          refine t_region ?_
          refine t_val (r_assign rfl) rfl ?_
          refine t_nil ?_
          refine Tr.keep (env' := [(4, _)]) ⟨rfl, trivial⟩ ?_
          refine t_then ?_
          refine t_retc ?_
          refine t_ret1 rfl rfl (fun w hw => ?_)
          refine ⟨?_, Ok.sub hw (.cons _ (.cons _ (.refl _)))⟩
          unfold lineB; simp_all
end
end Go.Proofs.W
set_option linter.unusedVariables false
set_option linter.unusedSimpArgs false
set_option linter.unusedSectionVars false
set_option maxRecDepth 100000
namespace Go.Proofs.W
open Go Go.Sl Go.RowKit Go.Proofs
theorem ca_40 : cellsAs Tryz.prog 40 = some (none) := by kernel_rfl
theorem ca_45 : cellsAs Tryz.prog 45 = some (some 14) := by kernel_rfl
theorem ca_76 : cellsAs Tryz.prog 76 = some (none) := by kernel_rfl
theorem ca_81 : cellsAs Tryz.prog 81 = some (some 4) := by kernel_rfl
theorem en_119 : Enters Tryz.prog 119 := enters_of Tryz.func119 (by kernel_rfl) (by kernel_rfl)
theorem en_191 : Enters Tryz.prog 191 := enters_of Tryz.func191 (by kernel_rfl) (by kernel_rfl)
theorem en_193 : Enters Tryz.prog 193 := enters_of Tryz.func193 (by kernel_rfl) (by kernel_rfl)
theorem fo_107_1 : fieldOff Tryz.prog 107 1 = some 1 := by kernel_rfl
theorem fo_45_0 : fieldOff Tryz.prog 45 0 = some 0 := by kernel_rfl
theorem fo_45_1 : fieldOff Tryz.prog 45 1 = some 1 := by kernel_rfl
theorem fo_78_0 : fieldOff Tryz.prog 78 0 = some 0 := by kernel_rfl
theorem fo_78_1 : fieldOff Tryz.prog 78 1 = some 1 := by kernel_rfl
theorem fo_78_2 : fieldOff Tryz.prog 78 2 = some 2 := by kernel_rfl
theorem iz_81 : (Tryz.prog.info? 81).map (·.size) = some 4 := by kernel_rfl
def missB (items : List SItem) (lines : List CLine) (k : Nat) : Bool :=
  match k with
  | 0 => false
  | j + 1 => (match lines[j]?, items[j]?, items[j + 1]? with
    | some l, some x, some y => (l.mark == 2) && (x.leg == y.leg)
    | _, _, _ => false)
def okAt (items : List SItem) (lines : List CLine) (k : Nat) : Bool :=
  match items[k]?, lines[k]? with
  | some x, some l => lineB x l && !(missB items lines k && l.mark != 2)
  | _, _ => true
theorem okbool {a b : Bool} (h : (!a || b) = false) : (a && !b) = true := by cases a <;> cases b <;> simp_all
theorem notok {a b : Bool} (h : (!a || b) = true) (h2 : (a && !b) = true) : False := by cases a <;> cases b <;> simp_all
section
variable {w0 : World} {M : List Ent}
theorem checkCard_c {A B C : Option Addr} {ci cs cl2 : Nat} {cls cl : Int} {r0 r1 r2 r3 r4 r5 r6 r7 r8 r9 r10 r11 : Value} {items : List SItem} {starts : List Int} {lines : List CLine} {last : SItem}
   (hI : SlRd w0 M 4 A items.length (items.map SItem.cells)) (hS : SlRd w0 M 1 B starts.length (starts.map encI)) (hL : SlRd w0 M 4 C lines.length (lines.map CLine.cells))
   (hchk : ∀ M', M.Sublist M' → ∀ w, Ok w0 M' w → Calls Tryz.prog 119 #[.agg #[.slice A items.length ci, .int .i64 cls, r0, r1, r2, r3, r4, r5, r6, r7, r8, r9, r10, r11]] w (fun e w' => e = .returned (.int .i64 0) ∧ Ok w0 M' w'))
   (h1 : ∀ u ∈ [r0, r1, r2, r3, r4, r5, r6, r7, r8, r9, r10, r11], u.oneCell' = true) (hne : items ≠ []) (hcls : inB cl 0 (cls - 1) = true) (hclb : 1 ≤ cls ∧ cls ≤ 20) (hlen : lines.length = items.length) (hlast : items[items.length - 1]? = some last) (hlb : 0 ≤ last.leg ∧ last.leg ≤ 6) (hst : (starts.length : Int) = last.leg + 1) (htm : timesB starts 1 6 100000 = true) :
   ∀ w, Ok w0 M w → Calls Tryz.prog 122 #[.agg #[.slice A items.length ci, .int .i64 cls, r0, r1, r2, r3, r4, r5, r6, r7, r8, r9, r10, r11], .agg #[.int .i64 cl, .slice B starts.length cs, .slice C lines.length cl2]] w (fun e w' => e = .returned (.int .i64 (if ∀ k, k < items.length → okAt items lines k = true then 0 else 2)) ∧ Ok w0 M w') := by
  have hI' := hI.at' (by rw [List.length_pos_iff]; exact hne)
  obtain ⟨bi, oi, hA, hri⟩ := hI'
  obtain ⟨bl, ol, hC, hrl⟩ := hL.at' (by rw [hlen, List.length_pos_iff]; exact hne)
  have hpos : 0 < items.length := List.length_pos_iff.2 hne
  have gi : ∀ (j : Nat) (x : SItem), items[j]? = some x → (items.map SItem.cells)[j]? = some x.cells := fun j x h => by simp [h]
  have gl : ∀ (j : Nat) (x : CLine), lines[j]? = some x → (lines.map CLine.cells)[j]? = some x.cells := fun j x h => by simp [h]
  have hbI := hI.big; have hbL := hL.big
  refine enter (vs := [_, _]) Tryz.func122 rfl Tryz.ntmps122 rfl ?_
  refine t_seq ?_
  refine t_region ?_
  refine t_eff rfl (e_box rfl rfl fun b2 => ?_)
  refine t_eff rfl (e_box rfl rfl fun b3 => ?_)
  refine t_val (r_assign rfl) rfl ?_
  refine t_nil ?_
  refine Tr.keep (env' := [(2, _), (3, _)]) ⟨rfl, rfl, trivial⟩ ?_
  refine t_then ?_
  refine t_seq ?_
  refine t_seq ?_
  refine d_begin mixed rfl ?_
  refine d_val 0 rfl (by kernel_rfl) (by kernel_rfl) (by kernel_rfl) (.then (.then .body)) (.refl _) rfl (r_loads ca_45 rfl (rds_m (n := 14) (vs := [_, _, _, _, _, _, _, _, _, _, _, _, _, _]) (.tail _ (.head _)) rfl) rfl) ?_
  refine d_eff 1 rfl rfl (by kernel_rfl) (e_pcall en_119 rfl rfl rfl rfl (hchk _ (.cons _ (.cons _ (.refl _)))) ?_)
  refine d_held (.refl _) ?_
  refine d_val 2 rfl (by kernel_rfl) (by kernel_rfl) (by kernel_rfl) (.then (.then .body)) (.refl _) rfl (r_ne rfl rfl) ?_
  refine d_val 3 rfl (by kernel_rfl) (by kernel_rfl) (by kernel_rfl) (.then (.then .body)) (.refl _) rfl (r_move rfl) ?_
  refine d_gval 4 rfl (by kernel_rfl) (by kernel_rfl) (by kernel_rfl) (.then (.then .body)) (.refl _) rfl rfl rfl (r_fa fo_78_0 rfl) ?_
  refine d_gval 5 rfl (by kernel_rfl) (by kernel_rfl) (by kernel_rfl) (.then (.then .body)) (.refl _) rfl rfl rfl (r_load ca_3 rfl (rd_m (.head _) rfl)) ?_
  refine d_gval 6 rfl (by kernel_rfl) (by kernel_rfl) (by kernel_rfl) (.then (.then .body)) (.refl _) rfl rfl rfl (r_fa fo_45_1 rfl) ?_
  refine d_gval 7 rfl (by kernel_rfl) (by kernel_rfl) (by kernel_rfl) (.then (.then .body)) (.refl _) rfl rfl rfl (r_load ca_3 rfl (rd_m (.tail _ (.head _)) rfl)) ?_
  refine d_gval 8 rfl (by kernel_rfl) (by kernel_rfl) (by kernel_rfl) (.then (.then .body)) (.refl _) rfl rfl rfl (r_subi rfl rfl (by omega)) ?_
  refine d_geff 9 rfl (by kernel_rfl) rfl rfl (e_pcall en_190 rfl rfl rfl rfl (score_within_c _ _ _) ?_)
  refine d_held (.refl _) ?_
  refine d_gval 10 rfl (by kernel_rfl) (by kernel_rfl) (by kernel_rfl) (.then (.then .body)) (.refl _) rfl rfl rfl (run_to (v' := .bool false) (r_not rfl) (by rw [hcls]; rfl)) ?_
  refine d_val 11 rfl (by kernel_rfl) (by kernel_rfl) (by kernel_rfl) (.then (.then .body)) (.refl _) rfl (r_pick_f rfl rfl) ?_
  refine d_val 12 rfl (by kernel_rfl) (by kernel_rfl) (by kernel_rfl) (.then (.then .body)) (.refl _) rfl (r_move rfl) ?_
  refine d_gval 13 rfl (by kernel_rfl) (by kernel_rfl) (by kernel_rfl) (.then (.then .body)) (.refl _) rfl rfl rfl (r_fa fo_78_2 rfl) ?_
  refine d_gval 14 rfl (by kernel_rfl) (by kernel_rfl) (by kernel_rfl) (.then (.then .body)) (.refl _) rfl rfl rfl (r_load ca_76 rfl (rd_m (.head _) rfl)) ?_
  refine d_gval 15 rfl (by kernel_rfl) (by kernel_rfl) (by kernel_rfl) (.then (.then .body)) (.refl _) rfl rfl rfl (r_len_slice Tryz.underlying76 rfl) ?_
  refine d_gval 16 rfl (by kernel_rfl) (by kernel_rfl) (by kernel_rfl) (.then (.then .body)) (.refl _) rfl rfl rfl (r_fa fo_45_0 rfl) ?_
  refine d_gval 17 rfl (by kernel_rfl) (by kernel_rfl) (by kernel_rfl) (.then (.then .body)) (.refl _) rfl rfl rfl (r_load ca_40 rfl (rd_m (.tail _ (.head _)) rfl)) ?_
  refine d_gval 18 rfl (by kernel_rfl) (by kernel_rfl) (by kernel_rfl) (.then (.then .body)) (.refl _) rfl rfl rfl (r_len_slice Tryz.underlying40 rfl) ?_
  refine d_gval 19 rfl (by kernel_rfl) (by kernel_rfl) (by kernel_rfl) (.then (.then .body)) (.refl _) rfl rfl rfl (run_to (v' := .bool false) (r_ne rfl rfl) (by rw [hlen]; simp)) ?_
  refine d_val 20 rfl (by kernel_rfl) (by kernel_rfl) (by kernel_rfl) (.then (.then .body)) (.refl _) rfl (r_pick_f rfl rfl) ?_
  refine d_val 21 rfl (by kernel_rfl) (by kernel_rfl) (by kernel_rfl) (.then (.then .body)) (.refl _) rfl (r_move rfl) ?_
  refine d_gval 22 rfl (by kernel_rfl) (by kernel_rfl) (by kernel_rfl) (.then (.then .body)) (.refl _) rfl rfl rfl (r_fa fo_78_1 rfl) ?_
  refine d_gval 23 rfl (by kernel_rfl) (by kernel_rfl) (by kernel_rfl) (.then (.then .body)) (.refl _) rfl rfl rfl (r_load ca_36 rfl (rd_m (.head _) rfl)) ?_
  refine d_gval 24 rfl (by kernel_rfl) (by kernel_rfl) (by kernel_rfl) (.then (.then .body)) (.refl _) rfl rfl rfl (r_len_slice Tryz.underlying36 rfl) ?_
  refine d_gval 25 rfl (by kernel_rfl) (by kernel_rfl) (by kernel_rfl) (.then (.then .body)) (.refl _) rfl rfl rfl (r_fa fo_45_0 rfl) ?_
  refine d_gval 26 rfl (by kernel_rfl) (by kernel_rfl) (by kernel_rfl) (.then (.then .body)) (.refl _) rfl rfl rfl (r_load ca_40 rfl (rd_m (.tail _ (.head _)) rfl)) ?_
  refine d_gval 27 rfl (by kernel_rfl) (by kernel_rfl) (by kernel_rfl) (.then (.then .body)) (.refl _) rfl rfl rfl (r_fa fo_45_0 rfl) ?_
  refine d_gval 28 rfl (by kernel_rfl) (by kernel_rfl) (by kernel_rfl) (.then (.then .body)) (.refl _) rfl rfl rfl (r_load ca_40 rfl (rd_m (.tail _ (.head _)) rfl)) ?_
  refine d_gval 29 rfl (by kernel_rfl) (by kernel_rfl) (by kernel_rfl) (.then (.then .body)) (.refl _) rfl rfl rfl (r_len_slice Tryz.underlying40 rfl) ?_
  refine d_gval 30 rfl (by kernel_rfl) (by kernel_rfl) (by kernel_rfl) (.then (.then .body)) (.refl _) rfl rfl rfl (r_subi rfl rfl (by omega)) ?_
  refine d_gval 31 rfl (by kernel_rfl) (by kernel_rfl) (by kernel_rfl) (.then (.then .body)) (.refl _) rfl rfl rfl (r_ia_s (items.length - 1) Tryz.underlying40 iz_107 hA rfl rfl (by omega) (by omega)) ?_
  refine d_gval 32 rfl (by kernel_rfl) (by kernel_rfl) (by kernel_rfl) (.then (.then .body)) (.refl _) rfl rfl rfl (r_fa fo_107_1 rfl) ?_
  refine d_gval 33 rfl (by kernel_rfl) (by kernel_rfl) (by kernel_rfl) (.then (.then .body)) (.refl _) rfl rfl rfl (r_load ca_3 rfl (Rd.sub (hri (items.length - 1) _ (gi _ _ hlast) 1 _ rfl) (.cons _ (.cons _ (.refl _))))) ?_
  refine d_gval 34 rfl (by kernel_rfl) (by kernel_rfl) (by kernel_rfl) (.then (.then .body)) (.refl _) rfl rfl rfl (r_addi rfl rfl (by omega)) ?_
  refine d_gval 35 rfl (by kernel_rfl) (by kernel_rfl) (by kernel_rfl) (.then (.then .body)) (.refl _) rfl rfl rfl (run_to (v' := .bool false) (r_ne rfl rfl) (by rw [hst]; simp)) ?_
  refine d_val 36 rfl (by kernel_rfl) (by kernel_rfl) (by kernel_rfl) (.then (.then .body)) (.refl _) rfl (r_pick_f rfl rfl) ?_
  refine d_val 37 rfl (by kernel_rfl) (by kernel_rfl) (by kernel_rfl) (.then (.then .body)) (.refl _) rfl (r_move rfl) ?_
  refine d_gval 38 rfl (by kernel_rfl) (by kernel_rfl) (by kernel_rfl) (.then (.then .body)) (.refl _) rfl rfl rfl (r_fa fo_78_1 rfl) ?_
  refine d_gval 39 rfl (by kernel_rfl) (by kernel_rfl) (by kernel_rfl) (.then (.then .body)) (.refl _) rfl rfl rfl (r_load ca_36 rfl (rd_m (.head _) rfl)) ?_
  refine d_geff 40 rfl (by kernel_rfl) rfl rfl (e_pcall en_191 rfl rfl rfl rfl (times_c (hS.sub (.cons _ (.cons _ (.refl _)))) 1 6 100000) ?_)
  refine d_held (.refl _) ?_
  refine d_gval 41 rfl (by kernel_rfl) (by kernel_rfl) (by kernel_rfl) (.then (.then .body)) (.refl _) rfl rfl rfl (run_to (v' := .bool false) (r_not rfl) (by rw [htm]; rfl)) ?_
  refine d_val 42 rfl (by kernel_rfl) (by kernel_rfl) (by kernel_rfl) (.then (.then .body)) (.refl _) rfl (r_pick_f rfl rfl) ?_
  refine d_end (by kernel_rfl) ?_
  refine Tr.keep (env' := [(2, _), (3, _), (50, _)]) ⟨rfl, rfl, rfl, trivial⟩ ?_
  refine t_then ?_
  refine t_cond_f rfl ?_
  refine t_skip ?_
  refine t_then ?_
  refine t_seq ?_
  refine t_seq ?_
  refine t_region ?_
  refine t_val (r_fa fo_78_2 rfl) rfl ?_
  refine t_val (r_load ca_76 rfl (rd_m (.head _) rfl)) rfl ?_
  refine t_val (r_len_slice Tryz.underlying76 rfl) rfl ?_
  refine t_val (r_move rfl) rfl ?_
  refine t_nil ?_
  refine Tr.keep (env' := [(2, _), (3, _), (52, _), (53, _), (54, _)]) ⟨rfl, rfl, rfl, rfl, rfl, trivial⟩ ?_
  refine t_then ?_
  refine t_block ?_
  refine t_loop (fun k : Nat => [(2, .pointer (some ⟨b2, 0, none⟩)), (3, .pointer (some ⟨b3, 0, none⟩)), (52, .slice C lines.length cl2), (53, .int .i64 (lines.length : Int)), (54, .int .i64 (k : Int))]) (fun k : Nat => cel b3 78 [.int .i64 cl, .slice B starts.length cs, .slice C lines.length cl2] :: cel b2 45 [.slice A items.length ci, .int .i64 cls, r0, r1, r2, r3, r4, r5, r6, r7, r8, r9, r10, r11] :: M) (fun k : Nat => k ≤ items.length ∧ ∀ j, j < k → okAt items lines j = true) (fun k : Nat => items.length - k) 0 ⟨by omega, by omega⟩ ⟨rfl, rfl, rfl, rfl, rfl, trivial⟩ (.refl _) ?_
  intro K k ⟨hk, hp⟩ IH
  refine t_seq ?_
  refine t_region ?_
  refine t_val (r_lt rfl rfl) rfl ?_
  refine t_nil ?_
  refine Tr.keep (env' := [(2, _), (3, _), (52, _), (53, _), (54, _), (55, _)]) ⟨rfl, rfl, rfl, rfl, rfl, rfl, trivial⟩ ?_
  refine t_then ?_
  refine t_seq ?_
  refine t_cond rfl (fun hc1 => ?_) (fun hc1 => ?_)
  · have hlt : k < items.length := by have := of_decide_eq_true hc1; omega
    obtain ⟨x, hx⟩ : ∃ x, items[k]? = some x := ⟨_, List.getElem?_eq_getElem hlt⟩
    obtain ⟨l, hl⟩ : ∃ l, lines[k]? = some l := ⟨_, List.getElem?_eq_getElem (by omega)⟩
    obtain ⟨xp, hxp⟩ : ∃ x, items[k - 1]? = some x := ⟨_, List.getElem?_eq_getElem (by omega)⟩
    obtain ⟨lp, hlp⟩ : ∃ l, lines[k - 1]? = some l := ⟨_, List.getElem?_eq_getElem (by omega)⟩
    have hms : missB items lines k = (decide (0 < (k : Int)) && (lp.mark == 2) && (xp.leg == x.leg)) := by
      cases k with
      | zero => simp [missB]
      | succ j => simp at hxp hlp; simp [missB, hxp, hlp, hx]
    refine t_skip ?_
    refine t_then ?_
    refine t_seq ?_
    refine t_block ?_
    refine t_seq ?_
    refine t_region ?_
    refine t_val (r_move rfl) rfl ?_
    refine t_val (r_ia_s (k) Tryz.underlying76 iz_81 hC rfl rfl rfl (by omega)) rfl ?_
    refine t_val (r_loads ca_81 rfl (fun j v hv => Rd.sub (hrl k _ (gl _ _ hl) j v hv) (.cons _ (.cons _ (.refl _)))) rfl) rfl ?_
    refine t_eff rfl (e_alloc inf_81 (l := [.int .i64 0, .int .i64 0, .bool false, .int .i64 0]) rfl rfl fun b6 => ?_)
    refine t_val (r_assign rfl) rfl ?_
    refine t_eff rfl (e_stores iz_81 rfl rfl (vs := [_, _, _, _]) rfl rfl (by simp [Value.oneCell']) (.cons .zero (.cons (.succ .zero) (.cons (.succ (.succ .zero)) (.cons (.succ (.succ (.succ .zero))) .nil)))) .here ?_)
    refine t_nil ?_
    refine Tr.keep (env' := [(2, _), (3, _), (5, _), (6, _), (52, _), (53, _), (54, _)]) ⟨rfl, rfl, rfl, rfl, rfl, rfl, rfl, trivial⟩ ?_
    refine t_then ?_
    refine t_seq ?_
    refine Tr.keep (env' := [(2, _), (3, _), (5, _), (6, _), (52, _), (53, _), (54, _)]) ⟨rfl, rfl, rfl, rfl, rfl, rfl, rfl, trivial⟩ ?_
    refine t_cutu [(7, .bool (decide (0 < (k : Int)) && (lp.mark == 2) && (xp.leg == x.leg)))] (fun K hK => ?_) ?_
    · skip
      refine d_begin mixed rfl ?_
      refine d_val 0 rfl (by kernel_rfl) (by kernel_rfl) (by kernel_rfl) (.then (.then (.inBlock (.then (.then (.inBlock (.then .body))))))) (.refl _) rfl (r_move rfl) ?_
      refine d_val 1 rfl (by kernel_rfl) (by kernel_rfl) (by kernel_rfl) (.then (.then (.inBlock (.then (.then (.inBlock (.then .body))))))) (.refl _) rfl (r_gt rfl rfl) ?_
      refine d_val 2 rfl (by kernel_rfl) (by kernel_rfl) (by kernel_rfl) (.then (.then (.inBlock (.then (.then (.inBlock (.then .body))))))) (.refl _) rfl (r_move rfl) ?_
      refine t_cases_at (s := 61) rfl (fun hd2 => ?_) (fun hd2 => ?_)
      · skip
        refine dg_val 3 hd2 rfl (by kernel_rfl) (by kernel_rfl) (by kernel_rfl) (.then (.then (.inBlock (.then (.then (.inBlock (.then .body))))))) (.refl _) rfl rfl rfl (r_fa fo_78_2 rfl) ?_
        refine dg_val 4 hd2 rfl (by kernel_rfl) (by kernel_rfl) (by kernel_rfl) (.then (.then (.inBlock (.then (.then (.inBlock (.then .body))))))) (.refl _) rfl rfl rfl (r_load ca_76 rfl (rd_m (.tail _ (.head _)) rfl)) ?_
        refine dg_val 5 hd2 rfl (by kernel_rfl) (by kernel_rfl) (by kernel_rfl) (.then (.then (.inBlock (.then (.then (.inBlock (.then .body))))))) (.refl _) rfl rfl rfl (r_move rfl) ?_
        refine dg_val 6 hd2 rfl (by kernel_rfl) (by kernel_rfl) (by kernel_rfl) (.then (.then (.inBlock (.then (.then (.inBlock (.then .body))))))) (.refl _) rfl rfl rfl (r_subi rfl rfl (by omega)) ?_
        refine dg_val 7 hd2 rfl (by kernel_rfl) (by kernel_rfl) (by kernel_rfl) (.then (.then (.inBlock (.then (.then (.inBlock (.then .body))))))) (.refl _) rfl rfl rfl (r_ia_s (k - 1) Tryz.underlying76 iz_81 hC rfl rfl (by have := of_decide_eq_true hd2; omega) (by omega)) ?_
        refine dg_val 8 hd2 rfl (by kernel_rfl) (by kernel_rfl) (by kernel_rfl) (.then (.then (.inBlock (.then (.then (.inBlock (.then .body))))))) (.refl _) rfl rfl rfl (r_fa fo_81_3 rfl) ?_
        refine dg_val 9 hd2 rfl (by kernel_rfl) (by kernel_rfl) (by kernel_rfl) (.then (.then (.inBlock (.then (.then (.inBlock (.then .body))))))) (.refl _) rfl rfl rfl (r_load ca_79 rfl (Rd.sub (hrl (k - 1) _ (gl _ _ hlp) 3 _ rfl) (.cons _ (.cons _ (.cons _ (.refl _)))))) ?_
        refine dg_val 10 hd2 rfl (by kernel_rfl) (by kernel_rfl) (by kernel_rfl) (.then (.then (.inBlock (.then (.then (.inBlock (.then .body))))))) (.refl _) rfl rfl rfl (r_eq rfl rfl) ?_
        refine d_val 11 rfl (by kernel_rfl) (by kernel_rfl) (by kernel_rfl) (.then (.then (.inBlock (.then (.then (.inBlock (.then .body))))))) (.refl _) rfl (rp_t hd2 rfl rfl) ?_
        refine d_val 12 rfl (by kernel_rfl) (by kernel_rfl) (by kernel_rfl) (.then (.then (.inBlock (.then (.then (.inBlock (.then .body))))))) (.refl _) rfl (r_move rfl) ?_
        refine t_cases_at (s := 71) rfl (fun hd3 => ?_) (fun hd3 => ?_)
        · skip
          refine dg_val 13 hd3 rfl (by kernel_rfl) (by kernel_rfl) (by kernel_rfl) (.then (.then (.inBlock (.then (.then (.inBlock (.then .body))))))) (.refl _) rfl rfl rfl (r_fa fo_45_0 rfl) ?_
          refine dg_val 14 hd3 rfl (by kernel_rfl) (by kernel_rfl) (by kernel_rfl) (.then (.then (.inBlock (.then (.then (.inBlock (.then .body))))))) (.refl _) rfl rfl rfl (r_load ca_40 rfl (rd_m (.tail _ (.tail _ (.head _))) rfl)) ?_
          refine dg_val 15 hd3 rfl (by kernel_rfl) (by kernel_rfl) (by kernel_rfl) (.then (.then (.inBlock (.then (.then (.inBlock (.then .body))))))) (.refl _) rfl rfl rfl (r_move rfl) ?_
          refine dg_val 16 hd3 rfl (by kernel_rfl) (by kernel_rfl) (by kernel_rfl) (.then (.then (.inBlock (.then (.then (.inBlock (.then .body))))))) (.refl _) rfl rfl rfl (r_subi rfl rfl (by omega)) ?_
          refine dg_val 17 hd3 rfl (by kernel_rfl) (by kernel_rfl) (by kernel_rfl) (.then (.then (.inBlock (.then (.then (.inBlock (.then .body))))))) (.refl _) rfl rfl rfl (r_ia_s (k - 1) Tryz.underlying40 iz_107 hA rfl rfl (by have := of_decide_eq_true hd2; omega) (by omega)) ?_
          refine dg_val 18 hd3 rfl (by kernel_rfl) (by kernel_rfl) (by kernel_rfl) (.then (.then (.inBlock (.then (.then (.inBlock (.then .body))))))) (.refl _) rfl rfl rfl (r_fa fo_107_1 rfl) ?_
          refine dg_val 19 hd3 rfl (by kernel_rfl) (by kernel_rfl) (by kernel_rfl) (.then (.then (.inBlock (.then (.then (.inBlock (.then .body))))))) (.refl _) rfl rfl rfl (r_load ca_3 rfl (Rd.sub (hri (k - 1) _ (gi _ _ hxp) 1 _ rfl) (.cons _ (.cons _ (.cons _ (.refl _)))))) ?_
          refine dg_val 20 hd3 rfl (by kernel_rfl) (by kernel_rfl) (by kernel_rfl) (.then (.then (.inBlock (.then (.then (.inBlock (.then .body))))))) (.refl _) rfl rfl rfl (r_fa fo_45_0 rfl) ?_
          refine dg_val 21 hd3 rfl (by kernel_rfl) (by kernel_rfl) (by kernel_rfl) (.then (.then (.inBlock (.then (.then (.inBlock (.then .body))))))) (.refl _) rfl rfl rfl (r_load ca_40 rfl (rd_m (.tail _ (.tail _ (.head _))) rfl)) ?_
          refine dg_val 22 hd3 rfl (by kernel_rfl) (by kernel_rfl) (by kernel_rfl) (.then (.then (.inBlock (.then (.then (.inBlock (.then .body))))))) (.refl _) rfl rfl rfl (r_move rfl) ?_
          refine dg_val 23 hd3 rfl (by kernel_rfl) (by kernel_rfl) (by kernel_rfl) (.then (.then (.inBlock (.then (.then (.inBlock (.then .body))))))) (.refl _) rfl rfl rfl (r_ia_s (k) Tryz.underlying40 iz_107 hA rfl rfl rfl (by omega)) ?_
          refine dg_val 24 hd3 rfl (by kernel_rfl) (by kernel_rfl) (by kernel_rfl) (.then (.then (.inBlock (.then (.then (.inBlock (.then .body))))))) (.refl _) rfl rfl rfl (r_fa fo_107_1 rfl) ?_
          refine dg_val 25 hd3 rfl (by kernel_rfl) (by kernel_rfl) (by kernel_rfl) (.then (.then (.inBlock (.then (.then (.inBlock (.then .body))))))) (.refl _) rfl rfl rfl (r_load ca_3 rfl (Rd.sub (hri k _ (gi _ _ hx) 1 _ rfl) (.cons _ (.cons _ (.cons _ (.refl _)))))) ?_
          refine dg_val 26 hd3 rfl (by kernel_rfl) (by kernel_rfl) (by kernel_rfl) (.then (.then (.inBlock (.then (.then (.inBlock (.then .body))))))) (.refl _) rfl rfl rfl (r_eq rfl rfl) ?_
          refine d_val 27 rfl (by kernel_rfl) (by kernel_rfl) (by kernel_rfl) (.then (.then (.inBlock (.then (.then (.inBlock (.then .body))))))) (.refl _) rfl (rp_t hd3 rfl rfl) ?_
          refine d_val 28 rfl (by kernel_rfl) (by kernel_rfl) (by kernel_rfl) (.then (.then (.inBlock (.then (.then (.inBlock (.then .body))))))) (.refl _) rfl (r_assign rfl) ?_
          refine d_end (by kernel_rfl) ?_
          exact t_thenK hK ⟨(by first | (simp [Env.get, hd2, hd3]; done) | exact absurd hd2 (by decide) | exact absurd hd3 (by decide) | (simp_all [Env.get]; done)), rfl, rfl, rfl, rfl, rfl, rfl, rfl, trivial⟩ (.refl _)
        · skip
          refine dg_skip 13 hd3 rfl (by kernel_rfl) (by kernel_rfl) (by kernel_rfl) (.then (.then (.inBlock (.then (.then (.inBlock (.then .body))))))) (.refl _) rfl rfl rfl rfl ?_
          refine dg_skip 14 hd3 rfl (by kernel_rfl) (by kernel_rfl) (by kernel_rfl) (.then (.then (.inBlock (.then (.then (.inBlock (.then .body))))))) (.refl _) rfl rfl rfl rfl ?_
          refine dg_skip 15 hd3 rfl (by kernel_rfl) (by kernel_rfl) (by kernel_rfl) (.then (.then (.inBlock (.then (.then (.inBlock (.then .body))))))) (.refl _) rfl rfl rfl rfl ?_
          refine dg_skip 16 hd3 rfl (by kernel_rfl) (by kernel_rfl) (by kernel_rfl) (.then (.then (.inBlock (.then (.then (.inBlock (.then .body))))))) (.refl _) rfl rfl rfl rfl ?_
          refine dg_skip 17 hd3 rfl (by kernel_rfl) (by kernel_rfl) (by kernel_rfl) (.then (.then (.inBlock (.then (.then (.inBlock (.then .body))))))) (.refl _) rfl rfl rfl rfl ?_
          refine dg_skip 18 hd3 rfl (by kernel_rfl) (by kernel_rfl) (by kernel_rfl) (.then (.then (.inBlock (.then (.then (.inBlock (.then .body))))))) (.refl _) rfl rfl rfl rfl ?_
          refine dg_skip 19 hd3 rfl (by kernel_rfl) (by kernel_rfl) (by kernel_rfl) (.then (.then (.inBlock (.then (.then (.inBlock (.then .body))))))) (.refl _) rfl rfl rfl rfl ?_
          refine dg_skip 20 hd3 rfl (by kernel_rfl) (by kernel_rfl) (by kernel_rfl) (.then (.then (.inBlock (.then (.then (.inBlock (.then .body))))))) (.refl _) rfl rfl rfl rfl ?_
          refine dg_skip 21 hd3 rfl (by kernel_rfl) (by kernel_rfl) (by kernel_rfl) (.then (.then (.inBlock (.then (.then (.inBlock (.then .body))))))) (.refl _) rfl rfl rfl rfl ?_
          refine dg_skip 22 hd3 rfl (by kernel_rfl) (by kernel_rfl) (by kernel_rfl) (.then (.then (.inBlock (.then (.then (.inBlock (.then .body))))))) (.refl _) rfl rfl rfl rfl ?_
          refine dg_skip 23 hd3 rfl (by kernel_rfl) (by kernel_rfl) (by kernel_rfl) (.then (.then (.inBlock (.then (.then (.inBlock (.then .body))))))) (.refl _) rfl rfl rfl rfl ?_
          refine dg_skip 24 hd3 rfl (by kernel_rfl) (by kernel_rfl) (by kernel_rfl) (.then (.then (.inBlock (.then (.then (.inBlock (.then .body))))))) (.refl _) rfl rfl rfl rfl ?_
          refine dg_skip 25 hd3 rfl (by kernel_rfl) (by kernel_rfl) (by kernel_rfl) (.then (.then (.inBlock (.then (.then (.inBlock (.then .body))))))) (.refl _) rfl rfl rfl rfl ?_
          refine dg_skip 26 hd3 rfl (by kernel_rfl) (by kernel_rfl) (by kernel_rfl) (.then (.then (.inBlock (.then (.then (.inBlock (.then .body))))))) (.refl _) rfl rfl rfl rfl ?_
          refine d_val 27 rfl (by kernel_rfl) (by kernel_rfl) (by kernel_rfl) (.then (.then (.inBlock (.then (.then (.inBlock (.then .body))))))) (.refl _) rfl (rp_f hd3 rfl rfl) ?_
          refine d_val 28 rfl (by kernel_rfl) (by kernel_rfl) (by kernel_rfl) (.then (.then (.inBlock (.then (.then (.inBlock (.then .body))))))) (.refl _) rfl (r_assign rfl) ?_
          refine d_end (by kernel_rfl) ?_
          exact t_thenK hK ⟨(by first | (simp [Env.get, hd2, hd3]; done) | exact absurd hd2 (by decide) | exact absurd hd3 (by decide) | (simp_all [Env.get]; done)), rfl, rfl, rfl, rfl, rfl, rfl, rfl, trivial⟩ (.refl _)
      · skip
        refine dg_skip 3 hd2 rfl (by kernel_rfl) (by kernel_rfl) (by kernel_rfl) (.then (.then (.inBlock (.then (.then (.inBlock (.then .body))))))) (.refl _) rfl rfl rfl rfl ?_
        refine dg_skip 4 hd2 rfl (by kernel_rfl) (by kernel_rfl) (by kernel_rfl) (.then (.then (.inBlock (.then (.then (.inBlock (.then .body))))))) (.refl _) rfl rfl rfl rfl ?_
        refine dg_skip 5 hd2 rfl (by kernel_rfl) (by kernel_rfl) (by kernel_rfl) (.then (.then (.inBlock (.then (.then (.inBlock (.then .body))))))) (.refl _) rfl rfl rfl rfl ?_
        refine dg_skip 6 hd2 rfl (by kernel_rfl) (by kernel_rfl) (by kernel_rfl) (.then (.then (.inBlock (.then (.then (.inBlock (.then .body))))))) (.refl _) rfl rfl rfl rfl ?_
        refine dg_skip 7 hd2 rfl (by kernel_rfl) (by kernel_rfl) (by kernel_rfl) (.then (.then (.inBlock (.then (.then (.inBlock (.then .body))))))) (.refl _) rfl rfl rfl rfl ?_
        refine dg_skip 8 hd2 rfl (by kernel_rfl) (by kernel_rfl) (by kernel_rfl) (.then (.then (.inBlock (.then (.then (.inBlock (.then .body))))))) (.refl _) rfl rfl rfl rfl ?_
        refine dg_skip 9 hd2 rfl (by kernel_rfl) (by kernel_rfl) (by kernel_rfl) (.then (.then (.inBlock (.then (.then (.inBlock (.then .body))))))) (.refl _) rfl rfl rfl rfl ?_
        refine dg_skip 10 hd2 rfl (by kernel_rfl) (by kernel_rfl) (by kernel_rfl) (.then (.then (.inBlock (.then (.then (.inBlock (.then .body))))))) (.refl _) rfl rfl rfl rfl ?_
        refine d_val 11 rfl (by kernel_rfl) (by kernel_rfl) (by kernel_rfl) (.then (.then (.inBlock (.then (.then (.inBlock (.then .body))))))) (.refl _) rfl (rp_f hd2 rfl rfl) ?_
        refine d_val 12 rfl (by kernel_rfl) (by kernel_rfl) (by kernel_rfl) (.then (.then (.inBlock (.then (.then (.inBlock (.then .body))))))) (.refl _) rfl (r_move rfl) ?_
        refine d_gskip 13 rfl (by kernel_rfl) (by kernel_rfl) (by kernel_rfl) (.then (.then (.inBlock (.then (.then (.inBlock (.then .body))))))) (.refl _) rfl rfl rfl rfl ?_
        refine d_gskip 14 rfl (by kernel_rfl) (by kernel_rfl) (by kernel_rfl) (.then (.then (.inBlock (.then (.then (.inBlock (.then .body))))))) (.refl _) rfl rfl rfl rfl ?_
        refine d_gskip 15 rfl (by kernel_rfl) (by kernel_rfl) (by kernel_rfl) (.then (.then (.inBlock (.then (.then (.inBlock (.then .body))))))) (.refl _) rfl rfl rfl rfl ?_
        refine d_gskip 16 rfl (by kernel_rfl) (by kernel_rfl) (by kernel_rfl) (.then (.then (.inBlock (.then (.then (.inBlock (.then .body))))))) (.refl _) rfl rfl rfl rfl ?_
        refine d_gskip 17 rfl (by kernel_rfl) (by kernel_rfl) (by kernel_rfl) (.then (.then (.inBlock (.then (.then (.inBlock (.then .body))))))) (.refl _) rfl rfl rfl rfl ?_
        refine d_gskip 18 rfl (by kernel_rfl) (by kernel_rfl) (by kernel_rfl) (.then (.then (.inBlock (.then (.then (.inBlock (.then .body))))))) (.refl _) rfl rfl rfl rfl ?_
        refine d_gskip 19 rfl (by kernel_rfl) (by kernel_rfl) (by kernel_rfl) (.then (.then (.inBlock (.then (.then (.inBlock (.then .body))))))) (.refl _) rfl rfl rfl rfl ?_
        refine d_gskip 20 rfl (by kernel_rfl) (by kernel_rfl) (by kernel_rfl) (.then (.then (.inBlock (.then (.then (.inBlock (.then .body))))))) (.refl _) rfl rfl rfl rfl ?_
        refine d_gskip 21 rfl (by kernel_rfl) (by kernel_rfl) (by kernel_rfl) (.then (.then (.inBlock (.then (.then (.inBlock (.then .body))))))) (.refl _) rfl rfl rfl rfl ?_
        refine d_gskip 22 rfl (by kernel_rfl) (by kernel_rfl) (by kernel_rfl) (.then (.then (.inBlock (.then (.then (.inBlock (.then .body))))))) (.refl _) rfl rfl rfl rfl ?_
        refine d_gskip 23 rfl (by kernel_rfl) (by kernel_rfl) (by kernel_rfl) (.then (.then (.inBlock (.then (.then (.inBlock (.then .body))))))) (.refl _) rfl rfl rfl rfl ?_
        refine d_gskip 24 rfl (by kernel_rfl) (by kernel_rfl) (by kernel_rfl) (.then (.then (.inBlock (.then (.then (.inBlock (.then .body))))))) (.refl _) rfl rfl rfl rfl ?_
        refine d_gskip 25 rfl (by kernel_rfl) (by kernel_rfl) (by kernel_rfl) (.then (.then (.inBlock (.then (.then (.inBlock (.then .body))))))) (.refl _) rfl rfl rfl rfl ?_
        refine d_gskip 26 rfl (by kernel_rfl) (by kernel_rfl) (by kernel_rfl) (.then (.then (.inBlock (.then (.then (.inBlock (.then .body))))))) (.refl _) rfl rfl rfl rfl ?_
        refine d_val 27 rfl (by kernel_rfl) (by kernel_rfl) (by kernel_rfl) (.then (.then (.inBlock (.then (.then (.inBlock (.then .body))))))) (.refl _) rfl (r_pick_f rfl rfl) ?_
        refine d_val 28 rfl (by kernel_rfl) (by kernel_rfl) (by kernel_rfl) (.then (.then (.inBlock (.then (.then (.inBlock (.then .body))))))) (.refl _) rfl (r_assign rfl) ?_
        refine d_end (by kernel_rfl) ?_
        exact t_thenK hK ⟨(by first | (simp [Env.get, hd2]; done) | exact absurd hd2 (by decide) | (simp_all [Env.get]; done)), rfl, rfl, rfl, rfl, rfl, rfl, rfl, trivial⟩ (.refl _)
    refine Tr.keep (env' := [(2, _), (3, _), (5, _), (6, _), (7, _), (52, _), (53, _), (54, _)]) ⟨rfl, rfl, rfl, rfl, rfl, rfl, rfl, rfl, trivial⟩ ?_
    refine t_then ?_
    refine t_seq ?_
    refine Tr.keep (env' := [(2, _), (3, _), (5, _), (6, _), (7, _), (52, _), (53, _), (54, _)]) ⟨rfl, rfl, rfl, rfl, rfl, rfl, rfl, rfl, trivial⟩ ?_
    refine t_cutu [(102, .bool (!lineB x l || (decide (0 < (k : Int)) && (lp.mark == 2) && (xp.leg == x.leg) && (l.mark != 2))))] (fun K hK => ?_) ?_
    · skip
      refine d_begin mixed rfl ?_
      refine d_val 0 rfl (by kernel_rfl) (by kernel_rfl) (by kernel_rfl) (.then (.then (.inBlock (.then (.then (.inBlock (.then .body))))))) (.refl _) rfl (r_fa fo_45_0 rfl) ?_
      refine d_val 1 rfl (by kernel_rfl) (by kernel_rfl) (by kernel_rfl) (.then (.then (.inBlock (.then (.then (.inBlock (.then .body))))))) (.refl _) rfl (r_load ca_40 rfl (rd_m (.tail _ (.tail _ (.head _))) rfl)) ?_
      refine d_val 2 rfl (by kernel_rfl) (by kernel_rfl) (by kernel_rfl) (.then (.then (.inBlock (.then (.then (.inBlock (.then .body))))))) (.refl _) rfl (r_move rfl) ?_
      refine d_val 3 rfl (by kernel_rfl) (by kernel_rfl) (by kernel_rfl) (.then (.then (.inBlock (.then (.then (.inBlock (.then .body))))))) (.refl _) rfl (r_ia_s (k) Tryz.underlying40 iz_107 hA rfl rfl rfl (by omega)) ?_
      refine d_val 4 rfl (by kernel_rfl) (by kernel_rfl) (by kernel_rfl) (.then (.then (.inBlock (.then (.then (.inBlock (.then .body))))))) (.refl _) rfl (r_loads ca_107 rfl (fun j v hv => Rd.sub (hri k _ (gi _ _ hx) j v hv) (.cons _ (.cons _ (.cons _ (.refl _))))) rfl) ?_
      refine d_val 5 rfl (by kernel_rfl) (by kernel_rfl) (by kernel_rfl) (.then (.then (.inBlock (.then (.then (.inBlock (.then .body))))))) (.refl _) rfl (r_loads ca_81 rfl (rds_m (n := 4) (vs := [_, _, _, _]) (.head _) rfl) rfl) ?_
      refine d_eff 6 rfl rfl (by kernel_rfl) (e_pcall en_193 rfl rfl rfl rfl (line_c x l) ?_)
      refine d_held (.refl _) ?_
      refine d_val 7 rfl (by kernel_rfl) (by kernel_rfl) (by kernel_rfl) (.then (.then (.inBlock (.then (.then (.inBlock (.then .body))))))) (.refl _) rfl (r_not rfl) ?_
      refine d_val 8 rfl (by kernel_rfl) (by kernel_rfl) (by kernel_rfl) (.then (.then (.inBlock (.then (.then (.inBlock (.then .body))))))) (.refl _) rfl (r_move rfl) ?_
      refine t_cases_at (s := 95) rfl (fun hd4 => ?_) (fun hd4 => ?_)
      · skip
        refine dg_skip 9 hd4 rfl (by kernel_rfl) (by kernel_rfl) (by kernel_rfl) (.then (.then (.inBlock (.then (.then (.inBlock (.then .body))))))) (.refl _) rfl rfl rfl rfl ?_
        refine dg_skip 10 hd4 rfl (by kernel_rfl) (by kernel_rfl) (by kernel_rfl) (.then (.then (.inBlock (.then (.then (.inBlock (.then .body))))))) (.refl _) rfl rfl rfl rfl ?_
        refine d_gskip0 11 rfl (by kernel_rfl) (by kernel_rfl) (by kernel_rfl) (.then (.then (.inBlock (.then (.then (.inBlock (.then .body))))))) (.refl _) rfl rfl rfl ?_
        refine d_gskip0 12 rfl (by kernel_rfl) (by kernel_rfl) (by kernel_rfl) (.then (.then (.inBlock (.then (.then (.inBlock (.then .body))))))) (.refl _) rfl rfl rfl ?_
        refine d_gskip0 13 rfl (by kernel_rfl) (by kernel_rfl) (by kernel_rfl) (.then (.then (.inBlock (.then (.then (.inBlock (.then .body))))))) (.refl _) rfl rfl rfl ?_
        refine dg_skip 14 hd4 rfl (by kernel_rfl) (by kernel_rfl) (by kernel_rfl) (.then (.then (.inBlock (.then (.then (.inBlock (.then .body))))))) (.refl _) rfl rfl rfl rfl ?_
        refine d_val 15 rfl (by kernel_rfl) (by kernel_rfl) (by kernel_rfl) (.then (.then (.inBlock (.then (.then (.inBlock (.then .body))))))) (.refl _) rfl (rp_t hd4 rfl rfl) ?_
        refine d_end (by kernel_rfl) ?_
        exact t_thenK hK ⟨(by first | (simp [Env.get, hd4]; done) | exact absurd hd4 (by decide) | (simp_all [Env.get]; done)), rfl, rfl, rfl, rfl, rfl, rfl, rfl, rfl, trivial⟩ (.refl _)
      · skip
        refine dg_val 9 hd4 rfl (by kernel_rfl) (by kernel_rfl) (by kernel_rfl) (.then (.then (.inBlock (.then (.then (.inBlock (.then .body))))))) (.refl _) rfl rfl rfl (r_move rfl) ?_
        refine dg_val 10 hd4 rfl (by kernel_rfl) (by kernel_rfl) (by kernel_rfl) (.then (.then (.inBlock (.then (.then (.inBlock (.then .body))))))) (.refl _) rfl rfl rfl (r_move rfl) ?_
        refine t_cases_at (s := 97) rfl (fun hd5 => ?_) (fun hd5 => ?_)
        · skip
          refine dg_val 11 hd5 rfl (by kernel_rfl) (by kernel_rfl) (by kernel_rfl) (.then (.then (.inBlock (.then (.then (.inBlock (.then .body))))))) (.refl _) rfl rfl rfl (r_fa fo_81_3 rfl) ?_
          refine dg_val 12 hd5 rfl (by kernel_rfl) (by kernel_rfl) (by kernel_rfl) (.then (.then (.inBlock (.then (.then (.inBlock (.then .body))))))) (.refl _) rfl rfl rfl (r_load ca_79 rfl (rd_m (.head _) rfl)) ?_
          refine dg_val 13 hd5 rfl (by kernel_rfl) (by kernel_rfl) (by kernel_rfl) (.then (.then (.inBlock (.then (.then (.inBlock (.then .body))))))) (.refl _) rfl rfl rfl (r_ne rfl rfl) ?_
          refine dg_val 14 hd4 rfl (by kernel_rfl) (by kernel_rfl) (by kernel_rfl) (.then (.then (.inBlock (.then (.then (.inBlock (.then .body))))))) (.refl _) rfl rfl rfl (rp_t hd5 rfl rfl) ?_
          refine d_val 15 rfl (by kernel_rfl) (by kernel_rfl) (by kernel_rfl) (.then (.then (.inBlock (.then (.then (.inBlock (.then .body))))))) (.refl _) rfl (rp_f hd4 rfl rfl) ?_
          refine d_end (by kernel_rfl) ?_
          exact t_thenK hK ⟨(by first | (simp [Env.get, hd4, hd5]; done) | exact absurd hd4 (by decide) | exact absurd hd5 (by decide) | (simp_all [Env.get]; done)), rfl, rfl, rfl, rfl, rfl, rfl, rfl, rfl, trivial⟩ (.refl _)
        · skip
          refine dg_skip 11 hd5 rfl (by kernel_rfl) (by kernel_rfl) (by kernel_rfl) (.then (.then (.inBlock (.then (.then (.inBlock (.then .body))))))) (.refl _) rfl rfl rfl rfl ?_
          refine dg_skip 12 hd5 rfl (by kernel_rfl) (by kernel_rfl) (by kernel_rfl) (.then (.then (.inBlock (.then (.then (.inBlock (.then .body))))))) (.refl _) rfl rfl rfl rfl ?_
          refine dg_skip 13 hd5 rfl (by kernel_rfl) (by kernel_rfl) (by kernel_rfl) (.then (.then (.inBlock (.then (.then (.inBlock (.then .body))))))) (.refl _) rfl rfl rfl rfl ?_
          refine dg_val 14 hd4 rfl (by kernel_rfl) (by kernel_rfl) (by kernel_rfl) (.then (.then (.inBlock (.then (.then (.inBlock (.then .body))))))) (.refl _) rfl rfl rfl (rp_f hd5 rfl rfl) ?_
          refine d_val 15 rfl (by kernel_rfl) (by kernel_rfl) (by kernel_rfl) (.then (.then (.inBlock (.then (.then (.inBlock (.then .body))))))) (.refl _) rfl (rp_f hd4 rfl rfl) ?_
          refine d_end (by kernel_rfl) ?_
          exact t_thenK hK ⟨(by first | (simp [Env.get, hd4, hd5]; done) | exact absurd hd4 (by decide) | exact absurd hd5 (by decide) | (simp_all [Env.get]; done)), rfl, rfl, rfl, rfl, rfl, rfl, rfl, rfl, trivial⟩ (.refl _)
    refine Tr.keep (env' := [(2, _), (3, _), (52, _), (53, _), (54, _), (102, _)]) ⟨rfl, rfl, rfl, rfl, rfl, rfl, trivial⟩ ?_
    refine t_then ?_
    refine t_cond rfl (fun hbad => ?_) (fun hbad => ?_)
    · skip
      refine t_seq ?_
      refine t_region ?_
      refine t_val (r_assign rfl) rfl ?_
      refine t_nil ?_
      refine Tr.keep (env' := [(4, _)]) ⟨rfl, trivial⟩ ?_
      refine t_then ?_
      refine t_retc ?_
      refine t_in_ret ?_
      refine t_then_ret ?_
      refine t_then_ret ?_
      refine t_in_ret ?_
      refine t_then_ret ?_
      refine t_ret1 rfl rfl (fun w hw => ?_)
      refine ⟨?_, Ok.sub hw (.cons _ (.cons _ (.cons _ (.refl _))))⟩
      rw [if_neg]
      intro hall
      have h8 := hall k hlt
      simp only [okAt, hx, hl, hms] at h8
      exact notok hbad h8
    · skip
      refine t_skip ?_
      refine t_in ?_
      refine t_then ?_
      refine t_region ?_
      refine t_val (r_addi rfl rfl (by omega)) rfl ?_
      refine t_val (r_move rfl) rfl ?_
      refine t_nil ?_
      refine Tr.keep (env' := [(2, _), (3, _), (52, _), (53, _), (54, _)]) ⟨rfl, rfl, rfl, rfl, rfl, trivial⟩ ?_
      refine t_then ?_
      refine t_K (IH (k + 1) ⟨by omega, fun j hj => ?_⟩ (by omega)) ⟨rfl, rfl, rfl, rfl, rfl, trivial⟩ (.cons _ (.refl _))
      rcases Nat.lt_or_ge j k with h | h
      · exact hp j h
      · obtain rfl : j = k := by omega
        simp only [okAt, hx, hl, hms]
        exact okbool hbad
  · have h9 : ¬ k < items.length := by have := of_decide_eq_false hc1; omega
    refine t_exit ?_
    refine t_then_exit ?_
    refine t_then_exit ?_
    refine t_in_hit ?_
    refine t_then ?_
    refine t_seq ?_
    refine t_region ?_
    refine t_val (r_assign rfl) rfl ?_
    refine t_nil ?_
    refine Tr.keep (env' := [(4, _)]) ⟨rfl, trivial⟩ ?_
    refine t_then ?_
    refine t_retc ?_
    refine t_ret1 rfl rfl (fun w hw => ?_)
    refine ⟨?_, Ok.sub hw (.cons _ (.cons _ (.refl _)))⟩
    rw [if_pos]
    intro j hj
    exact hp j (by omega)
end
end Go.Proofs.W
