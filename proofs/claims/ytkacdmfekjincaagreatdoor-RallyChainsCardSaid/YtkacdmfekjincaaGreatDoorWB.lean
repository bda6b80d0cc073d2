/-
  What functions of the program that RallyChains reaches do, one contract each, part 2.
-/
import Derived.Test.YtkacdmfekjincaaGreatDoorWA
import Derived.Test.YtkacdmfekjincaaGreatDoorSlA
set_option linter.unusedVariables false
set_option linter.unusedSimpArgs false
set_option linter.unusedSectionVars false
set_option maxRecDepth 100000
namespace Go.Proofs.W
open Go Go.Sl Go.RowKit Go.Proofs
theorem ca_35 : cellsAs Tryz.prog 35 = some (some 6) := by kernel_rfl
theorem fo_35_1 : fieldOff Tryz.prog 35 1 = some 1 := by kernel_rfl
theorem fo_35_2 : fieldOff Tryz.prog 35 2 = some 2 := by kernel_rfl
theorem fo_35_3 : fieldOff Tryz.prog 35 3 = some 3 := by kernel_rfl
theorem fo_35_4 : fieldOff Tryz.prog 35 4 = some 4 := by kernel_rfl
theorem inf_116 : (Tryz.prog.info? 116).map (fun i => (i.zero, i.size, i.bytes)) = some (some (.agg #[.bool false, .int .i64 0, .bool false]), 3, 24) := by kernel_rfl
theorem inf_218 : (Tryz.prog.info? 218).map (fun i => (i.zero, i.size, i.bytes)) = some (some (.agg #[.bool false, .int .i64 0, .int .i64 0, .bool false, .bool false]), 5, 32) := by kernel_rfl
def GPlan.ok (p : GPlan) : Bool :=
  !(!(inB p.posts 1 60) || !(inB p.silence 1 100000) || !(inB p.clear 1 p.posts) || !(inB p.interval 0 100000) || !(inB p.missing 1 100000) || !(inB p.cars 1 200))
def Latest.zero : Latest := ⟨false, 0, false⟩
def GState.zero : GState := ⟨false, 0, 0, false, false⟩
def GState.new : GState := ⟨false, 0, -1, false, false⟩
def GuardSt.new (p : GPlan) : GuardSt := ⟨p, .zero, .zero, List.replicate p.posts.toNat .zero, List.replicate p.posts.toNat .zero, List.replicate p.cars.toNat .new⟩
theorem GPlan.ok_iff {p : GPlan} : p.ok = true ↔ (1 ≤ p.posts ∧ p.posts ≤ 60) ∧ (1 ≤ p.silence ∧ p.silence ≤ 100000) ∧ (1 ≤ p.clear ∧ p.clear ≤ p.posts) ∧ (0 ≤ p.interval ∧ p.interval ≤ 100000) ∧ (1 ≤ p.missing ∧ p.missing ≤ 100000) ∧ (1 ≤ p.cars ∧ p.cars ≤ 200) := by
  simp [GPlan.ok, inB]; omega
section
variable {w0 : World} {M : List Ent}
theorem new_at (nc k : Nat) (h : k < nc) : flat ((List.replicate k GState.new ++ List.replicate (nc - k) GState.zero).map GState.cells) = flat ((List.replicate k GState.new).map GState.cells) ++ (GState.zero.cells ++ flat ((List.replicate (nc - (k + 1)) GState.zero).map GState.cells)) := by
  obtain ⟨q, rfl⟩ : ∃ q, nc = k + 1 + q := ⟨nc - (k + 1), by omega⟩
  rw [show k + 1 + q - k = q + 1 by omega, show k + 1 + q - (k + 1) = q by omega, List.replicate_succ]
  simp [flat]
theorem new_to (nc k : Nat) (h : k < nc) : flat ((List.replicate (k + 1) GState.new ++ List.replicate (nc - (k + 1)) GState.zero).map GState.cells) = flat ((List.replicate k GState.new).map GState.cells) ++ (GState.new.cells ++ flat ((List.replicate (nc - (k + 1)) GState.zero).map GState.cells)) := by
  rw [List.replicate_succ']
  simp [flat]
theorem new_len (k : Nat) : (flat ((List.replicate k GState.new).map GState.cells)).length = k * 5 := by
  rw [flat_length (z := 5) (by simp only [List.mem_map]; rintro _ ⟨x, _, rfl⟩; rfl)]; simp
theorem guard_new_yes {p : GPlan} (hp : p.ok = true) : ∀ w, Ok w0 M w → Calls Tryz.prog 89 #[.agg p.cells.toArray] w
    (fun e w' => ∃ l : GAt, e = .returned (.tuple #[.pointer (some ⟨l.g, 0, none⟩), .int .i64 0]) ∧ True ∧ Ok w0 ((GuardSt.new p).eg l :: (GuardSt.new p).er l :: (GuardSt.new p).ep l :: (GuardSt.new p).ec l :: M) w') := by
  obtain ⟨h1, h2, h3, h4, h5, h6⟩ := GPlan.ok_iff.1 hp
  obtain ⟨np, hnp⟩ := Int.eq_ofNat_of_zero_le (show 0 ≤ p.posts by omega)
  obtain ⟨nc, hnc⟩ := Int.eq_ofNat_of_zero_le (show 0 ≤ p.cars by omega)
  refine enter (vs := [_]) Tryz.func89 rfl Tryz.ntmps89 rfl ?_
  refine t_seq ?_
  refine t_region ?_
  refine t_eff rfl (e_box rfl rfl fun b1 => ?_)
  refine t_val (r_assign rfl) rfl ?_
  refine t_val (r_assign rfl) rfl ?_
  refine t_nil ?_
  refine Tr.keep (env' := [(1, _)]) ⟨rfl, trivial⟩ ?_
  refine t_then ?_
  refine t_seq ?_
  refine t_seq ?_
  refine t_region ?_
  refine t_val (r_fa fo_35_0 rfl) rfl ?_
  refine t_val (r_load ca_3 rfl (rd_m (.head _) rfl)) rfl ?_
  refine t_eff rfl (e_pcall en_42 rfl rfl rfl rfl (rescue_within_c _ _ _) ?_)
  refine t_val (r_not rfl) rfl ?_
  refine t_val (r_move rfl) rfl ?_
  apply t_group_or 5 (s := 10) (d := 15) rfl
  · intro hg1 K hK
    refine g_val hg1 rfl rfl (r_fa fo_35_1 rfl) rfl ?_
    refine g_val hg1 rfl rfl (r_load ca_3 rfl (rd_m (.head _) rfl)) rfl ?_
    refine g_eff hg1 rfl rfl (e_pcall en_42 rfl rfl rfl rfl (rescue_within_c _ _ _) ?_)
    refine g_val hg1 rfl rfl (r_not rfl) rfl ?_
    refine t_val (rp_f hg1 rfl rfl) rfl ?_
    iterate 4 refine Tr.weak2 rfl ?_
    exact hK _ (or_f hg1)
  · intro hg1 K hK
    refine g_skip hg1 rfl rfl rfl rfl ?_
    refine g_skip hg1 rfl rfl rfl rfl ?_
    refine g_skip hg1 rfl rfl rfl rfl ?_
    refine g_skip hg1 rfl rfl rfl rfl ?_
    refine t_val (rp_t hg1 rfl rfl) rfl ?_
    iterate 4 refine Tr.weak2 rfl ?_
    exact hK _ (or_t hg1)
  refine t_val (r_move rfl) rfl ?_
  apply t_group_or 7 (s := 16) (d := 23) rfl
  · intro hg2 K hK
    refine g_val hg2 rfl rfl (r_fa fo_35_2 rfl) rfl ?_
    refine g_val hg2 rfl rfl (r_load ca_3 rfl (rd_m (.head _) rfl)) rfl ?_
    refine g_val hg2 rfl rfl (r_fa fo_35_0 rfl) rfl ?_
    refine g_val hg2 rfl rfl (r_load ca_3 rfl (rd_m (.head _) rfl)) rfl ?_
    refine g_eff hg2 rfl rfl (e_pcall en_42 rfl rfl rfl rfl (rescue_within_c _ _ _) ?_)
    refine g_val hg2 rfl rfl (r_not rfl) rfl ?_
    refine t_val (rp_f hg2 rfl rfl) rfl ?_
    iterate 6 refine Tr.weak2 rfl ?_
    exact hK _ (or_f hg2)
  · intro hg2 K hK
    refine g_skip hg2 rfl rfl rfl rfl ?_
    refine g_skip hg2 rfl rfl rfl rfl ?_
    refine g_skip hg2 rfl rfl rfl rfl ?_
    refine g_skip hg2 rfl rfl rfl rfl ?_
    refine g_skip hg2 rfl rfl rfl rfl ?_
    refine g_skip hg2 rfl rfl rfl rfl ?_
    refine t_val (rp_t hg2 rfl rfl) rfl ?_
    iterate 6 refine Tr.weak2 rfl ?_
    exact hK _ (or_t hg2)
  refine t_val (r_move rfl) rfl ?_
  apply t_group_or 5 (s := 24) (d := 29) rfl
  · intro hg3 K hK
    refine g_val hg3 rfl rfl (r_fa fo_35_3 rfl) rfl ?_
    refine g_val hg3 rfl rfl (r_load ca_3 rfl (rd_m (.head _) rfl)) rfl ?_
    refine g_eff hg3 rfl rfl (e_pcall en_42 rfl rfl rfl rfl (rescue_within_c _ _ _) ?_)
    refine g_val hg3 rfl rfl (r_not rfl) rfl ?_
    refine t_val (rp_f hg3 rfl rfl) rfl ?_
    iterate 4 refine Tr.weak2 rfl ?_
    exact hK _ (or_f hg3)
  · intro hg3 K hK
    refine g_skip hg3 rfl rfl rfl rfl ?_
    refine g_skip hg3 rfl rfl rfl rfl ?_
    refine g_skip hg3 rfl rfl rfl rfl ?_
    refine g_skip hg3 rfl rfl rfl rfl ?_
    refine t_val (rp_t hg3 rfl rfl) rfl ?_
    iterate 4 refine Tr.weak2 rfl ?_
    exact hK _ (or_t hg3)
  refine t_val (r_move rfl) rfl ?_
  apply t_group_or 5 (s := 30) (d := 35) rfl
  · intro hg4 K hK
    refine g_val hg4 rfl rfl (r_fa fo_35_4 rfl) rfl ?_
    refine g_val hg4 rfl rfl (r_load ca_3 rfl (rd_m (.head _) rfl)) rfl ?_
    refine g_eff hg4 rfl rfl (e_pcall en_42 rfl rfl rfl rfl (rescue_within_c _ _ _) ?_)
    refine g_val hg4 rfl rfl (r_not rfl) rfl ?_
    refine t_val (rp_f hg4 rfl rfl) rfl ?_
    iterate 4 refine Tr.weak2 rfl ?_
    exact hK _ (or_f hg4)
  · intro hg4 K hK
    refine g_skip hg4 rfl rfl rfl rfl ?_
    refine g_skip hg4 rfl rfl rfl rfl ?_
    refine g_skip hg4 rfl rfl rfl rfl ?_
    refine g_skip hg4 rfl rfl rfl rfl ?_
    refine t_val (rp_t hg4 rfl rfl) rfl ?_
    iterate 4 refine Tr.weak2 rfl ?_
    exact hK _ (or_t hg4)
  refine t_val (r_move rfl) rfl ?_
  apply t_group_or 5 (s := 36) (d := 41) rfl
  · intro hg5 K hK
    refine g_val hg5 rfl rfl (r_fa fo_35_5 rfl) rfl ?_
    refine g_val hg5 rfl rfl (r_load ca_3 rfl (rd_m (.head _) rfl)) rfl ?_
    refine g_eff hg5 rfl rfl (e_pcall en_42 rfl rfl rfl rfl (rescue_within_c _ _ _) ?_)
    refine g_val hg5 rfl rfl (r_not rfl) rfl ?_
    refine t_val (rp_f hg5 rfl rfl) rfl ?_
    iterate 4 refine Tr.weak2 rfl ?_
    exact hK _ (or_f hg5)
  · intro hg5 K hK
    refine g_skip hg5 rfl rfl rfl rfl ?_
    refine g_skip hg5 rfl rfl rfl rfl ?_
    refine g_skip hg5 rfl rfl rfl rfl ?_
    refine g_skip hg5 rfl rfl rfl rfl ?_
    refine t_val (rp_t hg5 rfl rfl) rfl ?_
    iterate 4 refine Tr.weak2 rfl ?_
    exact hK _ (or_t hg5)
  refine t_nil ?_
  refine Tr.keep (env' := [(1, _), (41, _)]) ⟨rfl, rfl, trivial⟩ ?_
  refine t_then ?_
  refine t_cond rfl (fun hv => ?_) (fun hv => ?_)
  · unfold GPlan.ok at hp; rw [hv] at hp; cases hp
  · skip
    refine t_skip ?_
    refine t_then ?_
    refine t_seq ?_
    refine Tr.keep (env' := [(1, _)]) ⟨rfl, trivial⟩ ?_
    refine t_cutx (α := GAt) (fun l => [(4, .pointer (some ⟨l.g, 0, none⟩))]) (fun l => cel l.g 121 [.int .i64 p.posts, .int .i64 p.silence, .int .i64 p.clear, .int .i64 p.interval, .int .i64 p.missing, .int .i64 p.cars, .bool false, .int .i64 0, .bool false, .bool false, .int .i64 0, .bool false, .slice (some ⟨l.r, 0, none⟩) np np, .slice (some ⟨l.p, 0, none⟩) np np, .slice (some ⟨l.c, 0, none⟩) nc nc] :: cel l.r 116 (flat (List.replicate np [.bool false, .int .i64 0, .bool false])) :: cel l.p 116 (flat (List.replicate np [.bool false, .int .i64 0, .bool false])) :: cel l.c 218 (flat (List.replicate nc [.bool false, .int .i64 0, .int .i64 0, .bool false, .bool false])) :: M) (fun _ => True) ?_ ?_
    · intro K hK
      refine d_begin mixed rfl ?_
      refine d_val 0 rfl (by kernel_rfl) (by kernel_rfl) (by kernel_rfl) (.then (.then .body)) (.refl _) rfl (r_loads ca_35 rfl (rds_m (n := 6) (vs := [_, _, _, _, _, _]) (.head _) rfl) rfl) ?_
      refine d_val 1 rfl (by kernel_rfl) (by kernel_rfl) (by kernel_rfl) (.then (.then .body)) (.refl _) rfl (r_fa fo_35_0 rfl) ?_
      refine d_val 2 rfl (by kernel_rfl) (by kernel_rfl) (by kernel_rfl) (.then (.then .body)) (.refl _) rfl (r_load ca_3 rfl (rd_m (.head _) rfl)) ?_
      refine d_val 4 rfl (by kernel_rfl) (by kernel_rfl) (by kernel_rfl) (.then (.then .body)) (.refl _) rfl (r_fa fo_35_0 rfl) ?_
      refine d_val 5 rfl (by kernel_rfl) (by kernel_rfl) (by kernel_rfl) (.then (.then .body)) (.refl _) rfl (r_load ca_3 rfl (rd_m (.head _) rfl)) ?_
      refine d_val 7 rfl (by kernel_rfl) (by kernel_rfl) (by kernel_rfl) (.then (.then .body)) (.refl _) rfl (r_fa fo_35_5 rfl) ?_
      refine d_val 8 rfl (by kernel_rfl) (by kernel_rfl) (by kernel_rfl) (.then (.then .body)) (.refl _) rfl (r_load ca_3 rfl (rd_m (.head _) rfl)) ?_
      refine d_eff3 3 6 9 rfl rfl rfl  rfl rfl rfl  (by kernel_rfl) ?_ ?_ ?_
      · refine (e_make (zs := [.bool false, .int .i64 0, .bool false]) Tryz.underlying118 inf_116 rfl (by decide) (m := np) (by rw [← hnp]; rfl) (by omega) (by omega) rfl fun b45 => ?_)
        refine d_held (.cons _ (.refl _)) ?_
        refine d_eff2 6 9 rfl rfl  rfl rfl  (by kernel_rfl) ?_ ?_
        · refine (e_make (zs := [.bool false, .int .i64 0, .bool false]) Tryz.underlying118 inf_116 rfl (by decide) (m := np) (by rw [← hnp]; rfl) (by omega) (by omega) rfl fun b48 => ?_)
          refine d_held (.cons _ (.cons _ (.refl _))) ?_
          refine d_eff 9 rfl rfl (by kernel_rfl) (e_make (zs := [.bool false, .int .i64 0, .int .i64 0, .bool false, .bool false]) Tryz.underlying119 inf_218 rfl (by decide) (m := nc) (by rw [← hnc]; rfl) (by omega) (by omega) rfl fun b51 => ?_)
          refine d_held (.cons _ (.cons _ (.cons _ (.refl _)))) ?_
          refine d_val 10 rfl (by kernel_rfl) (by kernel_rfl) (by kernel_rfl) (.then (.then .body)) (.cons _ (.cons _ (.cons _ (.refl _)))) rfl (r_build rfl (v := .agg #[.int .i64 p.posts, .int .i64 p.silence, .int .i64 p.clear, .int .i64 p.interval, .int .i64 p.missing, .int .i64 p.cars, .bool false, .int .i64 0, .bool false, .bool false, .int .i64 0, .bool false, .slice (some ⟨b45, 0, none⟩) np np, .slice (some ⟨b48, 0, none⟩) np np, .slice (some ⟨b51, 0, none⟩) nc nc]) (fun w => by kernel_rfl)) ?_
          refine d_eff 11 rfl rfl (by kernel_rfl) (e_box rfl rfl fun b53 => ?_)
          refine d_held (.cons _ (.cons _ (.cons _ (.cons _ (.refl _))))) ?_
          refine d_val 12 rfl (by kernel_rfl) (by kernel_rfl) (by kernel_rfl) (.then (.then .body)) (.cons _ (.cons _ (.cons _ (.cons _ (.refl _))))) rfl (r_assign rfl) ?_
          refine d_end (by kernel_rfl) ?_
          exact t_thenX (hK ⟨b53, b45, b48, b51⟩ trivial) ⟨rfl, trivial⟩ (pk .here (pk (.there (.there .here)) (pk (.there .here) (pk .here (.refl _))))) (.cons_cons _ (.cons_cons _ (.cons_cons _ (.cons_cons _ (.cons _ (.refl _))))))
        · refine (e_make (zs := [.bool false, .int .i64 0, .int .i64 0, .bool false, .bool false]) Tryz.underlying119 inf_218 rfl (by decide) (m := nc) (by rw [← hnc]; rfl) (by omega) (by omega) rfl fun b51 => ?_)
          refine d_held (.cons _ (.cons _ (.refl _))) ?_
          refine d_eff 6 rfl rfl (by kernel_rfl) (e_make (zs := [.bool false, .int .i64 0, .bool false]) Tryz.underlying118 inf_116 rfl (by decide) (m := np) (by rw [← hnp]; rfl) (by omega) (by omega) rfl fun b48 => ?_)
          refine d_held (.cons _ (.cons _ (.cons _ (.refl _)))) ?_
          refine d_val 10 rfl (by kernel_rfl) (by kernel_rfl) (by kernel_rfl) (.then (.then .body)) (.cons _ (.cons _ (.cons _ (.refl _)))) rfl (r_build rfl (v := .agg #[.int .i64 p.posts, .int .i64 p.silence, .int .i64 p.clear, .int .i64 p.interval, .int .i64 p.missing, .int .i64 p.cars, .bool false, .int .i64 0, .bool false, .bool false, .int .i64 0, .bool false, .slice (some ⟨b45, 0, none⟩) np np, .slice (some ⟨b48, 0, none⟩) np np, .slice (some ⟨b51, 0, none⟩) nc nc]) (fun w => by kernel_rfl)) ?_
          refine d_eff 11 rfl rfl (by kernel_rfl) (e_box rfl rfl fun b53 => ?_)
          refine d_held (.cons _ (.cons _ (.cons _ (.cons _ (.refl _))))) ?_
          refine d_val 12 rfl (by kernel_rfl) (by kernel_rfl) (by kernel_rfl) (.then (.then .body)) (.cons _ (.cons _ (.cons _ (.cons _ (.refl _))))) rfl (r_assign rfl) ?_
          refine d_end (by kernel_rfl) ?_
          exact t_thenX (hK ⟨b53, b45, b48, b51⟩ trivial) ⟨rfl, trivial⟩ (pk .here (pk (.there (.there .here)) (pk .here (pk .here (.refl _))))) (.cons_cons _ (.cons_cons _ (.cons_cons _ (.cons_cons _ (.cons _ (.refl _))))))
      · refine (e_make (zs := [.bool false, .int .i64 0, .bool false]) Tryz.underlying118 inf_116 rfl (by decide) (m := np) (by rw [← hnp]; rfl) (by omega) (by omega) rfl fun b48 => ?_)
        refine d_held (.cons _ (.refl _)) ?_
        refine d_eff2 3 9 rfl rfl  rfl rfl  (by kernel_rfl) ?_ ?_
        · refine (e_make (zs := [.bool false, .int .i64 0, .bool false]) Tryz.underlying118 inf_116 rfl (by decide) (m := np) (by rw [← hnp]; rfl) (by omega) (by omega) rfl fun b45 => ?_)
          refine d_held (.cons _ (.cons _ (.refl _))) ?_
          refine d_eff 9 rfl rfl (by kernel_rfl) (e_make (zs := [.bool false, .int .i64 0, .int .i64 0, .bool false, .bool false]) Tryz.underlying119 inf_218 rfl (by decide) (m := nc) (by rw [← hnc]; rfl) (by omega) (by omega) rfl fun b51 => ?_)
          refine d_held (.cons _ (.cons _ (.cons _ (.refl _)))) ?_
          refine d_val 10 rfl (by kernel_rfl) (by kernel_rfl) (by kernel_rfl) (.then (.then .body)) (.cons _ (.cons _ (.cons _ (.refl _)))) rfl (r_build rfl (v := .agg #[.int .i64 p.posts, .int .i64 p.silence, .int .i64 p.clear, .int .i64 p.interval, .int .i64 p.missing, .int .i64 p.cars, .bool false, .int .i64 0, .bool false, .bool false, .int .i64 0, .bool false, .slice (some ⟨b45, 0, none⟩) np np, .slice (some ⟨b48, 0, none⟩) np np, .slice (some ⟨b51, 0, none⟩) nc nc]) (fun w => by kernel_rfl)) ?_
          refine d_eff 11 rfl rfl (by kernel_rfl) (e_box rfl rfl fun b53 => ?_)
          refine d_held (.cons _ (.cons _ (.cons _ (.cons _ (.refl _))))) ?_
          refine d_val 12 rfl (by kernel_rfl) (by kernel_rfl) (by kernel_rfl) (.then (.then .body)) (.cons _ (.cons _ (.cons _ (.cons _ (.refl _))))) rfl (r_assign rfl) ?_
          refine d_end (by kernel_rfl) ?_
          exact t_thenX (hK ⟨b53, b45, b48, b51⟩ trivial) ⟨rfl, trivial⟩ (pk .here (pk (.there .here) (pk (.there .here) (pk .here (.refl _))))) (.cons_cons _ (.cons_cons _ (.cons_cons _ (.cons_cons _ (.cons _ (.refl _))))))
        · refine (e_make (zs := [.bool false, .int .i64 0, .int .i64 0, .bool false, .bool false]) Tryz.underlying119 inf_218 rfl (by decide) (m := nc) (by rw [← hnc]; rfl) (by omega) (by omega) rfl fun b51 => ?_)
          refine d_held (.cons _ (.cons _ (.refl _))) ?_
          refine d_eff 3 rfl rfl (by kernel_rfl) (e_make (zs := [.bool false, .int .i64 0, .bool false]) Tryz.underlying118 inf_116 rfl (by decide) (m := np) (by rw [← hnp]; rfl) (by omega) (by omega) rfl fun b45 => ?_)
          refine d_held (.cons _ (.cons _ (.cons _ (.refl _)))) ?_
          refine d_val 10 rfl (by kernel_rfl) (by kernel_rfl) (by kernel_rfl) (.then (.then .body)) (.cons _ (.cons _ (.cons _ (.refl _)))) rfl (r_build rfl (v := .agg #[.int .i64 p.posts, .int .i64 p.silence, .int .i64 p.clear, .int .i64 p.interval, .int .i64 p.missing, .int .i64 p.cars, .bool false, .int .i64 0, .bool false, .bool false, .int .i64 0, .bool false, .slice (some ⟨b45, 0, none⟩) np np, .slice (some ⟨b48, 0, none⟩) np np, .slice (some ⟨b51, 0, none⟩) nc nc]) (fun w => by kernel_rfl)) ?_
          refine d_eff 11 rfl rfl (by kernel_rfl) (e_box rfl rfl fun b53 => ?_)
          refine d_held (.cons _ (.cons _ (.cons _ (.cons _ (.refl _))))) ?_
          refine d_val 12 rfl (by kernel_rfl) (by kernel_rfl) (by kernel_rfl) (.then (.then .body)) (.cons _ (.cons _ (.cons _ (.cons _ (.refl _))))) rfl (r_assign rfl) ?_
          refine d_end (by kernel_rfl) ?_
          exact t_thenX (hK ⟨b53, b45, b48, b51⟩ trivial) ⟨rfl, trivial⟩ (pk .here (pk .here (pk (.there .here) (pk .here (.refl _))))) (.cons_cons _ (.cons_cons _ (.cons_cons _ (.cons_cons _ (.cons _ (.refl _))))))
      · refine (e_make (zs := [.bool false, .int .i64 0, .int .i64 0, .bool false, .bool false]) Tryz.underlying119 inf_218 rfl (by decide) (m := nc) (by rw [← hnc]; rfl) (by omega) (by omega) rfl fun b51 => ?_)
        refine d_held (.cons _ (.refl _)) ?_
        refine d_eff2 3 6 rfl rfl  rfl rfl  (by kernel_rfl) ?_ ?_
        · refine (e_make (zs := [.bool false, .int .i64 0, .bool false]) Tryz.underlying118 inf_116 rfl (by decide) (m := np) (by rw [← hnp]; rfl) (by omega) (by omega) rfl fun b45 => ?_)
          refine d_held (.cons _ (.cons _ (.refl _))) ?_
          refine d_eff 6 rfl rfl (by kernel_rfl) (e_make (zs := [.bool false, .int .i64 0, .bool false]) Tryz.underlying118 inf_116 rfl (by decide) (m := np) (by rw [← hnp]; rfl) (by omega) (by omega) rfl fun b48 => ?_)
          refine d_held (.cons _ (.cons _ (.cons _ (.refl _)))) ?_
          refine d_val 10 rfl (by kernel_rfl) (by kernel_rfl) (by kernel_rfl) (.then (.then .body)) (.cons _ (.cons _ (.cons _ (.refl _)))) rfl (r_build rfl (v := .agg #[.int .i64 p.posts, .int .i64 p.silence, .int .i64 p.clear, .int .i64 p.interval, .int .i64 p.missing, .int .i64 p.cars, .bool false, .int .i64 0, .bool false, .bool false, .int .i64 0, .bool false, .slice (some ⟨b45, 0, none⟩) np np, .slice (some ⟨b48, 0, none⟩) np np, .slice (some ⟨b51, 0, none⟩) nc nc]) (fun w => by kernel_rfl)) ?_
          refine d_eff 11 rfl rfl (by kernel_rfl) (e_box rfl rfl fun b53 => ?_)
          refine d_held (.cons _ (.cons _ (.cons _ (.cons _ (.refl _))))) ?_
          refine d_val 12 rfl (by kernel_rfl) (by kernel_rfl) (by kernel_rfl) (.then (.then .body)) (.cons _ (.cons _ (.cons _ (.cons _ (.refl _))))) rfl (r_assign rfl) ?_
          refine d_end (by kernel_rfl) ?_
          exact t_thenX (hK ⟨b53, b45, b48, b51⟩ trivial) ⟨rfl, trivial⟩ (pk .here (pk (.there .here) (pk .here (pk .here (.refl _))))) (.cons_cons _ (.cons_cons _ (.cons_cons _ (.cons_cons _ (.cons _ (.refl _))))))
        · refine (e_make (zs := [.bool false, .int .i64 0, .bool false]) Tryz.underlying118 inf_116 rfl (by decide) (m := np) (by rw [← hnp]; rfl) (by omega) (by omega) rfl fun b48 => ?_)
          refine d_held (.cons _ (.cons _ (.refl _))) ?_
          refine d_eff 3 rfl rfl (by kernel_rfl) (e_make (zs := [.bool false, .int .i64 0, .bool false]) Tryz.underlying118 inf_116 rfl (by decide) (m := np) (by rw [← hnp]; rfl) (by omega) (by omega) rfl fun b45 => ?_)
          refine d_held (.cons _ (.cons _ (.cons _ (.refl _)))) ?_
          refine d_val 10 rfl (by kernel_rfl) (by kernel_rfl) (by kernel_rfl) (.then (.then .body)) (.cons _ (.cons _ (.cons _ (.refl _)))) rfl (r_build rfl (v := .agg #[.int .i64 p.posts, .int .i64 p.silence, .int .i64 p.clear, .int .i64 p.interval, .int .i64 p.missing, .int .i64 p.cars, .bool false, .int .i64 0, .bool false, .bool false, .int .i64 0, .bool false, .slice (some ⟨b45, 0, none⟩) np np, .slice (some ⟨b48, 0, none⟩) np np, .slice (some ⟨b51, 0, none⟩) nc nc]) (fun w => by kernel_rfl)) ?_
          refine d_eff 11 rfl rfl (by kernel_rfl) (e_box rfl rfl fun b53 => ?_)
          refine d_held (.cons _ (.cons _ (.cons _ (.cons _ (.refl _))))) ?_
          refine d_val 12 rfl (by kernel_rfl) (by kernel_rfl) (by kernel_rfl) (.then (.then .body)) (.cons _ (.cons _ (.cons _ (.cons _ (.refl _))))) rfl (r_assign rfl) ?_
          refine d_end (by kernel_rfl) ?_
          exact t_thenX (hK ⟨b53, b45, b48, b51⟩ trivial) ⟨rfl, trivial⟩ (pk .here (pk .here (pk .here (pk .here (.refl _))))) (.cons_cons _ (.cons_cons _ (.cons_cons _ (.cons_cons _ (.cons _ (.refl _))))))
    intro l _
    refine Tr.keep (env' := [(4, _)]) ⟨rfl, trivial⟩ ?_
    refine t_then ?_
    refine t_seq ?_
    refine t_seq ?_
    refine t_region ?_
    refine t_val (r_move rfl) rfl ?_
    refine t_val (r_nilCheck rfl) rfl ?_
    refine t_val (r_fa fo_121_4 rfl) rfl ?_
    refine t_val (r_load ca_119 rfl (rd_m (.head _) rfl)) rfl ?_
    refine t_val (r_len_slice Tryz.underlying119 rfl) rfl ?_
    refine t_val (r_move rfl) rfl ?_
    refine t_nil ?_
    refine Tr.keep (env' := [(4, _), (58, _), (59, _)]) ⟨rfl, rfl, rfl, trivial⟩ ?_
    refine t_then ?_
    refine t_block ?_
    refine t_loop (fun k : Nat => [(4, .pointer (some ⟨l.g, 0, none⟩)), (58, .int .i64 (nc : Int)), (59, .int .i64 (k : Int))]) (fun k : Nat => cel l.g 121 [.int .i64 p.posts, .int .i64 p.silence, .int .i64 p.clear, .int .i64 p.interval, .int .i64 p.missing, .int .i64 p.cars, .bool false, .int .i64 0, .bool false, .bool false, .int .i64 0, .bool false, .slice (some ⟨l.r, 0, none⟩) np np, .slice (some ⟨l.p, 0, none⟩) np np, .slice (some ⟨l.c, 0, none⟩) nc nc] :: cel l.r 116 (flat (List.replicate np [.bool false, .int .i64 0, .bool false])) :: cel l.p 116 (flat (List.replicate np [.bool false, .int .i64 0, .bool false])) :: cel l.c 218 (flat ((List.replicate k GState.new ++ List.replicate (nc - k) GState.zero).map GState.cells)) :: M) (fun k : Nat => k ≤ nc) (fun k : Nat => nc - k) 0 (Nat.zero_le _) ⟨rfl, rfl, rfl, trivial⟩ (by simp [GState.cells, GState.zero]) ?_
    intro K k hk IH
    refine t_seq ?_
    refine t_region ?_
    refine t_val (r_lt rfl rfl) rfl ?_
    refine t_nil ?_
    refine Tr.keep (env' := [(4, _), (58, _), (59, _), (60, _)]) ⟨rfl, rfl, rfl, rfl, trivial⟩ ?_
    refine t_then ?_
    refine t_seq ?_
    refine t_cond rfl (fun hc1 => ?_) (fun hc1 => ?_)
    · have hlt : k < nc := by simpa using hc1
      rw [new_at nc k hlt]
      refine t_skip ?_
      refine t_then ?_
      refine t_seq ?_
      refine t_block ?_
      refine t_seq ?_
      refine t_region ?_
      refine t_val (r_move rfl) rfl ?_
      refine t_val (r_assign rfl) rfl ?_
      refine t_nil ?_
      refine Tr.keep (env' := [(4, _), (5, _), (58, _), (59, _)]) ⟨rfl, rfl, rfl, rfl, trivial⟩ ?_
      refine t_then ?_
      refine t_region ?_
      refine t_val (r_move rfl) rfl ?_
      refine t_val (r_nilCheck rfl) rfl ?_
      refine t_val (r_fa fo_121_4 rfl) rfl ?_
      refine t_val (r_load ca_119 rfl (rd_m (.head _) rfl)) rfl ?_
      refine t_val (r_move rfl) rfl ?_
      refine t_val (r_ia_at k (flat ((List.replicate k GState.new).map GState.cells)).length Tryz.underlying119 iz_218 rfl rfl rfl rfl (by simpa using hlt) (by rw [new_len]; simp)) rfl ?_
      refine t_val (r_fa fo_218_2 rfl) rfl ?_
      refine t_eff rfl (e_store iz_3 rfl rfl rfl (.app (.succ (.succ .zero))) (.there (.there (.there .here))) ?_)
      refine t_nil ?_
      refine Tr.keep (env' := [(4, _), (58, _), (59, _)]) ⟨rfl, rfl, rfl, trivial⟩ ?_
      refine t_in ?_
      refine t_then ?_
      refine t_region ?_
      refine t_val (r_addi rfl rfl (by omega)) rfl ?_
      refine t_val (r_move rfl) rfl ?_
      refine t_nil ?_
      refine Tr.keep (env' := [(4, _), (58, _), (59, _)]) ⟨rfl, rfl, rfl, trivial⟩ ?_
      refine t_then ?_
      refine t_K (IH (k + 1) (by omega) (by omega)) ⟨rfl, rfl, rfl, trivial⟩ (by rw [new_to nc k hlt]; exact .refl _)
    · have h9 : ¬ k < nc := by simpa using hc1
      have hge : k = nc := by omega
      refine t_exit ?_
      refine t_then_exit ?_
      refine t_then_exit ?_
      refine t_in_hit ?_
      refine t_then ?_
      refine t_seq ?_
      refine t_region ?_
      refine t_val (r_move rfl) rfl ?_
      refine t_val (r_assign rfl) rfl ?_
      refine t_val (r_assign rfl) rfl ?_
      refine t_nil ?_
      refine Tr.keep (env' := [(2, _), (3, _)]) ⟨rfl, rfl, trivial⟩ ?_
      refine t_then ?_
      refine t_retc ?_
      refine t_ret2 rfl rfl rfl (fun w hw => ?_)
      refine ⟨l, rfl, trivial, ?_⟩
      have e : GuardSt.new p = ⟨p, .zero, .zero, List.replicate np .zero, List.replicate np .zero, List.replicate nc .new⟩ := by simp [GuardSt.new, hnp, hnc]
      rw [e]
      subst hge
      simpa [GuardSt.eg, GuardSt.er, GuardSt.ep, GuardSt.ec, GuardSt.cells, Latest.zero, Latest.cells, slv] using hw
end
end Go.Proofs.W
set_option linter.unusedVariables false
set_option linter.unusedSimpArgs false
set_option linter.unusedSectionVars false
set_option maxRecDepth 100000
namespace Go.Proofs.W
open Go Go.Sl Go.RowKit Go.Proofs
theorem ca_122 : cellsAs Tryz.prog 122 = some (none) := by kernel_rfl
theorem ca_219 : cellsAs Tryz.prog 219 = some (none) := by kernel_rfl
theorem en_101 : Enters Tryz.prog 101 := enters_of Tryz.func101 (by kernel_rfl) (by kernel_rfl)
theorem en_102 : Enters Tryz.prog 102 := enters_of Tryz.func102 (by kernel_rfl) (by kernel_rfl)
theorem en_103 : Enters Tryz.prog 103 := enters_of Tryz.func103 (by kernel_rfl) (by kernel_rfl)
theorem en_104 : Enters Tryz.prog 104 := enters_of Tryz.func104 (by kernel_rfl) (by kernel_rfl)
theorem en_105 : Enters Tryz.prog 105 := enters_of Tryz.func105 (by kernel_rfl) (by kernel_rfl)
theorem en_106 : Enters Tryz.prog 106 := enters_of Tryz.func106 (by kernel_rfl) (by kernel_rfl)
theorem en_107 : Enters Tryz.prog 107 := enters_of Tryz.func107 (by kernel_rfl) (by kernel_rfl)
theorem en_108 : Enters Tryz.prog 108 := enters_of Tryz.func108 (by kernel_rfl) (by kernel_rfl)
theorem en_109 : Enters Tryz.prog 109 := enters_of Tryz.func109 (by kernel_rfl) (by kernel_rfl)
theorem en_184 : Enters Tryz.prog 184 := enters_of Tryz.func184 (by kernel_rfl) (by kernel_rfl)
theorem en_43 : Enters Tryz.prog 43 := enters_of Tryz.func43 (by kernel_rfl) (by kernel_rfl)
theorem en_44 : Enters Tryz.prog 44 := enters_of Tryz.func44 (by kernel_rfl) (by kernel_rfl)
theorem en_45 : Enters Tryz.prog 45 := enters_of Tryz.func45 (by kernel_rfl) (by kernel_rfl)
theorem en_46 : Enters Tryz.prog 46 := enters_of Tryz.func46 (by kernel_rfl) (by kernel_rfl)
theorem en_47 : Enters Tryz.prog 47 := enters_of Tryz.func47 (by kernel_rfl) (by kernel_rfl)
theorem en_48 : Enters Tryz.prog 48 := enters_of Tryz.func48 (by kernel_rfl) (by kernel_rfl)
theorem en_49 : Enters Tryz.prog 49 := enters_of Tryz.func49 (by kernel_rfl) (by kernel_rfl)
theorem en_50 : Enters Tryz.prog 50 := enters_of Tryz.func50 (by kernel_rfl) (by kernel_rfl)
theorem fo_218_1 : fieldOff Tryz.prog 218 1 = some 1 := by kernel_rfl
theorem inf_124 : (Tryz.prog.info? 124).map (fun i => (i.zero, i.size, i.bytes)) = some (some ((.int .i64 0)), 1, 8) := by kernel_rfl
theorem iz_122 : (Tryz.prog.info? 122).map (·.size) = some 1 := by kernel_rfl
structure GuardSt.Sane (g : GuardSt) : Prop where
  posts : ∀ x ∈ g.posts, 0 ≤ x.second ∧ x.second ≤ 100000
  cars : ∀ c ∈ g.cars, 0 ≤ c.second ∧ c.second ≤ 100000
def lsilent (g : GuardSt) (t : Int) (x : Latest) : Bool := !x.heard || decide (g.plan.silence < t - x.second)
def cbefore (g : GuardSt) (c : GState) : Bool := !c.safe && decide (c.post < g.plan.clear - 1)
def cmissing (g : GuardSt) (t : Int) (c : GState) : Bool := !c.safe && !c.found && decide (c.post < g.plan.posts - 1) && decide (g.plan.missing < t - c.second)
def cinterval (g : GuardSt) (t : Int) (c : GState) : Bool := decide (t - g.plan.interval < c.second)
def GuardSt.forbids (g : GuardSt) (car : Nat) (t : Int) : Nat → Bool
  | 0 => !g.opened.value
  | 1 => g.red.any (·.value)
  | 2 => g.posts.any (lsilent g t)
  | 3 => !g.covered.value
  | 4 => g.cars.any fun c => c.started && cbefore g c
  | 5 => g.cars.any fun c => c.started && cmissing g t c
  | 6 => g.cars.any fun c => c.started && cinterval g t c
  | _ => (g.cars.drop car).any (·.started)
def GuardSt.may (g : GuardSt) (car : Nat) (t : Int) : List Int := ((List.range 8).filter (g.forbids car t)).map fun i : Nat => (1 + (i : Int))
def encI (i : Int) : List Value := [.int .i64 i]
def decLatest : List Value → Latest
  | [.bool a, .int _ s, .bool h] => ⟨a, s, h⟩
  | _ => ⟨false, 0, false⟩
def decG : List Value → GState
  | [.bool a, .int _ s, .int _ p, .bool b, .bool c] => ⟨a, s, p, b, c⟩
  | _ => ⟨false, 0, 0, false, false⟩
@[simp] theorem decLatest_cells (x : Latest) : decLatest x.cells = x := rfl
@[simp] theorem decG_cells (x : GState) : decG x.cells = x := rfl
section
variable {w0 : World} {M : List Ent}
theorem guard_flag1_c (x : Latest) : ∀ w, Ok w0 M w → Calls Tryz.prog 102 #[.agg x.cells.toArray] w (fun e w' => e = .returned (.bool (x.value)) ∧ Ok w0 M w') := by
  refine enter (vs := [_]) Tryz.func102 rfl Tryz.ntmps102 rfl ?_
  refine t_seq ?_
  refine t_region ?_
  refine t_eff rfl (e_box rfl rfl fun b1 => ?_)
  refine t_val (r_assign rfl) rfl ?_
  refine t_nil ?_
  refine Tr.keep (env' := [(1, _)]) ⟨rfl, trivial⟩ ?_
  refine t_then ?_
  refine t_seq ?_
  refine t_region ?_
  refine t_val (r_fa fo_116_0 rfl) rfl ?_
  refine t_val (r_load ca_4 rfl (rd_m (.head _) rfl)) rfl ?_
  refine t_val (r_assign rfl) rfl ?_
  refine t_nil ?_
  refine Tr.keep (env' := [(2, _)]) ⟨rfl, trivial⟩ ?_
  refine t_then ?_
  refine t_retc ?_
  refine t_ret1 rfl rfl (fun w hw => ?_)
  exact ⟨rfl, Ok.sub hw (List.sublist_cons_self _ _)⟩
theorem guard_order1_c (x : GState) : ∀ w, Ok w0 M w → Calls Tryz.prog 109 #[.agg x.cells.toArray] w (fun e w' => e = .returned (.bool (x.started)) ∧ Ok w0 M w') := by
  refine enter (vs := [_]) Tryz.func109 rfl Tryz.ntmps109 rfl ?_
  refine t_seq ?_
  refine t_region ?_
  refine t_eff rfl (e_box rfl rfl fun b1 => ?_)
  refine t_val (r_assign rfl) rfl ?_
  refine t_nil ?_
  refine Tr.keep (env' := [(1, _)]) ⟨rfl, trivial⟩ ?_
  refine t_then ?_
  refine t_seq ?_
  refine t_region ?_
  refine t_val (r_fa fo_218_0 rfl) rfl ?_
  refine t_val (r_load ca_4 rfl (rd_m (.head _) rfl)) rfl ?_
  refine t_val (r_assign rfl) rfl ?_
  refine t_nil ?_
  refine Tr.keep (env' := [(2, _)]) ⟨rfl, trivial⟩ ?_
  refine t_then ?_
  refine t_retc ?_
  refine t_ret1 rfl rfl (fun w hw => ?_)
  exact ⟨rfl, Ok.sub hw (List.sublist_cons_self _ _)⟩
theorem guard_silent1_c {g : GuardSt} {l : GAt} {bg bt : Nat} {t : Int} (hg : g.eg l ∈ M) (hb : cel bg 51 [.pointer (some ⟨l.g, 0, none⟩)] ∈ M) (ht : cel bt 3 [.int .i64 t] ∈ M) (hf : g.Fine) (htt : 0 ≤ t ∧ t ≤ 100000) (x : Latest) (hx : 0 ≤ x.second ∧ x.second ≤ 100000) : ∀ w, Ok w0 M w → Calls Tryz.prog 103 #[.agg x.cells.toArray, .pointer (some ⟨bt, 0, none⟩), .pointer (some ⟨bg, 0, none⟩)] w (fun e w' => e = .returned (.bool (lsilent g t x)) ∧ Ok w0 M w') := by
  refine enter (vs := [_, _, _]) Tryz.func103 rfl Tryz.ntmps103 rfl ?_
  refine t_seq ?_
  refine t_region ?_
  refine t_eff rfl (e_box rfl rfl fun b3 => ?_)
  refine t_val (r_assign rfl) rfl ?_
  refine t_nil ?_
  refine Tr.keep (env' := [(1, _), (2, _), (3, _)]) ⟨rfl, rfl, rfl, trivial⟩ ?_
  refine t_then ?_
  refine t_seq ?_
  refine Tr.keep (env' := [(1, _), (2, _), (3, _)]) ⟨rfl, rfl, rfl, trivial⟩ ?_
  refine t_cutu [(4, .bool (!x.heard || decide (g.plan.silence < t - x.second)))] (fun K hK => ?_) ?_
  · skip
    refine d_begin mixed rfl ?_
    refine d_val 0 rfl (by kernel_rfl) (by kernel_rfl) (by kernel_rfl) (.then (.then .body)) (.refl _) rfl (r_fa fo_116_2 rfl) ?_
    refine d_val 1 rfl (by kernel_rfl) (by kernel_rfl) (by kernel_rfl) (.then (.then .body)) (.refl _) rfl (r_load ca_4 rfl (rd_m (.head _) rfl)) ?_
    refine d_val 2 rfl (by kernel_rfl) (by kernel_rfl) (by kernel_rfl) (.then (.then .body)) (.refl _) rfl (r_not rfl) ?_
    refine d_val 3 rfl (by kernel_rfl) (by kernel_rfl) (by kernel_rfl) (.then (.then .body)) (.refl _) rfl (r_move rfl) ?_
    refine t_cases_at (s := 8) rfl (fun hd1 => ?_) (fun hd1 => ?_)
    · skip
      refine dg_skip 4 hd1 rfl (by kernel_rfl) (by kernel_rfl) (by kernel_rfl) (.then (.then .body)) (.refl _) rfl rfl rfl rfl ?_
      refine dg_skip 5 hd1 rfl (by kernel_rfl) (by kernel_rfl) (by kernel_rfl) (.then (.then .body)) (.refl _) rfl rfl rfl rfl ?_
      refine dg_skip 6 hd1 rfl (by kernel_rfl) (by kernel_rfl) (by kernel_rfl) (.then (.then .body)) (.refl _) rfl rfl rfl rfl ?_
      refine dg_skip 7 hd1 rfl (by kernel_rfl) (by kernel_rfl) (by kernel_rfl) (.then (.then .body)) (.refl _) rfl rfl rfl rfl ?_
      refine dg_skip 8 hd1 rfl (by kernel_rfl) (by kernel_rfl) (by kernel_rfl) (.then (.then .body)) (.refl _) rfl rfl rfl rfl ?_
      refine dg_skip 9 hd1 rfl (by kernel_rfl) (by kernel_rfl) (by kernel_rfl) (.then (.then .body)) (.refl _) rfl rfl rfl rfl ?_
      refine dg_skip 10 hd1 rfl (by kernel_rfl) (by kernel_rfl) (by kernel_rfl) (.then (.then .body)) (.refl _) rfl rfl rfl rfl ?_
      refine dg_skip 11 hd1 rfl (by kernel_rfl) (by kernel_rfl) (by kernel_rfl) (.then (.then .body)) (.refl _) rfl rfl rfl rfl ?_
      refine dg_skip 12 hd1 rfl (by kernel_rfl) (by kernel_rfl) (by kernel_rfl) (.then (.then .body)) (.refl _) rfl rfl rfl rfl ?_
      refine dg_skip 13 hd1 rfl (by kernel_rfl) (by kernel_rfl) (by kernel_rfl) (.then (.then .body)) (.refl _) rfl rfl rfl rfl ?_
      refine d_val 14 rfl (by kernel_rfl) (by kernel_rfl) (by kernel_rfl) (.then (.then .body)) (.refl _) rfl (rp_t hd1 rfl rfl) ?_
      refine d_val 15 rfl (by kernel_rfl) (by kernel_rfl) (by kernel_rfl) (.then (.then .body)) (.refl _) rfl (r_assign rfl) ?_
      refine d_end (by kernel_rfl) ?_
      exact t_thenK hK ⟨(by first | (simp [Env.get, hd1]; done) | exact absurd hd1 (by decide) | (simp_all [Env.get]; done)), rfl, rfl, rfl, trivial⟩ (.refl _)
    · skip
      refine dg_val 4 hd1 rfl (by kernel_rfl) (by kernel_rfl) (by kernel_rfl) (.then (.then .body)) (.refl _) rfl rfl rfl (r_load ca_3 rfl (rd_m (.tail _ ht) rfl)) ?_
      refine dg_val 5 hd1 rfl (by kernel_rfl) (by kernel_rfl) (by kernel_rfl) (.then (.then .body)) (.refl _) rfl rfl rfl (r_fa fo_116_1 rfl) ?_
      refine dg_val 6 hd1 rfl (by kernel_rfl) (by kernel_rfl) (by kernel_rfl) (.then (.then .body)) (.refl _) rfl rfl rfl (r_load ca_3 rfl (rd_m (.head _) rfl)) ?_
      refine dg_val 7 hd1 rfl (by kernel_rfl) (by kernel_rfl) (by kernel_rfl) (.then (.then .body)) (.refl _) rfl rfl rfl (r_subi rfl rfl (by omega)) ?_
      refine dg_val 8 hd1 rfl (by kernel_rfl) (by kernel_rfl) (by kernel_rfl) (.then (.then .body)) (.refl _) rfl rfl rfl (r_load ca_51 rfl (rd_m (.tail _ hb) rfl)) ?_
      refine dg_val 9 hd1 rfl (by kernel_rfl) (by kernel_rfl) (by kernel_rfl) (.then (.then .body)) (.refl _) rfl rfl rfl (r_nilCheck rfl) ?_
      refine dg_val 10 hd1 rfl (by kernel_rfl) (by kernel_rfl) (by kernel_rfl) (.then (.then .body)) (.refl _) rfl rfl rfl (r_fa fo_121_0 rfl) ?_
      refine dg_val 11 hd1 rfl (by kernel_rfl) (by kernel_rfl) (by kernel_rfl) (.then (.then .body)) (.refl _) rfl rfl rfl (r_fa fo_35_1 rfl) ?_
      refine dg_val 12 hd1 rfl (by kernel_rfl) (by kernel_rfl) (by kernel_rfl) (.then (.then .body)) (.refl _) rfl rfl rfl (r_load ca_3 rfl (rd_m (.tail _ hg) rfl)) ?_
      refine dg_val 13 hd1 rfl (by kernel_rfl) (by kernel_rfl) (by kernel_rfl) (.then (.then .body)) (.refl _) rfl rfl rfl (r_gt rfl rfl) ?_
      refine d_val 14 rfl (by kernel_rfl) (by kernel_rfl) (by kernel_rfl) (.then (.then .body)) (.refl _) rfl (rp_f hd1 rfl rfl) ?_
      refine d_val 15 rfl (by kernel_rfl) (by kernel_rfl) (by kernel_rfl) (.then (.then .body)) (.refl _) rfl (r_assign rfl) ?_
      refine d_end (by kernel_rfl) ?_
      exact t_thenK hK ⟨(by first | (simp [Env.get, hd1]; done) | exact absurd hd1 (by decide) | (simp_all [Env.get]; done)), rfl, rfl, rfl, trivial⟩ (.refl _)
  refine Tr.keep (env' := [(4, _)]) ⟨rfl, trivial⟩ ?_
  refine t_then ?_
  refine t_retc ?_
  refine t_ret1 rfl rfl (fun w hw => ?_)
  exact ⟨rfl, Ok.sub hw (List.sublist_cons_self _ _)⟩
theorem guard_before1_c {g : GuardSt} {l : GAt} {bg bt : Nat} {t : Int} (hg : g.eg l ∈ M) (hb : cel bg 51 [.pointer (some ⟨l.g, 0, none⟩)] ∈ M) (hf : g.Fine) (x : GState) : ∀ w, Ok w0 M w → Calls Tryz.prog 105 #[.agg x.cells.toArray, .pointer (some ⟨bg, 0, none⟩)] w (fun e w' => e = .returned (.bool (cbefore g x)) ∧ Ok w0 M w') := by
  have hcl := hf.cle; have h2 := hf.posts; have h3 := hf.np
  refine enter (vs := [_, _]) Tryz.func105 rfl Tryz.ntmps105 rfl ?_
  refine t_seq ?_
  refine t_region ?_
  refine t_eff rfl (e_box rfl rfl fun b2 => ?_)
  refine t_val (r_assign rfl) rfl ?_
  refine t_nil ?_
  refine Tr.keep (env' := [(1, _), (2, _)]) ⟨rfl, rfl, trivial⟩ ?_
  refine t_then ?_
  refine t_seq ?_
  refine Tr.keep (env' := [(1, _), (2, _)]) ⟨rfl, rfl, trivial⟩ ?_
  refine t_cutu [(3, .bool (!x.safe && decide (x.post < g.plan.clear - 1)))] (fun K hK => ?_) ?_
  · skip
    refine d_begin mixed rfl ?_
    refine d_val 0 rfl (by kernel_rfl) (by kernel_rfl) (by kernel_rfl) (.then (.then .body)) (.refl _) rfl (r_fa fo_218_3 rfl) ?_
    refine d_val 1 rfl (by kernel_rfl) (by kernel_rfl) (by kernel_rfl) (.then (.then .body)) (.refl _) rfl (r_load ca_4 rfl (rd_m (.head _) rfl)) ?_
    refine d_val 2 rfl (by kernel_rfl) (by kernel_rfl) (by kernel_rfl) (.then (.then .body)) (.refl _) rfl (r_not rfl) ?_
    refine d_val 3 rfl (by kernel_rfl) (by kernel_rfl) (by kernel_rfl) (.then (.then .body)) (.refl _) rfl (r_move rfl) ?_
    refine t_cases_at (s := 7) rfl (fun hd1 => ?_) (fun hd1 => ?_)
    · skip
      refine dg_val 4 hd1 rfl (by kernel_rfl) (by kernel_rfl) (by kernel_rfl) (.then (.then .body)) (.refl _) rfl rfl rfl (r_fa fo_218_2 rfl) ?_
      refine dg_val 5 hd1 rfl (by kernel_rfl) (by kernel_rfl) (by kernel_rfl) (.then (.then .body)) (.refl _) rfl rfl rfl (r_load ca_3 rfl (rd_m (.head _) rfl)) ?_
      refine dg_val 6 hd1 rfl (by kernel_rfl) (by kernel_rfl) (by kernel_rfl) (.then (.then .body)) (.refl _) rfl rfl rfl (r_load ca_51 rfl (rd_m (.tail _ hb) rfl)) ?_
      refine dg_val 7 hd1 rfl (by kernel_rfl) (by kernel_rfl) (by kernel_rfl) (.then (.then .body)) (.refl _) rfl rfl rfl (r_nilCheck rfl) ?_
      refine dg_val 8 hd1 rfl (by kernel_rfl) (by kernel_rfl) (by kernel_rfl) (.then (.then .body)) (.refl _) rfl rfl rfl (r_fa fo_121_0 rfl) ?_
      refine dg_val 9 hd1 rfl (by kernel_rfl) (by kernel_rfl) (by kernel_rfl) (.then (.then .body)) (.refl _) rfl rfl rfl (r_fa fo_35_2 rfl) ?_
      refine dg_val 10 hd1 rfl (by kernel_rfl) (by kernel_rfl) (by kernel_rfl) (.then (.then .body)) (.refl _) rfl rfl rfl (r_load ca_3 rfl (rd_m (.tail _ hg) rfl)) ?_
      refine dg_val 11 hd1 rfl (by kernel_rfl) (by kernel_rfl) (by kernel_rfl) (.then (.then .body)) (.refl _) rfl rfl rfl (r_subi rfl rfl (by omega)) ?_
      refine dg_val 12 hd1 rfl (by kernel_rfl) (by kernel_rfl) (by kernel_rfl) (.then (.then .body)) (.refl _) rfl rfl rfl (r_lt rfl rfl) ?_
      refine d_val 13 rfl (by kernel_rfl) (by kernel_rfl) (by kernel_rfl) (.then (.then .body)) (.refl _) rfl (rp_t hd1 rfl rfl) ?_
      refine d_val 14 rfl (by kernel_rfl) (by kernel_rfl) (by kernel_rfl) (.then (.then .body)) (.refl _) rfl (r_assign rfl) ?_
      refine d_end (by kernel_rfl) ?_
      exact t_thenK hK ⟨(by first | (simp [Env.get, hd1]; done) | exact absurd hd1 (by decide) | (simp_all [Env.get]; done)), rfl, rfl, trivial⟩ (.refl _)
    · skip
      refine dg_skip 4 hd1 rfl (by kernel_rfl) (by kernel_rfl) (by kernel_rfl) (.then (.then .body)) (.refl _) rfl rfl rfl rfl ?_
      refine dg_skip 5 hd1 rfl (by kernel_rfl) (by kernel_rfl) (by kernel_rfl) (.then (.then .body)) (.refl _) rfl rfl rfl rfl ?_
      refine dg_skip 6 hd1 rfl (by kernel_rfl) (by kernel_rfl) (by kernel_rfl) (.then (.then .body)) (.refl _) rfl rfl rfl rfl ?_
      refine dg_skip 7 hd1 rfl (by kernel_rfl) (by kernel_rfl) (by kernel_rfl) (.then (.then .body)) (.refl _) rfl rfl rfl rfl ?_
      refine dg_skip 8 hd1 rfl (by kernel_rfl) (by kernel_rfl) (by kernel_rfl) (.then (.then .body)) (.refl _) rfl rfl rfl rfl ?_
      refine dg_skip 9 hd1 rfl (by kernel_rfl) (by kernel_rfl) (by kernel_rfl) (.then (.then .body)) (.refl _) rfl rfl rfl rfl ?_
      refine dg_skip 10 hd1 rfl (by kernel_rfl) (by kernel_rfl) (by kernel_rfl) (.then (.then .body)) (.refl _) rfl rfl rfl rfl ?_
      refine dg_skip 11 hd1 rfl (by kernel_rfl) (by kernel_rfl) (by kernel_rfl) (.then (.then .body)) (.refl _) rfl rfl rfl rfl ?_
      refine dg_skip 12 hd1 rfl (by kernel_rfl) (by kernel_rfl) (by kernel_rfl) (.then (.then .body)) (.refl _) rfl rfl rfl rfl ?_
      refine d_val 13 rfl (by kernel_rfl) (by kernel_rfl) (by kernel_rfl) (.then (.then .body)) (.refl _) rfl (rp_f hd1 rfl rfl) ?_
      refine d_val 14 rfl (by kernel_rfl) (by kernel_rfl) (by kernel_rfl) (.then (.then .body)) (.refl _) rfl (r_assign rfl) ?_
      refine d_end (by kernel_rfl) ?_
      exact t_thenK hK ⟨(by first | (simp [Env.get, hd1]; done) | exact absurd hd1 (by decide) | (simp_all [Env.get]; done)), rfl, rfl, trivial⟩ (.refl _)
  refine Tr.keep (env' := [(3, _)]) ⟨rfl, trivial⟩ ?_
  refine t_then ?_
  refine t_retc ?_
  refine t_ret1 rfl rfl (fun w hw => ?_)
  exact ⟨rfl, Ok.sub hw (List.sublist_cons_self _ _)⟩
theorem guard_missing1_c {g : GuardSt} {l : GAt} {bg bt : Nat} {t : Int} (hg : g.eg l ∈ M) (hb : cel bg 51 [.pointer (some ⟨l.g, 0, none⟩)] ∈ M) (ht : cel bt 3 [.int .i64 t] ∈ M) (hf : g.Fine) (htt : 0 ≤ t ∧ t ≤ 100000) (x : GState) (hx : 0 ≤ x.second ∧ x.second ≤ 100000) : ∀ w, Ok w0 M w → Calls Tryz.prog 106 #[.agg x.cells.toArray, .pointer (some ⟨bg, 0, none⟩), .pointer (some ⟨bt, 0, none⟩)] w (fun e w' => e = .returned (.bool (cmissing g t x)) ∧ Ok w0 M w') := by
  have hcl := hf.cle; have h2 := hf.posts; have h3 := hf.np
  refine enter (vs := [_, _, _]) Tryz.func106 rfl Tryz.ntmps106 rfl ?_
  refine t_seq ?_
  refine t_region ?_
  refine t_eff rfl (e_box rfl rfl fun b3 => ?_)
  refine t_val (r_assign rfl) rfl ?_
  refine t_nil ?_
  refine Tr.keep (env' := [(1, _), (2, _), (3, _)]) ⟨rfl, rfl, rfl, trivial⟩ ?_
  refine t_then ?_
  refine t_seq ?_
  refine Tr.keep (env' := [(1, _), (2, _), (3, _)]) ⟨rfl, rfl, rfl, trivial⟩ ?_
  refine t_cutu [(4, .bool (!x.safe && !x.found && decide (x.post < g.plan.posts - 1) && decide (g.plan.missing < t - x.second)))] (fun K hK => ?_) ?_
  · skip
    refine d_begin mixed rfl ?_
    refine d_val 0 rfl (by kernel_rfl) (by kernel_rfl) (by kernel_rfl) (.then (.then .body)) (.refl _) rfl (r_fa fo_218_3 rfl) ?_
    refine d_val 1 rfl (by kernel_rfl) (by kernel_rfl) (by kernel_rfl) (.then (.then .body)) (.refl _) rfl (r_load ca_4 rfl (rd_m (.head _) rfl)) ?_
    refine d_val 2 rfl (by kernel_rfl) (by kernel_rfl) (by kernel_rfl) (.then (.then .body)) (.refl _) rfl (r_not rfl) ?_
    refine d_val 3 rfl (by kernel_rfl) (by kernel_rfl) (by kernel_rfl) (.then (.then .body)) (.refl _) rfl (r_move rfl) ?_
    refine t_cases_at (s := 8) rfl (fun hd1 => ?_) (fun hd1 => ?_)
    · skip
      refine dg_val 4 hd1 rfl (by kernel_rfl) (by kernel_rfl) (by kernel_rfl) (.then (.then .body)) (.refl _) rfl rfl rfl (r_fa fo_218_4 rfl) ?_
      refine dg_val 5 hd1 rfl (by kernel_rfl) (by kernel_rfl) (by kernel_rfl) (.then (.then .body)) (.refl _) rfl rfl rfl (r_load ca_4 rfl (rd_m (.head _) rfl)) ?_
      refine dg_val 6 hd1 rfl (by kernel_rfl) (by kernel_rfl) (by kernel_rfl) (.then (.then .body)) (.refl _) rfl rfl rfl (r_not rfl) ?_
      refine d_val 7 rfl (by kernel_rfl) (by kernel_rfl) (by kernel_rfl) (.then (.then .body)) (.refl _) rfl (rp_t hd1 rfl rfl) ?_
      refine d_val 8 rfl (by kernel_rfl) (by kernel_rfl) (by kernel_rfl) (.then (.then .body)) (.refl _) rfl (r_move rfl) ?_
      refine t_cases_at (s := 13) rfl (fun hd2 => ?_) (fun hd2 => ?_)
      · skip
        refine dg_val 9 hd2 rfl (by kernel_rfl) (by kernel_rfl) (by kernel_rfl) (.then (.then .body)) (.refl _) rfl rfl rfl (r_fa fo_218_2 rfl) ?_
        refine dg_val 10 hd2 rfl (by kernel_rfl) (by kernel_rfl) (by kernel_rfl) (.then (.then .body)) (.refl _) rfl rfl rfl (r_load ca_3 rfl (rd_m (.head _) rfl)) ?_
        refine dg_val 11 hd2 rfl (by kernel_rfl) (by kernel_rfl) (by kernel_rfl) (.then (.then .body)) (.refl _) rfl rfl rfl (r_load ca_51 rfl (rd_m (.tail _ hb) rfl)) ?_
        refine dg_val 12 hd2 rfl (by kernel_rfl) (by kernel_rfl) (by kernel_rfl) (.then (.then .body)) (.refl _) rfl rfl rfl (r_nilCheck rfl) ?_
        refine dg_val 13 hd2 rfl (by kernel_rfl) (by kernel_rfl) (by kernel_rfl) (.then (.then .body)) (.refl _) rfl rfl rfl (r_fa fo_121_0 rfl) ?_
        refine dg_val 14 hd2 rfl (by kernel_rfl) (by kernel_rfl) (by kernel_rfl) (.then (.then .body)) (.refl _) rfl rfl rfl (r_fa fo_35_0 rfl) ?_
        refine dg_val 15 hd2 rfl (by kernel_rfl) (by kernel_rfl) (by kernel_rfl) (.then (.then .body)) (.refl _) rfl rfl rfl (r_load ca_3 rfl (rd_m (.tail _ hg) rfl)) ?_
        refine dg_val 16 hd2 rfl (by kernel_rfl) (by kernel_rfl) (by kernel_rfl) (.then (.then .body)) (.refl _) rfl rfl rfl (r_subi rfl rfl (by omega)) ?_
        refine dg_val 17 hd2 rfl (by kernel_rfl) (by kernel_rfl) (by kernel_rfl) (.then (.then .body)) (.refl _) rfl rfl rfl (r_lt rfl rfl) ?_
        refine d_val 18 rfl (by kernel_rfl) (by kernel_rfl) (by kernel_rfl) (.then (.then .body)) (.refl _) rfl (rp_t hd2 rfl rfl) ?_
        refine d_val 19 rfl (by kernel_rfl) (by kernel_rfl) (by kernel_rfl) (.then (.then .body)) (.refl _) rfl (r_move rfl) ?_
        refine t_cases_at (s := 24) rfl (fun hd3 => ?_) (fun hd3 => ?_)
        · skip
          refine dg_val 20 hd3 rfl (by kernel_rfl) (by kernel_rfl) (by kernel_rfl) (.then (.then .body)) (.refl _) rfl rfl rfl (r_load ca_3 rfl (rd_m (.tail _ ht) rfl)) ?_
          refine dg_val 21 hd3 rfl (by kernel_rfl) (by kernel_rfl) (by kernel_rfl) (.then (.then .body)) (.refl _) rfl rfl rfl (r_fa fo_218_1 rfl) ?_
          refine dg_val 22 hd3 rfl (by kernel_rfl) (by kernel_rfl) (by kernel_rfl) (.then (.then .body)) (.refl _) rfl rfl rfl (r_load ca_3 rfl (rd_m (.head _) rfl)) ?_
          refine dg_val 23 hd3 rfl (by kernel_rfl) (by kernel_rfl) (by kernel_rfl) (.then (.then .body)) (.refl _) rfl rfl rfl (r_subi rfl rfl (by omega)) ?_
          refine dg_val 24 hd3 rfl (by kernel_rfl) (by kernel_rfl) (by kernel_rfl) (.then (.then .body)) (.refl _) rfl rfl rfl (r_load ca_51 rfl (rd_m (.tail _ hb) rfl)) ?_
          refine dg_val 25 hd3 rfl (by kernel_rfl) (by kernel_rfl) (by kernel_rfl) (.then (.then .body)) (.refl _) rfl rfl rfl (r_nilCheck rfl) ?_
          refine dg_val 26 hd3 rfl (by kernel_rfl) (by kernel_rfl) (by kernel_rfl) (.then (.then .body)) (.refl _) rfl rfl rfl (r_fa fo_121_0 rfl) ?_
          refine dg_val 27 hd3 rfl (by kernel_rfl) (by kernel_rfl) (by kernel_rfl) (.then (.then .body)) (.refl _) rfl rfl rfl (r_fa fo_35_4 rfl) ?_
          refine dg_val 28 hd3 rfl (by kernel_rfl) (by kernel_rfl) (by kernel_rfl) (.then (.then .body)) (.refl _) rfl rfl rfl (r_load ca_3 rfl (rd_m (.tail _ hg) rfl)) ?_
          refine dg_val 29 hd3 rfl (by kernel_rfl) (by kernel_rfl) (by kernel_rfl) (.then (.then .body)) (.refl _) rfl rfl rfl (r_gt rfl rfl) ?_
          refine d_val 30 rfl (by kernel_rfl) (by kernel_rfl) (by kernel_rfl) (.then (.then .body)) (.refl _) rfl (rp_t hd3 rfl rfl) ?_
          refine d_val 31 rfl (by kernel_rfl) (by kernel_rfl) (by kernel_rfl) (.then (.then .body)) (.refl _) rfl (r_assign rfl) ?_
          refine d_end (by kernel_rfl) ?_
          exact t_thenK hK ⟨(by first | (simp [Env.get, hd1, hd2, hd3]; done) | exact absurd hd1 (by decide) | exact absurd hd2 (by decide) | exact absurd hd3 (by decide) | (simp_all [Env.get]; done)), rfl, rfl, rfl, trivial⟩ (.refl _)
        · skip
          refine dg_skip 20 hd3 rfl (by kernel_rfl) (by kernel_rfl) (by kernel_rfl) (.then (.then .body)) (.refl _) rfl rfl rfl rfl ?_
          refine dg_skip 21 hd3 rfl (by kernel_rfl) (by kernel_rfl) (by kernel_rfl) (.then (.then .body)) (.refl _) rfl rfl rfl rfl ?_
          refine dg_skip 22 hd3 rfl (by kernel_rfl) (by kernel_rfl) (by kernel_rfl) (.then (.then .body)) (.refl _) rfl rfl rfl rfl ?_
          refine dg_skip 23 hd3 rfl (by kernel_rfl) (by kernel_rfl) (by kernel_rfl) (.then (.then .body)) (.refl _) rfl rfl rfl rfl ?_
          refine dg_skip 24 hd3 rfl (by kernel_rfl) (by kernel_rfl) (by kernel_rfl) (.then (.then .body)) (.refl _) rfl rfl rfl rfl ?_
          refine dg_skip 25 hd3 rfl (by kernel_rfl) (by kernel_rfl) (by kernel_rfl) (.then (.then .body)) (.refl _) rfl rfl rfl rfl ?_
          refine dg_skip 26 hd3 rfl (by kernel_rfl) (by kernel_rfl) (by kernel_rfl) (.then (.then .body)) (.refl _) rfl rfl rfl rfl ?_
          refine dg_skip 27 hd3 rfl (by kernel_rfl) (by kernel_rfl) (by kernel_rfl) (.then (.then .body)) (.refl _) rfl rfl rfl rfl ?_
          refine dg_skip 28 hd3 rfl (by kernel_rfl) (by kernel_rfl) (by kernel_rfl) (.then (.then .body)) (.refl _) rfl rfl rfl rfl ?_
          refine dg_skip 29 hd3 rfl (by kernel_rfl) (by kernel_rfl) (by kernel_rfl) (.then (.then .body)) (.refl _) rfl rfl rfl rfl ?_
          refine d_val 30 rfl (by kernel_rfl) (by kernel_rfl) (by kernel_rfl) (.then (.then .body)) (.refl _) rfl (rp_f hd3 rfl rfl) ?_
          refine d_val 31 rfl (by kernel_rfl) (by kernel_rfl) (by kernel_rfl) (.then (.then .body)) (.refl _) rfl (r_assign rfl) ?_
          refine d_end (by kernel_rfl) ?_
          exact t_thenK hK ⟨(by first | (simp [Env.get, hd1, hd2, hd3]; done) | exact absurd hd1 (by decide) | exact absurd hd2 (by decide) | exact absurd hd3 (by decide) | (simp_all [Env.get]; done)), rfl, rfl, rfl, trivial⟩ (.refl _)
      · skip
        refine dg_skip 9 hd2 rfl (by kernel_rfl) (by kernel_rfl) (by kernel_rfl) (.then (.then .body)) (.refl _) rfl rfl rfl rfl ?_
        refine dg_skip 10 hd2 rfl (by kernel_rfl) (by kernel_rfl) (by kernel_rfl) (.then (.then .body)) (.refl _) rfl rfl rfl rfl ?_
        refine dg_skip 11 hd2 rfl (by kernel_rfl) (by kernel_rfl) (by kernel_rfl) (.then (.then .body)) (.refl _) rfl rfl rfl rfl ?_
        refine dg_skip 12 hd2 rfl (by kernel_rfl) (by kernel_rfl) (by kernel_rfl) (.then (.then .body)) (.refl _) rfl rfl rfl rfl ?_
        refine dg_skip 13 hd2 rfl (by kernel_rfl) (by kernel_rfl) (by kernel_rfl) (.then (.then .body)) (.refl _) rfl rfl rfl rfl ?_
        refine dg_skip 14 hd2 rfl (by kernel_rfl) (by kernel_rfl) (by kernel_rfl) (.then (.then .body)) (.refl _) rfl rfl rfl rfl ?_
        refine dg_skip 15 hd2 rfl (by kernel_rfl) (by kernel_rfl) (by kernel_rfl) (.then (.then .body)) (.refl _) rfl rfl rfl rfl ?_
        refine dg_skip 16 hd2 rfl (by kernel_rfl) (by kernel_rfl) (by kernel_rfl) (.then (.then .body)) (.refl _) rfl rfl rfl rfl ?_
        refine dg_skip 17 hd2 rfl (by kernel_rfl) (by kernel_rfl) (by kernel_rfl) (.then (.then .body)) (.refl _) rfl rfl rfl rfl ?_
        refine d_val 18 rfl (by kernel_rfl) (by kernel_rfl) (by kernel_rfl) (.then (.then .body)) (.refl _) rfl (rp_f hd2 rfl rfl) ?_
        refine d_val 19 rfl (by kernel_rfl) (by kernel_rfl) (by kernel_rfl) (.then (.then .body)) (.refl _) rfl (r_move rfl) ?_
        refine d_gskip 20 rfl (by kernel_rfl) (by kernel_rfl) (by kernel_rfl) (.then (.then .body)) (.refl _) rfl rfl rfl rfl ?_
        refine d_gskip 21 rfl (by kernel_rfl) (by kernel_rfl) (by kernel_rfl) (.then (.then .body)) (.refl _) rfl rfl rfl rfl ?_
        refine d_gskip 22 rfl (by kernel_rfl) (by kernel_rfl) (by kernel_rfl) (.then (.then .body)) (.refl _) rfl rfl rfl rfl ?_
        refine d_gskip 23 rfl (by kernel_rfl) (by kernel_rfl) (by kernel_rfl) (.then (.then .body)) (.refl _) rfl rfl rfl rfl ?_
        refine d_gskip 24 rfl (by kernel_rfl) (by kernel_rfl) (by kernel_rfl) (.then (.then .body)) (.refl _) rfl rfl rfl rfl ?_
        refine d_gskip 25 rfl (by kernel_rfl) (by kernel_rfl) (by kernel_rfl) (.then (.then .body)) (.refl _) rfl rfl rfl rfl ?_
        refine d_gskip 26 rfl (by kernel_rfl) (by kernel_rfl) (by kernel_rfl) (.then (.then .body)) (.refl _) rfl rfl rfl rfl ?_
        refine d_gskip 27 rfl (by kernel_rfl) (by kernel_rfl) (by kernel_rfl) (.then (.then .body)) (.refl _) rfl rfl rfl rfl ?_
        refine d_gskip 28 rfl (by kernel_rfl) (by kernel_rfl) (by kernel_rfl) (.then (.then .body)) (.refl _) rfl rfl rfl rfl ?_
        refine d_gskip 29 rfl (by kernel_rfl) (by kernel_rfl) (by kernel_rfl) (.then (.then .body)) (.refl _) rfl rfl rfl rfl ?_
        refine d_val 30 rfl (by kernel_rfl) (by kernel_rfl) (by kernel_rfl) (.then (.then .body)) (.refl _) rfl (r_pick_f rfl rfl) ?_
        refine d_val 31 rfl (by kernel_rfl) (by kernel_rfl) (by kernel_rfl) (.then (.then .body)) (.refl _) rfl (r_assign rfl) ?_
        refine d_end (by kernel_rfl) ?_
        exact t_thenK hK ⟨(by first | (simp [Env.get, hd1, hd2]; done) | exact absurd hd1 (by decide) | exact absurd hd2 (by decide) | (simp_all [Env.get]; done)), rfl, rfl, rfl, trivial⟩ (.refl _)
    · skip
      refine dg_skip 4 hd1 rfl (by kernel_rfl) (by kernel_rfl) (by kernel_rfl) (.then (.then .body)) (.refl _) rfl rfl rfl rfl ?_
      refine dg_skip 5 hd1 rfl (by kernel_rfl) (by kernel_rfl) (by kernel_rfl) (.then (.then .body)) (.refl _) rfl rfl rfl rfl ?_
      refine dg_skip 6 hd1 rfl (by kernel_rfl) (by kernel_rfl) (by kernel_rfl) (.then (.then .body)) (.refl _) rfl rfl rfl rfl ?_
      refine d_val 7 rfl (by kernel_rfl) (by kernel_rfl) (by kernel_rfl) (.then (.then .body)) (.refl _) rfl (rp_f hd1 rfl rfl) ?_
      refine d_val 8 rfl (by kernel_rfl) (by kernel_rfl) (by kernel_rfl) (.then (.then .body)) (.refl _) rfl (r_move rfl) ?_
      refine d_gskip 9 rfl (by kernel_rfl) (by kernel_rfl) (by kernel_rfl) (.then (.then .body)) (.refl _) rfl rfl rfl rfl ?_
      refine d_gskip 10 rfl (by kernel_rfl) (by kernel_rfl) (by kernel_rfl) (.then (.then .body)) (.refl _) rfl rfl rfl rfl ?_
      refine d_gskip 11 rfl (by kernel_rfl) (by kernel_rfl) (by kernel_rfl) (.then (.then .body)) (.refl _) rfl rfl rfl rfl ?_
      refine d_gskip 12 rfl (by kernel_rfl) (by kernel_rfl) (by kernel_rfl) (.then (.then .body)) (.refl _) rfl rfl rfl rfl ?_
      refine d_gskip 13 rfl (by kernel_rfl) (by kernel_rfl) (by kernel_rfl) (.then (.then .body)) (.refl _) rfl rfl rfl rfl ?_
      refine d_gskip 14 rfl (by kernel_rfl) (by kernel_rfl) (by kernel_rfl) (.then (.then .body)) (.refl _) rfl rfl rfl rfl ?_
      refine d_gskip 15 rfl (by kernel_rfl) (by kernel_rfl) (by kernel_rfl) (.then (.then .body)) (.refl _) rfl rfl rfl rfl ?_
      refine d_gskip 16 rfl (by kernel_rfl) (by kernel_rfl) (by kernel_rfl) (.then (.then .body)) (.refl _) rfl rfl rfl rfl ?_
      refine d_gskip 17 rfl (by kernel_rfl) (by kernel_rfl) (by kernel_rfl) (.then (.then .body)) (.refl _) rfl rfl rfl rfl ?_
      refine d_val 18 rfl (by kernel_rfl) (by kernel_rfl) (by kernel_rfl) (.then (.then .body)) (.refl _) rfl (r_pick_f rfl rfl) ?_
      refine d_val 19 rfl (by kernel_rfl) (by kernel_rfl) (by kernel_rfl) (.then (.then .body)) (.refl _) rfl (r_move rfl) ?_
      refine d_gskip 20 rfl (by kernel_rfl) (by kernel_rfl) (by kernel_rfl) (.then (.then .body)) (.refl _) rfl rfl rfl rfl ?_
      refine d_gskip 21 rfl (by kernel_rfl) (by kernel_rfl) (by kernel_rfl) (.then (.then .body)) (.refl _) rfl rfl rfl rfl ?_
      refine d_gskip 22 rfl (by kernel_rfl) (by kernel_rfl) (by kernel_rfl) (.then (.then .body)) (.refl _) rfl rfl rfl rfl ?_
      refine d_gskip 23 rfl (by kernel_rfl) (by kernel_rfl) (by kernel_rfl) (.then (.then .body)) (.refl _) rfl rfl rfl rfl ?_
      refine d_gskip 24 rfl (by kernel_rfl) (by kernel_rfl) (by kernel_rfl) (.then (.then .body)) (.refl _) rfl rfl rfl rfl ?_
      refine d_gskip 25 rfl (by kernel_rfl) (by kernel_rfl) (by kernel_rfl) (.then (.then .body)) (.refl _) rfl rfl rfl rfl ?_
      refine d_gskip 26 rfl (by kernel_rfl) (by kernel_rfl) (by kernel_rfl) (.then (.then .body)) (.refl _) rfl rfl rfl rfl ?_
      refine d_gskip 27 rfl (by kernel_rfl) (by kernel_rfl) (by kernel_rfl) (.then (.then .body)) (.refl _) rfl rfl rfl rfl ?_
      refine d_gskip 28 rfl (by kernel_rfl) (by kernel_rfl) (by kernel_rfl) (.then (.then .body)) (.refl _) rfl rfl rfl rfl ?_
      refine d_gskip 29 rfl (by kernel_rfl) (by kernel_rfl) (by kernel_rfl) (.then (.then .body)) (.refl _) rfl rfl rfl rfl ?_
      refine d_val 30 rfl (by kernel_rfl) (by kernel_rfl) (by kernel_rfl) (.then (.then .body)) (.refl _) rfl (r_pick_f rfl rfl) ?_
      refine d_val 31 rfl (by kernel_rfl) (by kernel_rfl) (by kernel_rfl) (.then (.then .body)) (.refl _) rfl (r_assign rfl) ?_
      refine d_end (by kernel_rfl) ?_
      exact t_thenK hK ⟨(by first | (simp [Env.get, hd1]; done) | exact absurd hd1 (by decide) | (simp_all [Env.get]; done)), rfl, rfl, rfl, trivial⟩ (.refl _)
  refine Tr.keep (env' := [(4, _)]) ⟨rfl, trivial⟩ ?_
  refine t_then ?_
  refine t_retc ?_
  refine t_ret1 rfl rfl (fun w hw => ?_)
  exact ⟨rfl, Ok.sub hw (List.sublist_cons_self _ _)⟩
theorem guard_interval1_c {g : GuardSt} {l : GAt} {bg bt : Nat} {t : Int} (hg : g.eg l ∈ M) (hb : cel bg 51 [.pointer (some ⟨l.g, 0, none⟩)] ∈ M) (ht : cel bt 3 [.int .i64 t] ∈ M) (hf : g.Fine) (htt : 0 ≤ t ∧ t ≤ 100000) (x : GState) : ∀ w, Ok w0 M w → Calls Tryz.prog 107 #[.agg x.cells.toArray, .pointer (some ⟨bt, 0, none⟩), .pointer (some ⟨bg, 0, none⟩)] w (fun e w' => e = .returned (.bool (cinterval g t x)) ∧ Ok w0 M w') := by
  have hin := hf.int
  refine enter (vs := [_, _, _]) Tryz.func107 rfl Tryz.ntmps107 rfl ?_
  refine t_seq ?_
  refine t_region ?_
  refine t_eff rfl (e_box rfl rfl fun b3 => ?_)
  refine t_val (r_assign rfl) rfl ?_
  refine t_nil ?_
  refine Tr.keep (env' := [(1, _), (2, _), (3, _)]) ⟨rfl, rfl, rfl, trivial⟩ ?_
  refine t_then ?_
  refine t_seq ?_
  refine d_begin mixed rfl ?_
  refine d_val 0 rfl (by kernel_rfl) (by kernel_rfl) (by kernel_rfl) (.then .body) (.refl _) rfl (r_fa fo_218_1 rfl) ?_
  refine d_val 1 rfl (by kernel_rfl) (by kernel_rfl) (by kernel_rfl) (.then .body) (.refl _) rfl (r_load ca_3 rfl (rd_m (.head _) rfl)) ?_
  refine d_val 2 rfl (by kernel_rfl) (by kernel_rfl) (by kernel_rfl) (.then .body) (.refl _) rfl (r_load ca_3 rfl (rd_m (.tail _ ht) rfl)) ?_
  refine d_val 3 rfl (by kernel_rfl) (by kernel_rfl) (by kernel_rfl) (.then .body) (.refl _) rfl (r_load ca_51 rfl (rd_m (.tail _ hb) rfl)) ?_
  refine d_val 4 rfl (by kernel_rfl) (by kernel_rfl) (by kernel_rfl) (.then .body) (.refl _) rfl (r_nilCheck rfl) ?_
  refine d_val 5 rfl (by kernel_rfl) (by kernel_rfl) (by kernel_rfl) (.then .body) (.refl _) rfl (r_fa fo_121_0 rfl) ?_
  refine d_val 6 rfl (by kernel_rfl) (by kernel_rfl) (by kernel_rfl) (.then .body) (.refl _) rfl (r_fa fo_35_3 rfl) ?_
  refine d_val 7 rfl (by kernel_rfl) (by kernel_rfl) (by kernel_rfl) (.then .body) (.refl _) rfl (r_load ca_3 rfl (rd_m (.tail _ hg) rfl)) ?_
  refine d_val 8 rfl (by kernel_rfl) (by kernel_rfl) (by kernel_rfl) (.then .body) (.refl _) rfl (r_subi rfl rfl (by omega)) ?_
  refine d_val 9 rfl (by kernel_rfl) (by kernel_rfl) (by kernel_rfl) (.then .body) (.refl _) rfl (r_gt rfl rfl) ?_
  refine d_val 10 rfl (by kernel_rfl) (by kernel_rfl) (by kernel_rfl) (.then .body) (.refl _) rfl (r_assign rfl) ?_
  refine d_end (by kernel_rfl) ?_
  refine Tr.keep (env' := [(4, _)]) ⟨rfl, trivial⟩ ?_
  refine t_then ?_
  refine t_retc ?_
  refine t_ret1 rfl rfl (fun w hw => ?_)
  exact ⟨rfl, Ok.sub hw (List.sublist_cons_self _ _)⟩
theorem guard_started1_c {F : FuncId} {fst cap : Array Value} {bh : Nat} (he : Enters Tryz.prog F) (hh : cel bh 219 [.func (.func F) fst cap] ∈ M) (q : GState → Bool) (x : GState)
   (hq : ∀ M', M.Sublist M' → ∀ w, Ok w0 M' w → Calls Tryz.prog F (fst ++ #[.agg x.cells.toArray] ++ cap) w (fun e w' => e = .returned (.bool (q x)) ∧ Ok w0 M' w')) :
   ∀ w, Ok w0 M w → Calls Tryz.prog 184 #[.agg x.cells.toArray, .pointer (some ⟨bh, 0, none⟩)] w (fun e w' => e = .returned (.bool (x.started && q x)) ∧ Ok w0 M w') := by
  refine enter (vs := [_, _]) Tryz.func184 rfl Tryz.ntmps184 rfl ?_
  refine t_seq ?_
  refine t_region ?_
  refine t_eff rfl (e_box rfl rfl fun b2 => ?_)
  refine t_val (r_assign rfl) rfl ?_
  refine t_nil ?_
  refine Tr.keep (env' := [(1, _), (2, _)]) ⟨rfl, rfl, trivial⟩ ?_
  refine t_then ?_
  refine t_seq ?_
  refine t_region ?_
  refine t_val (r_fa fo_218_0 rfl) rfl ?_
  refine t_val (r_load ca_4 rfl (rd_m (.head _) rfl)) rfl ?_
  refine t_val (r_move rfl) rfl ?_
  apply t_group_and 4 (s := 6) (d := 10) rfl
  · intro hg1 K hK
    refine g_val hg1 rfl rfl (r_load ca_219 rfl (rd_m (.tail _ hh) rfl)) rfl ?_
    refine g_val hg1 rfl rfl (r_loads ca_218 rfl (rds_m (n := 5) (vs := [_, _, _, _, _]) (.head _) rfl) rfl) rfl ?_
    refine g_eff hg1 rfl rfl (e_pcall he rfl rfl rfl rfl (hq _ (List.sublist_cons_self _ _)) ?_)
    refine t_val (rp_t hg1 rfl rfl) rfl ?_
    iterate 3 refine Tr.weak2 rfl ?_
    exact hK _ (and_t hg1)
  · intro hg1 K hK
    refine g_skip hg1 rfl rfl rfl rfl ?_
    refine g_skip hg1 rfl rfl rfl rfl ?_
    refine g_skip hg1 rfl rfl rfl rfl ?_
    refine t_val (rp_f hg1 rfl rfl) rfl ?_
    iterate 3 refine Tr.weak2 rfl ?_
    exact hK _ (and_f hg1)
  refine t_val (r_assign rfl) rfl ?_
  refine t_nil ?_
  refine Tr.keep (env' := [(3, _)]) ⟨rfl, trivial⟩ ?_
  refine t_then ?_
  refine t_retc ?_
  refine t_ret1 rfl rfl (fun w hw => ?_)
  exact ⟨rfl, Ok.sub hw (List.sublist_cons_self _ _)⟩
theorem guard_started_c {g : GuardSt} {l : GAt} {F : FuncId} {fst cap : Array Value} (hg : g.eg l ∈ M) (hc : g.ec l ∈ M) (hf : g.Fine) (he : Enters Tryz.prog F) (q : GState → Bool)
   (hq : ∀ x ∈ g.cars, ∀ M', M.Sublist M' → ∀ w, Ok w0 M' w → Calls Tryz.prog F (fst ++ #[.agg x.cells.toArray] ++ cap) w (fun e w' => e = .returned (.bool (q x)) ∧ Ok w0 M' w')) :
   ∀ w, Ok w0 M w → Calls Tryz.prog 104 #[.pointer (some ⟨l.g, 0, none⟩), .func (.func F) fst cap] w (fun e w' => e = .returned (.bool (g.cars.any fun c => c.started && q c)) ∧ Ok w0 M w') := by
  refine enter (vs := [_, _]) Tryz.func104 rfl Tryz.ntmps104 rfl ?_
  refine t_seq ?_
  refine t_region ?_
  refine t_eff rfl (e_box1 rfl rfl rfl fun b3 => ?_)
  refine t_val (r_assign rfl) rfl ?_
  refine t_nil ?_
  refine Tr.keep (env' := [(0, _), (3, _)]) ⟨rfl, rfl, trivial⟩ ?_
  refine t_then ?_
  refine t_seq ?_
  refine t_region ?_
  refine t_val (r_move rfl) rfl ?_
  refine t_val (r_nilCheck rfl) rfl ?_
  refine t_val (r_fa fo_121_4 rfl) rfl ?_
  refine t_val (r_load ca_119 rfl (rd_m (.tail _ hg) rfl)) rfl ?_
  refine t_val (r_makeFunc rfl rfl) rfl ?_
  refine t_eff rfl (e_pcall en_108 rfl rfl rfl rfl (containsFunc_gstate_c (fun y => (decG y).started && q (decG y)) en_184 (SlRd.of_list GState.cells cells5 (.tail _ hc) rfl (by have := hf.nc; omega)) (by
        intro y hy; obtain ⟨x, hx, rfl⟩ := List.mem_map.1 hy
        exact guard_started1_c he (.head _) q x fun M' hs => hq x hx M' ((List.sublist_cons_self _ _).trans hs))) ?_)
  refine t_val (r_assign rfl) rfl ?_
  refine t_nil ?_
  refine Tr.keep (env' := [(4, _)]) ⟨rfl, trivial⟩ ?_
  refine t_then ?_
  refine t_retc ?_
  refine t_ret1 rfl rfl (fun w hw => ?_)
  refine ⟨?_, Ok.sub hw (List.sublist_cons_self _ _)⟩
  simp [List.any_map, Function.comp_def]
theorem guard_closed_c {g : GuardSt} {l : GAt} (car : Nat) (t : Int) (hg : g.eg l ∈ M) : ∀ w, Ok w0 M w → Calls Tryz.prog 43 #[.pointer (some ⟨l.g, 0, none⟩), .int .i64 car, .int .i64 t] w (fun e w' => e = .returned (.bool (!g.opened.value)) ∧ Ok w0 M w') := by
  refine enter (vs := [_, _, _]) Tryz.func43 rfl Tryz.ntmps43 rfl ?_
  refine t_seq ?_
  refine t_region ?_
  refine t_val (r_assign rfl) rfl ?_
  refine t_nil ?_
  refine Tr.keep (env' := [(0, _)]) ⟨rfl, trivial⟩ ?_
  refine t_then ?_
  refine t_seq ?_
  refine t_region ?_
  refine t_val (r_move rfl) rfl ?_
  refine t_val (r_nilCheck rfl) rfl ?_
  refine t_val (r_fa fo_121_1 rfl) rfl ?_
  refine t_val (r_iaa (j := 0) Tryz.underlying117 iz_116 rfl rfl rfl (by decide)) rfl ?_
  refine t_val (r_fa fo_116_0 rfl) rfl ?_
  refine t_val (r_load ca_4 rfl (rd_m hg rfl)) rfl ?_
  refine t_val (r_not rfl) rfl ?_
  refine t_val (r_assign rfl) rfl ?_
  refine t_nil ?_
  refine Tr.keep (env' := [(6, _)]) ⟨rfl, trivial⟩ ?_
  refine t_then ?_
  refine t_retc ?_
  refine t_ret1 rfl rfl (fun w hw => ?_)
  exact ⟨rfl, hw⟩
theorem guard_uncovered_c {g : GuardSt} {l : GAt} (car : Nat) (t : Int) (hg : g.eg l ∈ M) : ∀ w, Ok w0 M w → Calls Tryz.prog 46 #[.pointer (some ⟨l.g, 0, none⟩), .int .i64 car, .int .i64 t] w (fun e w' => e = .returned (.bool (!g.covered.value)) ∧ Ok w0 M w') := by
  refine enter (vs := [_, _, _]) Tryz.func46 rfl Tryz.ntmps46 rfl ?_
  refine t_seq ?_
  refine t_region ?_
  refine t_val (r_assign rfl) rfl ?_
  refine t_nil ?_
  refine Tr.keep (env' := [(0, _)]) ⟨rfl, trivial⟩ ?_
  refine t_then ?_
  refine t_seq ?_
  refine t_region ?_
  refine t_val (r_move rfl) rfl ?_
  refine t_val (r_nilCheck rfl) rfl ?_
  refine t_val (r_fa fo_121_1 rfl) rfl ?_
  refine t_val (r_iaa (j := 1) Tryz.underlying117 iz_116 rfl rfl rfl (by decide)) rfl ?_
  refine t_val (r_fa fo_116_0 rfl) rfl ?_
  refine t_val (r_load ca_4 rfl (rd_m hg rfl)) rfl ?_
  refine t_val (r_not rfl) rfl ?_
  refine t_val (r_assign rfl) rfl ?_
  refine t_nil ?_
  refine Tr.keep (env' := [(6, _)]) ⟨rfl, trivial⟩ ?_
  refine t_then ?_
  refine t_retc ?_
  refine t_ret1 rfl rfl (fun w hw => ?_)
  exact ⟨rfl, hw⟩
theorem guard_flag_c {g : GuardSt} {l : GAt} (car : Nat) (t : Int) (hg : g.eg l ∈ M) (hr : g.er l ∈ M) (hp : g.ep l ∈ M) (hc : g.ec l ∈ M) (hf : g.Fine) (hs : g.Sane) (hcar : car ≤ g.cars.length) (htt : 0 ≤ t ∧ t ≤ 100000) : ∀ w, Ok w0 M w → Calls Tryz.prog 44 #[.pointer (some ⟨l.g, 0, none⟩), .int .i64 car, .int .i64 t] w (fun e w' => e = .returned (.bool (g.forbids car t 1)) ∧ Ok w0 M w') := by
  refine enter (vs := [_, _, _]) Tryz.func44 rfl Tryz.ntmps44 rfl ?_
  refine t_seq ?_
  refine t_region ?_
  refine t_val (r_assign rfl) rfl ?_
  refine t_nil ?_
  refine Tr.keep (env' := [(0, _)]) ⟨rfl, trivial⟩ ?_
  refine t_then ?_
  refine t_seq ?_
  refine t_region ?_
  refine t_val (r_move rfl) rfl ?_
  refine t_val (r_nilCheck rfl) rfl ?_
  refine t_val (r_fa fo_121_2 rfl) rfl ?_
  refine t_val (r_load ca_118 rfl (rd_m hg rfl)) rfl ?_
  refine t_eff rfl (e_pcall en_101 rfl rfl rfl rfl (containsFunc_latest_c (fun y => (decLatest y).value) en_102 (SlRd.of_list Latest.cells cells3 hr rfl (by have h1 := hf.posts; have h2 := hf.reds; have h3 := hf.np; omega)) (by
        intro y hy; obtain ⟨x, hx, rfl⟩ := List.mem_map.1 hy
        exact guard_flag1_c x)) ?_)
  refine t_val (r_assign rfl) rfl ?_
  refine t_nil ?_
  refine Tr.keep (env' := [(6, _)]) ⟨rfl, trivial⟩ ?_
  refine t_then ?_
  refine t_retc ?_
  refine t_ret1 rfl rfl (fun w hw => ?_)
  refine ⟨?_, hw⟩
  simp [GuardSt.forbids, List.any_map, Function.comp_def]
theorem guard_silent_c {g : GuardSt} {l : GAt} (car : Nat) (t : Int) (hg : g.eg l ∈ M) (hr : g.er l ∈ M) (hp : g.ep l ∈ M) (hc : g.ec l ∈ M) (hf : g.Fine) (hs : g.Sane) (hcar : car ≤ g.cars.length) (htt : 0 ≤ t ∧ t ≤ 100000) : ∀ w, Ok w0 M w → Calls Tryz.prog 45 #[.pointer (some ⟨l.g, 0, none⟩), .int .i64 car, .int .i64 t] w (fun e w' => e = .returned (.bool (g.forbids car t 2)) ∧ Ok w0 M w') := by
  refine enter (vs := [_, _, _]) Tryz.func45 rfl Tryz.ntmps45 rfl ?_
  refine t_seq ?_
  refine t_region ?_
  refine t_eff rfl (e_box1 rfl rfl rfl fun b3 => ?_)
  refine t_eff rfl (e_box1 rfl rfl rfl fun b5 => ?_)
  refine t_val (r_assign rfl) rfl ?_
  refine t_nil ?_
  refine Tr.keep (env' := [(3, _), (5, _)]) ⟨rfl, rfl, trivial⟩ ?_
  refine t_then ?_
  refine t_seq ?_
  refine t_region ?_
  refine t_val (r_load ca_51 rfl (rd_m (.tail _ (.head _)) rfl)) rfl ?_
  refine t_val (r_nilCheck rfl) rfl ?_
  refine t_val (r_fa fo_121_3 rfl) rfl ?_
  refine t_val (r_load ca_118 rfl (rd_m (.tail _ (.tail _ hg)) rfl)) rfl ?_
  refine t_val (r_makeFunc rfl rfl) rfl ?_
  refine t_eff rfl (e_pcall en_101 rfl rfl rfl rfl (containsFunc_latest_c (fun y => lsilent g t (decLatest y)) en_103 (SlRd.of_list Latest.cells cells3 (.tail _ (.tail _ hp)) rfl (by have h1 := hf.posts; have h2 := hf.reds; have h3 := hf.np; omega)) (by
        intro y hy; obtain ⟨x, hx, rfl⟩ := List.mem_map.1 hy
        exact guard_silent1_c (.tail _ (.tail _ hg)) (.tail _ (.head _)) (.head _) hf htt x (hs.posts x hx))) ?_)
  refine t_val (r_assign rfl) rfl ?_
  refine t_nil ?_
  refine Tr.keep (env' := [(6, _)]) ⟨rfl, trivial⟩ ?_
  refine t_then ?_
  refine t_retc ?_
  refine t_ret1 rfl rfl (fun w hw => ?_)
  refine ⟨?_, Ok.sub hw (.cons _ (.cons _ (.refl _)))⟩
  simp [GuardSt.forbids, List.any_map, Function.comp_def]
theorem guard_before_c {g : GuardSt} {l : GAt} (car : Nat) (t : Int) (hg : g.eg l ∈ M) (hr : g.er l ∈ M) (hp : g.ep l ∈ M) (hc : g.ec l ∈ M) (hf : g.Fine) (hs : g.Sane) (hcar : car ≤ g.cars.length) (htt : 0 ≤ t ∧ t ≤ 100000) : ∀ w, Ok w0 M w → Calls Tryz.prog 47 #[.pointer (some ⟨l.g, 0, none⟩), .int .i64 car, .int .i64 t] w (fun e w' => e = .returned (.bool (g.forbids car t 4)) ∧ Ok w0 M w') := by
  refine enter (vs := [_, _, _]) Tryz.func47 rfl Tryz.ntmps47 rfl ?_
  refine t_seq ?_
  refine t_region ?_
  refine t_eff rfl (e_box1 rfl rfl rfl fun b3 => ?_)
  refine t_val (r_assign rfl) rfl ?_
  refine t_nil ?_
  refine Tr.keep (env' := [(3, _)]) ⟨rfl, trivial⟩ ?_
  refine t_then ?_
  refine t_seq ?_
  refine t_region ?_
  refine t_val (r_load ca_51 rfl (rd_m (.head _) rfl)) rfl ?_
  refine t_val (r_makeFunc rfl rfl) rfl ?_
  refine t_eff rfl (e_pcall en_104 rfl rfl rfl rfl (guard_started_c (.tail _ hg) (.tail _ hc) hf en_105 (cbefore g) (fun x hx M' hsub => guard_before1_c (t := t) (bt := 0) (hsub.subset (.tail _ hg)) (hsub.subset (.head _)) hf x)) ?_)
  refine t_val (r_assign rfl) rfl ?_
  refine t_nil ?_
  refine Tr.keep (env' := [(6, _)]) ⟨rfl, trivial⟩ ?_
  refine t_then ?_
  refine t_retc ?_
  refine t_ret1 rfl rfl (fun w hw => ?_)
  exact ⟨rfl, Ok.sub hw (.cons _ (.refl _))⟩
theorem guard_missing_c {g : GuardSt} {l : GAt} (car : Nat) (t : Int) (hg : g.eg l ∈ M) (hr : g.er l ∈ M) (hp : g.ep l ∈ M) (hc : g.ec l ∈ M) (hf : g.Fine) (hs : g.Sane) (hcar : car ≤ g.cars.length) (htt : 0 ≤ t ∧ t ≤ 100000) : ∀ w, Ok w0 M w → Calls Tryz.prog 48 #[.pointer (some ⟨l.g, 0, none⟩), .int .i64 car, .int .i64 t] w (fun e w' => e = .returned (.bool (g.forbids car t 5)) ∧ Ok w0 M w') := by
  refine enter (vs := [_, _, _]) Tryz.func48 rfl Tryz.ntmps48 rfl ?_
  refine t_seq ?_
  refine t_region ?_
  refine t_eff rfl (e_box1 rfl rfl rfl fun b3 => ?_)
  refine t_eff rfl (e_box1 rfl rfl rfl fun b5 => ?_)
  refine t_val (r_assign rfl) rfl ?_
  refine t_nil ?_
  refine Tr.keep (env' := [(3, _), (5, _)]) ⟨rfl, rfl, trivial⟩ ?_
  refine t_then ?_
  refine t_seq ?_
  refine t_region ?_
  refine t_val (r_load ca_51 rfl (rd_m (.tail _ (.head _)) rfl)) rfl ?_
  refine t_val (r_makeFunc rfl rfl) rfl ?_
  refine t_eff rfl (e_pcall en_104 rfl rfl rfl rfl (guard_started_c (.tail _ (.tail _ hg)) (.tail _ (.tail _ hc)) hf en_106 (cmissing g t) (fun x hx M' hsub => guard_missing1_c (hsub.subset (.tail _ (.tail _ hg))) (hsub.subset (.tail _ (.head _))) (hsub.subset (.head _)) hf htt x (hs.cars x hx))) ?_)
  refine t_val (r_assign rfl) rfl ?_
  refine t_nil ?_
  refine Tr.keep (env' := [(6, _)]) ⟨rfl, trivial⟩ ?_
  refine t_then ?_
  refine t_retc ?_
  refine t_ret1 rfl rfl (fun w hw => ?_)
  exact ⟨rfl, Ok.sub hw (.cons _ (.cons _ (.refl _)))⟩
theorem guard_interval_c {g : GuardSt} {l : GAt} (car : Nat) (t : Int) (hg : g.eg l ∈ M) (hr : g.er l ∈ M) (hp : g.ep l ∈ M) (hc : g.ec l ∈ M) (hf : g.Fine) (hs : g.Sane) (hcar : car ≤ g.cars.length) (htt : 0 ≤ t ∧ t ≤ 100000) : ∀ w, Ok w0 M w → Calls Tryz.prog 49 #[.pointer (some ⟨l.g, 0, none⟩), .int .i64 car, .int .i64 t] w (fun e w' => e = .returned (.bool (g.forbids car t 6)) ∧ Ok w0 M w') := by
  refine enter (vs := [_, _, _]) Tryz.func49 rfl Tryz.ntmps49 rfl ?_
  refine t_seq ?_
  refine t_region ?_
  refine t_eff rfl (e_box1 rfl rfl rfl fun b3 => ?_)
  refine t_eff rfl (e_box1 rfl rfl rfl fun b5 => ?_)
  refine t_val (r_assign rfl) rfl ?_
  refine t_nil ?_
  refine Tr.keep (env' := [(3, _), (5, _)]) ⟨rfl, rfl, trivial⟩ ?_
  refine t_then ?_
  refine t_seq ?_
  refine t_region ?_
  refine t_val (r_load ca_51 rfl (rd_m (.tail _ (.head _)) rfl)) rfl ?_
  refine t_val (r_makeFunc rfl rfl) rfl ?_
  refine t_eff rfl (e_pcall en_104 rfl rfl rfl rfl (guard_started_c (.tail _ (.tail _ hg)) (.tail _ (.tail _ hc)) hf en_107 (cinterval g t) (fun x hx M' hsub => guard_interval1_c (hsub.subset (.tail _ (.tail _ hg))) (hsub.subset (.tail _ (.head _))) (hsub.subset (.head _)) hf htt x)) ?_)
  refine t_val (r_assign rfl) rfl ?_
  refine t_nil ?_
  refine Tr.keep (env' := [(6, _)]) ⟨rfl, trivial⟩ ?_
  refine t_then ?_
  refine t_retc ?_
  refine t_ret1 rfl rfl (fun w hw => ?_)
  exact ⟨rfl, Ok.sub hw (.cons _ (.cons _ (.refl _)))⟩
theorem guard_order_c {g : GuardSt} {l : GAt} (car : Nat) (t : Int) (hg : g.eg l ∈ M) (hr : g.er l ∈ M) (hp : g.ep l ∈ M) (hc : g.ec l ∈ M) (hf : g.Fine) (hs : g.Sane) (hcar : car ≤ g.cars.length) (htt : 0 ≤ t ∧ t ≤ 100000) : ∀ w, Ok w0 M w → Calls Tryz.prog 50 #[.pointer (some ⟨l.g, 0, none⟩), .int .i64 car, .int .i64 t] w (fun e w' => e = .returned (.bool (g.forbids car t 7)) ∧ Ok w0 M w') := by
  obtain ⟨A', hcv, hsl⟩ := (SlRd.of_list (w0 := w0) (M := M) GState.cells cells5 hc rfl (by have := hf.nc; omega)).cut car hcar (Nat.le_refl g.cars.length)
  refine enter (vs := [_, _, _]) Tryz.func50 rfl Tryz.ntmps50 rfl ?_
  refine t_seq ?_
  refine t_region ?_
  refine t_val (r_assign rfl) rfl ?_
  refine t_nil ?_
  refine Tr.keep (env' := [(0, _), (1, _)]) ⟨rfl, rfl, trivial⟩ ?_
  refine t_then ?_
  refine t_seq ?_
  refine t_region ?_
  refine t_val (r_move rfl) rfl ?_
  refine t_val (r_nilCheck rfl) rfl ?_
  refine t_val (r_fa fo_121_4 rfl) rfl ?_
  refine t_val (r_load ca_119 rfl (rd_m hg rfl)) rfl ?_
  refine t_val (r_move rfl) rfl ?_
  refine t_val (run_to (r_sl_l car Tryz.underlying119 iz_218 rfl rfl rfl hcar) hcv) rfl ?_
  refine t_eff rfl (e_pcall en_108 rfl rfl rfl rfl (containsFunc_gstate_c (fun y => (decG y).started) en_109 hsl (by
        intro y hy; obtain ⟨x, hx, rfl⟩ := List.mem_map.1 (List.mem_of_mem_drop hy)
        exact guard_order1_c x)) ?_)
  refine t_val (r_assign rfl) rfl ?_
  refine t_nil ?_
  refine Tr.keep (env' := [(6, _)]) ⟨rfl, trivial⟩ ?_
  refine t_then ?_
  refine t_retc ?_
  refine t_ret1 rfl rfl (fun w hw => ?_)
  refine ⟨?_, hw⟩
  rw [← List.map_drop, List.any_map]
  rfl
abbrev ruleFns (l : GAt) : List Value := [.func (.func 43) #[.pointer (some ⟨l.g, 0, none⟩)] #[], .func (.func 44) #[.pointer (some ⟨l.g, 0, none⟩)] #[], .func (.func 45) #[.pointer (some ⟨l.g, 0, none⟩)] #[], .func (.func 46) #[.pointer (some ⟨l.g, 0, none⟩)] #[], .func (.func 47) #[.pointer (some ⟨l.g, 0, none⟩)] #[], .func (.func 48) #[.pointer (some ⟨l.g, 0, none⟩)] #[], .func (.func 49) #[.pointer (some ⟨l.g, 0, none⟩)] #[], .func (.func 50) #[.pointer (some ⟨l.g, 0, none⟩)] #[]]
theorem guard_rule_c {g : GuardSt} {l : GAt} {car : Nat} {t : Int} (hg : g.eg l ∈ M) (hr : g.er l ∈ M) (hp : g.ep l ∈ M) (hc : g.ec l ∈ M) (hf : g.Fine) (hs : g.Sane) (hcar : car ≤ g.cars.length) (htt : 0 ≤ t ∧ t ≤ 100000) (k : Nat) (hk : k < 8) : ∃ f, (ruleFns l)[k]? = some (.func (.func f) #[.pointer (some ⟨l.g, 0, none⟩)] #[]) ∧ Enters Tryz.prog f ∧
   ∀ w, Ok w0 M w → Calls Tryz.prog f #[.pointer (some ⟨l.g, 0, none⟩), .int .i64 car, .int .i64 t] w (fun e w' => e = .returned (.bool (g.forbids car t k)) ∧ Ok w0 M w') := by
  match k, hk with
  | 0, _ => exact ⟨_, rfl, en_43, guard_closed_c car t hg⟩
  | 1, _ => exact ⟨_, rfl, en_44, guard_flag_c car t hg hr hp hc hf hs hcar htt⟩
  | 2, _ => exact ⟨_, rfl, en_45, guard_silent_c car t hg hr hp hc hf hs hcar htt⟩
  | 3, _ => exact ⟨_, rfl, en_46, guard_uncovered_c car t hg⟩
  | 4, _ => exact ⟨_, rfl, en_47, guard_before_c car t hg hr hp hc hf hs hcar htt⟩
  | 5, _ => exact ⟨_, rfl, en_48, guard_missing_c car t hg hr hp hc hf hs hcar htt⟩
  | 6, _ => exact ⟨_, rfl, en_49, guard_interval_c car t hg hr hp hc hf hs hcar htt⟩
  | 7, _ => exact ⟨_, rfl, en_50, guard_order_c car t hg hr hp hc hf hs hcar htt⟩
theorem may_succ (g : GuardSt) (car : Nat) (t : Int) (k : Nat) : ((List.range (k + 1)).filter (g.forbids car t)).map (fun i : Nat => encI (1 + (i : Int))) =
    ((List.range k).filter (g.forbids car t)).map (fun i : Nat => encI (1 + (i : Int))) ++ (if g.forbids car t k then [encI (1 + (k : Int))] else []) := by
  rw [List.range_succ, List.filter_append, List.map_append]
  congr 1
  by_cases h : g.forbids car t k = true <;> simp [h]
theorem may_len (g : GuardSt) (car : Nat) (t : Int) (k : Nat) : (((List.range k).filter (g.forbids car t)).map (fun i : Nat => encI (1 + (i : Int)))).length ≤ k := by
  have := List.length_filter_le (g.forbids car t) (List.range k)
  simpa using this
theorem guard_may_c {g : GuardSt} {l : GAt} {car : Nat} {t : Int} (hg : g.eg l ∈ M) (hr : g.er l ∈ M) (hp : g.ep l ∈ M) (hc : g.ec l ∈ M) (hf : g.Fine) (hsn : g.Sane) (hcar : car ≤ g.cars.length) (htt : 0 ≤ t ∧ t ≤ 100000) (hcar' : car < g.cars.length) : ∀ w, Ok w0 M w → Calls Tryz.prog 26 #[.pointer (some ⟨l.g, 0, none⟩), .int .i64 car, .int .i64 t] w
   (fun e w' => ∃ x : Value × List Ent, e = .returned (.tuple #[x.1, .int .i64 0]) ∧ Own 124 1 x.1 ((g.may car t).map encI) x.2 ∧ Ok w0 (x.2 ++ M) w') := by
  have h3 := hf.cars; have h4 := hf.nc
  refine enter (vs := [_, _, _]) Tryz.func26 rfl Tryz.ntmps26 rfl ?_
  refine t_seq ?_
  refine t_region ?_
  refine t_val (r_assign rfl) rfl ?_
  refine t_val (r_assign rfl) rfl ?_
  refine t_nil ?_
  refine Tr.keep (env' := [(0, _), (1, _), (2, _)]) ⟨rfl, rfl, rfl, trivial⟩ ?_
  refine t_then ?_
  refine t_seq ?_
  refine t_seq ?_
  refine t_region ?_
  refine t_val (r_move rfl) rfl ?_
  refine t_eff rfl (e_pcall en_41 rfl rfl rfl rfl (guard_ready_c hg) ?_)
  refine t_val (r_not rfl) rfl ?_
  refine t_nil ?_
  refine Tr.keep (env' := [(0, _), (1, _), (2, _), (14, _)]) ⟨rfl, rfl, rfl, rfl, trivial⟩ ?_
  refine t_then ?_
  refine t_cond rfl (fun hr1 => ?_) (fun hr1 => ?_)
  · have h9 : decide (0 < (g.cars.length : Int)) = true := decide_eq_true (by omega)
    rw [h9] at hr1; exact absurd hr1 (by decide)
  · skip
    refine t_skip ?_
    refine t_then ?_
    refine t_seq ?_
    refine t_seq ?_
    refine t_region ?_
    refine t_val (r_move rfl) rfl ?_
    refine t_val (r_move rfl) rfl ?_
    refine t_val (r_nilCheck rfl) rfl ?_
    refine t_val (r_fa fo_121_0 rfl) rfl ?_
    refine t_val (r_fa fo_35_5 rfl) rfl ?_
    refine t_val (r_load ca_3 rfl (rd_m hg rfl)) rfl ?_
    refine t_val (r_subi rfl rfl (by omega)) rfl ?_
    refine t_eff rfl (e_pcall en_42 rfl rfl rfl rfl (rescue_within_c _ _ _) ?_)
    refine t_val (r_not rfl) rfl ?_
    refine t_val (r_move rfl) rfl ?_
    apply t_group_or 4 (s := 24) (d := 28) rfl
    · intro hg2 K hK
      refine g_val hg2 rfl rfl (r_move rfl) rfl ?_
      refine g_eff hg2 rfl rfl (e_pcall en_42 rfl rfl rfl rfl (rescue_within_c _ _ _) ?_)
      refine g_val hg2 rfl rfl (r_not rfl) rfl ?_
      refine t_val (rp_f hg2 rfl rfl) rfl ?_
      iterate 3 refine Tr.weak2 rfl ?_
      exact hK _ (or_f hg2)
    · intro hg2 K hK
      refine g_skip hg2 rfl rfl rfl rfl ?_
      refine g_skip hg2 rfl rfl rfl rfl ?_
      refine g_skip hg2 rfl rfl rfl rfl ?_
      refine t_val (rp_t hg2 rfl rfl) rfl ?_
      iterate 3 refine Tr.weak2 rfl ?_
      exact hK _ (or_t hg2)
    refine t_nil ?_
    refine Tr.keep (env' := [(0, _), (1, _), (2, _), (28, _)]) ⟨rfl, rfl, rfl, rfl, trivial⟩ ?_
    refine t_then ?_
    refine t_cond rfl (fun hw1 => ?_) (fun hw1 => ?_)
    · have e1 : inB (car : Int) 0 (g.plan.cars - 1) = true := inB_iff.2 (by omega)
      have e2 : inB t 0 100000 = true := inB_iff.2 (by omega)
      rw [e1, e2] at hw1
      exact absurd hw1 (by decide)
    · skip
      refine t_skip ?_
      refine t_then ?_
      refine t_seq ?_
      refine t_region ?_
      refine t_val (r_assign rfl) rfl ?_
      refine t_nil ?_
      refine Tr.keep (env' := [(0, _), (1, _), (2, _), (8, _)]) ⟨rfl, rfl, rfl, rfl, trivial⟩ ?_
      refine t_then ?_
      refine t_seq ?_
      refine t_region ?_
      refine t_val (r_move rfl) rfl ?_
      refine t_val (r_makeFunc rfl rfl) rfl ?_
      refine t_val (r_move rfl) rfl ?_
      refine t_val (r_makeFunc rfl rfl) rfl ?_
      refine t_val (r_move rfl) rfl ?_
      refine t_val (r_makeFunc rfl rfl) rfl ?_
      refine t_val (r_move rfl) rfl ?_
      refine t_val (r_makeFunc rfl rfl) rfl ?_
      refine t_val (r_move rfl) rfl ?_
      refine t_val (r_makeFunc rfl rfl) rfl ?_
      refine t_val (r_move rfl) rfl ?_
      refine t_val (r_makeFunc rfl rfl) rfl ?_
      refine t_val (r_move rfl) rfl ?_
      refine t_val (r_makeFunc rfl rfl) rfl ?_
      refine t_val (r_move rfl) rfl ?_
      refine t_val (r_makeFunc rfl rfl) rfl ?_
      refine t_eff rfl (e_buildSlice (E := 122) (l := ruleFns l) rfl (fun w => by kernel_rfl) rfl fun b45 => ?_)
      refine t_val (r_assign rfl) rfl ?_
      refine t_nil ?_
      refine Tr.keep (env' := [(1, _), (2, _), (8, _), (9, _)]) ⟨rfl, rfl, rfl, rfl, trivial⟩ ?_
      refine t_then ?_
      refine t_seq ?_
      refine t_seq ?_
      refine t_region ?_
      refine t_val (r_move rfl) rfl ?_
      refine t_val (r_len_slice Tryz.underlying123 rfl) rfl ?_
      refine t_val (r_move rfl) rfl ?_
      refine t_nil ?_
      refine Tr.keep (env' := [(1, _), (2, _), (8, _), (46, _), (47, _), (48, _)]) ⟨rfl, rfl, rfl, rfl, rfl, rfl, trivial⟩ ?_
      refine t_then ?_
      refine t_block ?_
      refine t_loop (fun s : Nat × Value × List Ent => [(1, .int .i64 car), (2, .int .i64 t), (8, s.2.1), (46, .slice (some ⟨b45, 0, none⟩) 8 8), (47, .int .i64 8), (48, .int .i64 (s.1 : Int))]) (fun s : Nat × Value × List Ent => s.2.2 ++ (cel b45 122 (ruleFns l) :: M)) (fun s : Nat × Value × List Ent => s.1 ≤ 8 ∧ Own 124 1 s.2.1 (((List.range s.1).filter (g.forbids car t)).map (fun i : Nat => encI (1 + (i : Int)))) s.2.2) (fun s : Nat × Value × List Ent => 8 - s.1) (0, .slice none 0 0, []) ⟨by omega, Own.nil _ _⟩ ⟨rfl, rfl, rfl, rfl, rfl, rfl, trivial⟩ (.refl _) ?_
      intro K ⟨k, v, E⟩ ⟨hk, hO⟩ IH
      dsimp only at hk hO IH ⊢
      refine t_seq ?_
      refine t_region ?_
      refine t_val (r_lt rfl rfl) rfl ?_
      refine t_nil ?_
      refine Tr.keep (env' := [(1, _), (2, _), (8, _), (46, _), (47, _), (48, _), (49, _)]) ⟨rfl, rfl, rfl, rfl, rfl, rfl, rfl, trivial⟩ ?_
      refine t_then ?_
      refine t_seq ?_
      refine t_cond rfl (fun hc1 => ?_) (fun hc1 => ?_)
      · have hlt : k < 8 := by have := of_decide_eq_true hc1; omega
        obtain ⟨f, hfk, hen, hcall⟩ := guard_rule_c (w0 := w0) (M := E ++ (cel b45 122 (ruleFns l) :: M)) (l := l) (List.mem_append_right _ (.tail _ hg)) (List.mem_append_right _ (.tail _ hr)) (List.mem_append_right _ (.tail _ hp)) (List.mem_append_right _ (.tail _ hc)) hf hsn hcar htt k hlt
        refine t_skip ?_
        refine t_then ?_
        refine t_seq ?_
        refine t_block ?_
        refine t_seq ?_
        refine t_region ?_
        refine t_val (r_move rfl) rfl ?_
        refine t_val (r_ia (j := k) Tryz.underlying123 iz_122 rfl rfl rfl hlt) rfl ?_
        refine t_val (r_load ca_122 rfl (rd_m (List.mem_append_right _ (.head _)) (by rw [Nat.zero_add, Nat.mul_one]; exact hfk))) rfl ?_
        refine t_val (r_assign rfl) rfl ?_
        refine t_val (r_assign rfl) rfl ?_
        refine t_nil ?_
        refine Tr.keep (env' := [(1, _), (2, _), (8, _), (10, _), (11, _), (46, _), (47, _), (48, _)]) ⟨rfl, rfl, rfl, rfl, rfl, rfl, rfl, rfl, trivial⟩ ?_
        refine t_then ?_
        refine t_seq ?_
        refine t_region ?_
        refine t_val (r_move rfl) rfl ?_
        refine t_val (r_move rfl) rfl ?_
        refine t_val (r_move rfl) rfl ?_
        refine t_eff rfl (e_pcall hen rfl rfl rfl rfl hcall ?_)
        refine t_nil ?_
        refine Tr.keep (env' := [(1, _), (2, _), (8, _), (10, _), (46, _), (47, _), (48, _), (56, _)]) ⟨rfl, rfl, rfl, rfl, rfl, rfl, rfl, rfl, trivial⟩ ?_
        refine t_then ?_
        refine t_cond rfl (fun hc2 => ?_) (fun hc2 => ?_)
        · skip
          refine t_region ?_
          refine t_val (r_move rfl) rfl ?_
          refine t_val (r_move rfl) rfl ?_
          refine t_val (r_addi rfl rfl (by omega)) rfl ?_
          refine t_eff rfl (e_buildSlice (E := 124) (l := encI (1 + (k : Int))) rfl (fun w => by kernel_rfl) rfl fun b60 => ?_)
          refine t_eff rfl (e_append Tryz.underlying58 inf_124 rfl (by decide) rfl rfl hO (pk .here (pkb .here (.refl _))) rfl (by simp [encI, Value.oneCell']) (by have := may_len g car t k; omega) (by have := may_len g car t k; unfold maxLen; omega) rfl fun v2 E2 hO2 => ?_)
          refine t_val (r_assign rfl) rfl ?_
          refine t_nil ?_
          refine Tr.keep (env' := [(1, _), (2, _), (8, _), (46, _), (47, _), (48, _)]) ⟨rfl, rfl, rfl, rfl, rfl, rfl, trivial⟩ ?_
          refine t_in ?_
          refine t_then ?_
          refine t_region ?_
          refine t_val (r_addi rfl rfl (by omega)) rfl ?_
          refine t_val (r_move rfl) rfl ?_
          refine t_nil ?_
          refine Tr.keep (env' := [(1, _), (2, _), (8, _), (46, _), (47, _), (48, _)]) ⟨rfl, rfl, rfl, rfl, rfl, rfl, trivial⟩ ?_
          refine t_then ?_
          refine t_K (IH (k + 1, _, _) ⟨by omega, by first | exact hO2 | (rw [may_succ, hc2]; exact hO2)⟩ (by dsimp only; omega)) ⟨rfl, rfl, rfl, rfl, rfl, rfl, trivial⟩ (.refl _)
        · have hO2 : Own 124 1 v (((List.range (k + 1)).filter (g.forbids car t)).map (fun i : Nat => encI (1 + (i : Int)))) E := by rw [may_succ, hc2]; simpa using hO
          refine t_skip ?_
          refine t_in ?_
          refine t_then ?_
          refine t_region ?_
          refine t_val (r_addi rfl rfl (by omega)) rfl ?_
          refine t_val (r_move rfl) rfl ?_
          refine t_nil ?_
          refine Tr.keep (env' := [(1, _), (2, _), (8, _), (46, _), (47, _), (48, _)]) ⟨rfl, rfl, rfl, rfl, rfl, rfl, trivial⟩ ?_
          refine t_then ?_
          refine t_K (IH (k + 1, _, _) ⟨by omega, by first | exact hO2 | (rw [may_succ, hc2]; exact hO2)⟩ (by dsimp only; omega)) ⟨rfl, rfl, rfl, rfl, rfl, rfl, trivial⟩ (.refl _)
      · have h9 : ¬ k < 8 := by have := of_decide_eq_false hc1; omega
        have hge : k = 8 := by omega
        subst hge
        refine t_exit ?_
        refine t_then_exit ?_
        refine t_then_exit ?_
        refine t_in_hit ?_
        refine t_then ?_
        refine t_seq ?_
        refine t_region ?_
        refine t_val (r_move rfl) rfl ?_
        refine t_val (r_assign rfl) rfl ?_
        refine t_val (r_assign rfl) rfl ?_
        refine t_nil ?_
        refine Tr.keep (env' := [(6, _), (7, _)]) ⟨rfl, rfl, trivial⟩ ?_
        refine t_then ?_
        refine t_retc ?_
        refine t_ret2 rfl rfl rfl (fun w hw => ?_)
        refine ⟨(v, E), rfl, ?_, Ok.sub hw (List.Sublist.append (.refl _) (.cons _ (.refl _)))⟩
        simpa [GuardSt.may, Function.comp_def] using hO
end
end Go.Proofs.W
set_option linter.unusedVariables false
set_option linter.unusedSimpArgs false
set_option linter.unusedSectionVars false
set_option maxRecDepth 100000
namespace Go.Proofs.W
open Go Go.Sl Go.RowKit Go.Proofs
theorem en_26 : Enters Tryz.prog 26 := enters_of Tryz.func26 (by kernel_rfl) (by kernel_rfl)
def GuardSt.start (g : GuardSt) (car : Nat) (t : Int) : GuardSt :=
  match g.cars[car]? with
  | none => g
  | some x => { g with cars := g.cars.set car { x with started := true, second := t } }
section
variable {w0 : World} {M : List Ent}
theorem guard_start_no {g : GuardSt} {l : GAt} {Fr : List Ent} {car : Nat} {t : Int} (hf : g.Fine) (hsn : g.Sane) (hcar : car < g.cars.length) (htt : 0 ≤ t ∧ t ≤ 100000) (hm : g.may car t ≠ []) : ∀ w, Ok w0 (g.eg l :: g.er l :: g.ep l :: g.ec l :: Fr) w → Calls Tryz.prog 215 #[.pointer (some ⟨l.g, 0, none⟩), .int .i64 car, .int .i64 t] w
   (fun e w' => e = .returned (.int .i64 7) ∧ Ok w0 (g.eg l :: g.er l :: g.ep l :: g.ec l :: Fr) w') := by
  refine enter (vs := [_, _, _]) Tryz.func215 rfl Tryz.ntmps215 rfl ?_
  refine t_seq ?_
  refine t_region ?_
  refine t_val (r_assign rfl) rfl ?_
  refine t_nil ?_
  refine Tr.keep (env' := [(0, _), (1, _), (2, _)]) ⟨rfl, rfl, rfl, trivial⟩ ?_
  refine t_then ?_
  refine t_seq ?_
  refine t_region ?_
  refine t_val (r_move rfl) rfl ?_
  refine t_val (r_move rfl) rfl ?_
  refine t_val (r_move rfl) rfl ?_
  refine t_eff rfl (e_call en_26 rfl rfl rfl rfl (guard_may_c (.head _) (.tail _ (.head _)) (.tail _ (.tail _ (.head _))) (.tail _ (.tail _ (.tail _ (.head _)))) hf hsn (by omega) htt hcar) fun x hO => ?_)
  obtain ⟨v, E⟩ := x
  obtain ⟨A, c, hv, hlen⟩ := Own.len hO
  dsimp only at hv hO ⊢
  subst hv
  refine t_val (r_move rfl) rfl ?_
  refine t_val (r_extract rfl rfl) rfl ?_
  refine t_val (r_extract rfl rfl) rfl ?_
  refine t_val (r_assign rfl) rfl ?_
  refine t_val (r_assign rfl) rfl ?_
  refine t_nil ?_
  refine Tr.keep (env' := [(0, _), (1, _), (2, _), (7, _), (8, _)]) ⟨rfl, rfl, rfl, rfl, rfl, trivial⟩ ?_
  refine t_then ?_
  refine t_seq ?_
  refine t_seq ?_
  refine t_region ?_
  refine t_val (r_move rfl) rfl ?_
  refine t_val (r_ne rfl rfl) rfl ?_
  refine t_nil ?_
  refine Tr.keep (env' := [(0, _), (1, _), (2, _), (7, _), (8, _), (17, _)]) ⟨rfl, rfl, rfl, rfl, rfl, rfl, trivial⟩ ?_
  refine t_then ?_
  refine t_cond rfl (fun he => ?_) (fun he => ?_)
  · exact absurd he (by decide)
  · skip
    refine t_skip ?_
    refine t_then ?_
    refine t_seq ?_
    refine t_seq ?_
    refine t_region ?_
    refine t_val (r_move rfl) rfl ?_
    refine t_val (r_len_slice Tryz.underlying58 rfl) rfl ?_
    refine t_val (r_gt rfl rfl) rfl ?_
    refine t_nil ?_
    refine Tr.keep (env' := [(0, _), (1, _), (2, _), (21, _)]) ⟨rfl, rfl, rfl, rfl, trivial⟩ ?_
    refine t_then ?_
    refine t_cond rfl (fun hl => ?_) (fun hl => ?_)
    · skip
      refine t_seq ?_
      refine t_region ?_
      refine t_val (r_assign rfl) rfl ?_
      refine t_nil ?_
      refine Tr.keep (env' := [(6, _)]) ⟨rfl, trivial⟩ ?_
      refine t_then ?_
      refine t_retc ?_
      refine t_then_ret ?_
      refine t_ret1 rfl rfl (fun w hw => ?_)
      exact ⟨rfl, Ok.sub hw (List.sublist_append_right _ _)⟩
    · have : 0 < (g.may car t).length := List.length_pos_iff.2 hm
      rw [List.length_map] at hl
      have := of_decide_eq_false hl
      omega
theorem guard_start_yes {g : GuardSt} {l : GAt} {Fr : List Ent} {car : Nat} {t : Int} (hf : g.Fine) (hsn : g.Sane) (hcar : car < g.cars.length) (htt : 0 ≤ t ∧ t ≤ 100000) (hm : g.may car t = []) : ∀ w, Ok w0 (g.eg l :: g.er l :: g.ep l :: g.ec l :: Fr) w → Calls Tryz.prog 215 #[.pointer (some ⟨l.g, 0, none⟩), .int .i64 car, .int .i64 t] w
   (fun e w' => e = .returned (.int .i64 0) ∧ Ok w0 ((g.start car t).eg l :: (g.start car t).er l :: (g.start car t).ep l :: (g.start car t).ec l :: Fr) w') := by
  obtain ⟨z, hz⟩ : ∃ z, g.cars[car]? = some z := ⟨_, List.getElem?_eq_getElem hcar⟩
  have hsp := fun z' => flat_split GState.cells g.cars car z z' hz
  have hpl := flat_take_length GState.cells 5 cells5 g.cars car (by omega)
  generalize flat ((g.cars.take car).map GState.cells) = pre at hsp hpl
  generalize flat ((g.cars.drop (car + 1)).map GState.cells) = post at hsp
  refine enter (vs := [_, _, _]) Tryz.func215 rfl Tryz.ntmps215 rfl ?_
  refine t_seq ?_
  refine t_region ?_
  refine t_val (r_assign rfl) rfl ?_
  refine t_nil ?_
  refine Tr.keep (env' := [(0, _), (1, _), (2, _)]) ⟨rfl, rfl, rfl, trivial⟩ ?_
  refine t_then ?_
  refine t_seq ?_
  refine t_region ?_
  refine t_val (r_move rfl) rfl ?_
  refine t_val (r_move rfl) rfl ?_
  refine t_val (r_move rfl) rfl ?_
  refine t_eff rfl (e_call en_26 rfl rfl rfl rfl (guard_may_c (.head _) (.tail _ (.head _)) (.tail _ (.tail _ (.head _))) (.tail _ (.tail _ (.tail _ (.head _)))) hf hsn (by omega) htt hcar) fun x hO => ?_)
  obtain ⟨v, E⟩ := x
  obtain ⟨A, c, hv, hlen⟩ := Own.len hO
  dsimp only at hv hO ⊢
  subst hv
  refine t_val (r_move rfl) rfl ?_
  refine t_val (r_extract rfl rfl) rfl ?_
  refine t_val (r_extract rfl rfl) rfl ?_
  refine t_val (r_assign rfl) rfl ?_
  refine t_val (r_assign rfl) rfl ?_
  refine t_nil ?_
  refine Tr.keep (env' := [(0, _), (1, _), (2, _), (7, _), (8, _)]) ⟨rfl, rfl, rfl, rfl, rfl, trivial⟩ ?_
  refine t_then ?_
  refine t_seq ?_
  refine t_seq ?_
  refine t_region ?_
  refine t_val (r_move rfl) rfl ?_
  refine t_val (r_ne rfl rfl) rfl ?_
  refine t_nil ?_
  refine Tr.keep (env' := [(0, _), (1, _), (2, _), (7, _), (8, _), (17, _)]) ⟨rfl, rfl, rfl, rfl, rfl, rfl, trivial⟩ ?_
  refine t_then ?_
  refine t_cond rfl (fun he => ?_) (fun he => ?_)
  · exact absurd he (by decide)
  · skip
    refine t_skip ?_
    refine t_then ?_
    refine t_seq ?_
    refine t_seq ?_
    refine t_region ?_
    refine t_val (r_move rfl) rfl ?_
    refine t_val (r_len_slice Tryz.underlying58 rfl) rfl ?_
    refine t_val (r_gt rfl rfl) rfl ?_
    refine t_nil ?_
    refine Tr.keep (env' := [(0, _), (1, _), (2, _), (21, _)]) ⟨rfl, rfl, rfl, rfl, trivial⟩ ?_
    refine t_then ?_
    refine t_cond rfl (fun hl => ?_) (fun hl => ?_)
    · rw [hm] at hl; exact absurd hl (by decide)
    · simp only [GuardSt.ec]
      rw [(hsp z).1]
      refine t_skip ?_
      refine t_then ?_
      refine t_seq ?_
      refine d_beginS (List.Sublist.append (.refl _) (.cons_cons _ (.cons_cons _ (.cons_cons _ (.cons _ (.refl _)))))) mixed rfl ?_
      refine d_val 0 rfl (by kernel_rfl) (by kernel_rfl) (by kernel_rfl) (.then .body) (List.Sublist.append (.refl _) (.cons_cons _ (.cons_cons _ (.cons_cons _ (.cons _ (.refl _)))))) rfl (r_move rfl) ?_
      refine d_val 1 rfl (by kernel_rfl) (by kernel_rfl) (by kernel_rfl) (.then .body) (List.Sublist.append (.refl _) (.cons_cons _ (.cons_cons _ (.cons_cons _ (.cons _ (.refl _)))))) rfl (r_nilCheck rfl) ?_
      refine d_val 2 rfl (by kernel_rfl) (by kernel_rfl) (by kernel_rfl) (.then .body) (List.Sublist.append (.refl _) (.cons_cons _ (.cons_cons _ (.cons_cons _ (.cons _ (.refl _)))))) rfl (r_fa fo_121_4 rfl) ?_
      refine d_val 3 rfl (by kernel_rfl) (by kernel_rfl) (by kernel_rfl) (.then .body) (List.Sublist.append (.refl _) (.cons_cons _ (.cons_cons _ (.cons_cons _ (.cons _ (.refl _)))))) rfl (r_load ca_119 rfl (rd_m (List.mem_append_right _ (.head _)) rfl)) ?_
      refine d_val 4 rfl (by kernel_rfl) (by kernel_rfl) (by kernel_rfl) (.then .body) (List.Sublist.append (.refl _) (.cons_cons _ (.cons_cons _ (.cons_cons _ (.cons _ (.refl _)))))) rfl (r_move rfl) ?_
      refine d_val 5 rfl (by kernel_rfl) (by kernel_rfl) (by kernel_rfl) (.then .body) (List.Sublist.append (.refl _) (.cons_cons _ (.cons_cons _ (.cons_cons _ (.cons _ (.refl _)))))) rfl (r_move rfl) ?_
      refine d_val 6 rfl (by kernel_rfl) (by kernel_rfl) (by kernel_rfl) (.then .body) (List.Sublist.append (.refl _) (.cons_cons _ (.cons_cons _ (.cons_cons _ (.cons _ (.refl _)))))) rfl (r_nilCheck rfl) ?_
      refine d_val 7 rfl (by kernel_rfl) (by kernel_rfl) (by kernel_rfl) (.then .body) (List.Sublist.append (.refl _) (.cons_cons _ (.cons_cons _ (.cons_cons _ (.cons _ (.refl _)))))) rfl (r_fa fo_121_4 rfl) ?_
      refine d_val 8 rfl (by kernel_rfl) (by kernel_rfl) (by kernel_rfl) (.then .body) (List.Sublist.append (.refl _) (.cons_cons _ (.cons_cons _ (.cons_cons _ (.cons _ (.refl _)))))) rfl (r_load ca_119 rfl (rd_m (List.mem_append_right _ (.head _)) rfl)) ?_
      refine d_val 9 rfl (by kernel_rfl) (by kernel_rfl) (by kernel_rfl) (.then .body) (List.Sublist.append (.refl _) (.cons_cons _ (.cons_cons _ (.cons_cons _ (.cons _ (.refl _)))))) rfl (r_move rfl) ?_
      refine d_val 10 rfl (by kernel_rfl) (by kernel_rfl) (by kernel_rfl) (.then .body) (List.Sublist.append (.refl _) (.cons_cons _ (.cons_cons _ (.cons_cons _ (.cons _ (.refl _)))))) rfl (r_move rfl) ?_
      refine d_val 11 rfl (by kernel_rfl) (by kernel_rfl) (by kernel_rfl) (.then .body) (List.Sublist.append (.refl _) (.cons_cons _ (.cons_cons _ (.cons_cons _ (.cons _ (.refl _)))))) rfl (r_ia_at car pre.length Tryz.underlying119 iz_218 rfl rfl rfl rfl hcar (by rw [Nat.zero_add, hpl])) ?_
      refine d_val 12 rfl (by kernel_rfl) (by kernel_rfl) (by kernel_rfl) (.then .body) (List.Sublist.append (.refl _) (.cons_cons _ (.cons_cons _ (.cons_cons _ (.cons _ (.refl _)))))) rfl (r_fa fo_218_0 rfl) ?_
      refine d_eff 13 rfl rfl (by kernel_rfl) (e_store iz_4 rfl rfl rfl (.app .zero) (.right (.there (.there (.there .here)))) ?_)
      refine d_held (List.Sublist.append (.refl _) (.cons_cons _ (.cons_cons _ (.cons_cons _ (.cons _ (.refl _)))))) ?_
      refine d_val 14 rfl (by kernel_rfl) (by kernel_rfl) (by kernel_rfl) (.then .body) (List.Sublist.append (.refl _) (.cons_cons _ (.cons_cons _ (.cons_cons _ (.cons _ (.refl _)))))) rfl (r_ia_at car pre.length Tryz.underlying119 iz_218 rfl rfl rfl rfl hcar (by rw [Nat.zero_add, hpl])) ?_
      refine d_val 15 rfl (by kernel_rfl) (by kernel_rfl) (by kernel_rfl) (.then .body) (List.Sublist.append (.refl _) (.cons_cons _ (.cons_cons _ (.cons_cons _ (.cons _ (.refl _)))))) rfl (r_fa fo_218_1 rfl) ?_
      refine d_eff 16 rfl rfl (by kernel_rfl) (e_store iz_3 rfl rfl rfl (.app (.succ .zero)) (.right (.there (.there (.there .here)))) ?_)
      refine d_held (List.Sublist.append (.refl _) (.cons_cons _ (.cons_cons _ (.cons_cons _ (.cons _ (.refl _)))))) ?_
      refine d_end (by kernel_rfl) ?_
      refine Tr.keep (env' := []) trivial ?_
      refine t_then ?_
      refine t_seq ?_
      refine t_region ?_
      refine t_val (r_assign rfl) rfl ?_
      refine t_nil ?_
      refine Tr.keep (env' := [(6, _)]) ⟨rfl, trivial⟩ ?_
      refine t_then ?_
      refine t_retc ?_
      refine t_ret1 rfl rfl (fun w hw => ?_)
      refine ⟨rfl, ?_⟩
      have e1 : g.start car t = { g with cars := g.cars.set car { z with started := true, second := t } } := by simp [GuardSt.start, hz]
      rw [e1]
      have h := Ok.sub hw (List.sublist_append_right _ _)
      simp only [GuardSt.eg, GuardSt.er, GuardSt.ep, GuardSt.ec, GuardSt.cells, List.length_set] at h ⊢
      rw [(hsp _).2]
      exact h
end
end Go.Proofs.W
