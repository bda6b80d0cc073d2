/-
  What functions of the program that RallyChains reaches do, one contract each, part 9.
-/
import Derived.Test.YtkacdmfekjincaaGreatDoorWH
set_option linter.unusedVariables false
set_option linter.unusedSimpArgs false
set_option linter.unusedSectionVars false
set_option maxRecDepth 100000
namespace Go.Proofs.W
open Go Go.Sl Go.RowKit Go.Proofs
attribute [local irreducible] Go.Sl.Eff
theorem en_217 : Enters Tryz.prog 217 := enters_of Tryz.func217 (by kernel_rfl) (by kernel_rfl)
theorem en_219 : Enters Tryz.prog 219 := enters_of Tryz.func219 (by kernel_rfl) (by kernel_rfl)
theorem en_220 : Enters Tryz.prog 220 := enters_of Tryz.func220 (by kernel_rfl) (by kernel_rfl)
theorem en_277 : Enters Tryz.prog 277 := enters_of Tryz.func277 (by kernel_rfl) (by kernel_rfl)
theorem word_ne {u : ByteArray} (c : UInt8) (r : Array UInt8) (h : Digits u) (hc : c.toNat < 48 ∨ 57 < c.toNat) : decide (u = ⟨(#[c] ++ r)⟩) = false := by
  rw [decide_eq_false_iff_not]
  rintro rfl
  have h1 := h 0 (by simp [ByteArray.size]; omega)
  have h2 : (ByteArray.mk (#[c] ++ r)).get! 0 = c := by
    show (#[c] ++ r)[0]! = c
    rw [getElem!_pos _ _ (by simp; omega)]
    simp [Array.getElem_append]
  rw [h2] at h1
  omega
theorem keyMark : KeyK Tryz.prog 79 (fun i : Int => Value.int .i64 i) := KeyK.int Tryz.underlying79
section
variable {w0 : World} {M : List Ent}
theorem leg1_c {b4 b : Nat} {sN s l : Sl3} {s0 t0 : Int} {l0 l1 l2 : CLine} {X : List Ent} (hb4 : cel b4 36 [sN.v 3] ∈ X) (hN : cel sN.b 3 (.int .i64 1 :: .int .i64 0 :: .int .i64 t0 :: sN.sp) ∈ X) :
   ∀ w, Ok w0 (cel b 78 [.int .i64 0, s.v 1, l.v 3] :: cel s.b 3 (flat ([s0].map encI) ++ s.sp) :: cel l.b 81 (flat ([l0, l1, l2].map CLine.cells) ++ l.sp) :: X) w →
     Calls Tryz.prog 219 #[.pointer (some ⟨b, 0, none⟩), .pointer (some ⟨b4, 0, none⟩)] w (fun e w' => e = .returned (.tuple #[]) ∧ Ok w0 (cel b 78 [.int .i64 0, s.v 1, l.v 3] :: cel s.b 3 (flat ([t0].map encI) ++ s.sp) :: cel l.b 81 (flat ([l0, l1, l2].map CLine.cells) ++ l.sp) :: X) w') := by
  refine enter (vs := [_, _]) Tryz.func219 rfl Tryz.ntmps219 rfl ?_
  refine d_beginS (.cons_cons _ (.cons _ (.refl _))) mixed rfl ?_
  refine d_val 0 rfl (by kernel_rfl) (by kernel_rfl) (by kernel_rfl) .body (.cons_cons _ (.cons _ (.refl _))) rfl (r_move rfl) ?_
  refine d_val 1 rfl (by kernel_rfl) (by kernel_rfl) (by kernel_rfl) .body (.cons_cons _ (.cons _ (.refl _))) rfl (r_nilCheck rfl) ?_
  refine d_val 2 rfl (by kernel_rfl) (by kernel_rfl) (by kernel_rfl) .body (.cons_cons _ (.cons _ (.refl _))) rfl (r_fa fo_78_1 rfl) ?_
  refine d_val 3 rfl (by kernel_rfl) (by kernel_rfl) (by kernel_rfl) .body (.cons_cons _ (.cons _ (.refl _))) rfl (r_load ca_36 rfl (rd_m (.head _) rfl)) ?_
  refine d_val 4 rfl (by kernel_rfl) (by kernel_rfl) (by kernel_rfl) .body (.cons_cons _ (.cons _ (.refl _))) rfl (r_load ca_36 rfl (rd_m (.tail _ (.tail _ hb4)) rfl)) ?_
  refine d_val 5 rfl (by kernel_rfl) (by kernel_rfl) (by kernel_rfl) .body (.cons_cons _ (.cons _ (.refl _))) rfl (r_ia (j := 1) Tryz.underlying36 iz_3 rfl rfl rfl (by decide)) ?_
  refine d_val 6 rfl (by kernel_rfl) (by kernel_rfl) (by kernel_rfl) .body (.cons_cons _ (.cons _ (.refl _))) rfl (r_load ca_3 rfl (rd_m (.tail _ (.tail _ hN)) rfl)) ?_
  refine d_val 7 rfl (by kernel_rfl) (by kernel_rfl) (by kernel_rfl) .body (.cons_cons _ (.cons _ (.refl _))) rfl (r_load ca_36 rfl (rd_m (.tail _ (.tail _ hb4)) rfl)) ?_
  refine d_val 8 rfl (by kernel_rfl) (by kernel_rfl) (by kernel_rfl) .body (.cons_cons _ (.cons _ (.refl _))) rfl (r_ia (j := 2) Tryz.underlying36 iz_3 rfl rfl rfl (by decide)) ?_
  refine d_val 9 rfl (by kernel_rfl) (by kernel_rfl) (by kernel_rfl) .body (.cons_cons _ (.cons _ (.refl _))) rfl (r_load ca_3 rfl (rd_m (.tail _ (.tail _ hN)) rfl)) ?_
  refine d_val 10 rfl (by kernel_rfl) (by kernel_rfl) (by kernel_rfl) .body (.cons_cons _ (.cons _ (.refl _))) rfl (r_ia (j := 0) Tryz.underlying36 iz_3 rfl rfl rfl (by decide)) ?_
  refine d_eff 11 rfl rfl (by kernel_rfl) (e_store iz_3 rfl rfl rfl .zero (.there .here) ?_)
  refine d_held (.cons_cons _ (.cons _ (.refl _))) ?_
  refine d_end (by kernel_rfl) ?_
  refine Tr.keep (env' := []) trivial ?_
  refine t_end0 rfl (fun w hw => ?_)
  exact ⟨rfl, hw⟩
theorem item1_0 {lb ib b : Nat} {s l : Sl3} {s0 : Int} {l0 l1 l2 v : CLine} {X : List Ent} (hlb : cel lb 81 v.cells ∈ X) (hib : cel ib 3 [.int .i64 0] ∈ X) :
   ∀ w, Ok w0 (cel b 78 [.int .i64 0, s.v 1, l.v 3] :: cel s.b 3 (flat ([s0].map encI) ++ s.sp) :: cel l.b 81 (flat ([l0, l1, l2].map CLine.cells) ++ l.sp) :: X) w →
     Calls Tryz.prog 277 #[.pointer (some ⟨b, 0, none⟩), .pointer (some ⟨lb, 0, none⟩), .pointer (some ⟨ib, 0, none⟩)] w (fun e w' => e = .returned (.tuple #[]) ∧ Ok w0 (cel b 78 [.int .i64 0, s.v 1, l.v 3] :: cel s.b 3 (flat ([s0].map encI) ++ s.sp) :: cel l.b 81 (flat ([v, l1, l2].map CLine.cells) ++ l.sp) :: X) w') := by
  refine enter (vs := [_, _, _]) Tryz.func277 rfl Tryz.ntmps277 rfl ?_
  refine d_beginS (.cons_cons _ (.cons_cons _ (.cons _ (.refl _)))) mixed rfl ?_
  refine d_val 0 rfl (by kernel_rfl) (by kernel_rfl) (by kernel_rfl) .body (.cons_cons _ (.cons_cons _ (.cons _ (.refl _)))) rfl (r_move rfl) ?_
  refine d_val 1 rfl (by kernel_rfl) (by kernel_rfl) (by kernel_rfl) .body (.cons_cons _ (.cons_cons _ (.cons _ (.refl _)))) rfl (r_nilCheck rfl) ?_
  refine d_val 2 rfl (by kernel_rfl) (by kernel_rfl) (by kernel_rfl) .body (.cons_cons _ (.cons_cons _ (.cons _ (.refl _)))) rfl (r_fa fo_78_2 rfl) ?_
  refine d_val 3 rfl (by kernel_rfl) (by kernel_rfl) (by kernel_rfl) .body (.cons_cons _ (.cons_cons _ (.cons _ (.refl _)))) rfl (r_load ca_76 rfl (rd_m (.head _) rfl)) ?_
  refine d_val 4 rfl (by kernel_rfl) (by kernel_rfl) (by kernel_rfl) .body (.cons_cons _ (.cons_cons _ (.cons _ (.refl _)))) rfl (r_load ca_3 rfl (rd_m (.tail _ (.tail _ hib)) rfl)) ?_
  refine d_val 5 rfl (by kernel_rfl) (by kernel_rfl) (by kernel_rfl) .body (.cons_cons _ (.cons_cons _ (.cons _ (.refl _)))) rfl (r_loads ca_81 rfl (rds_m (n := 4) (vs := [_, _, _, _]) (.tail _ (.tail _ hlb)) rfl) rfl) ?_
  refine d_val 6 rfl (by kernel_rfl) (by kernel_rfl) (by kernel_rfl) .body (.cons_cons _ (.cons_cons _ (.cons _ (.refl _)))) rfl (r_ia (j := 0) Tryz.underlying76 iz_81 rfl rfl rfl (by decide)) ?_
  refine d_eff 7 rfl rfl (by kernel_rfl) (e_stores iz_81 rfl rfl (vs := [_, _, _, _]) rfl rfl (by simp [Value.oneCell']) (.cons .zero (.cons (.succ .zero) (.cons (.succ (.succ .zero)) (.cons (.succ (.succ (.succ .zero))) .nil)))) (.there (.there .here)) ?_)
  refine d_held (.cons_cons _ (.cons_cons _ (.cons _ (.refl _)))) ?_
  refine d_end (by kernel_rfl) ?_
  refine Tr.keep (env' := []) trivial ?_
  refine t_end0 rfl (fun w hw => ?_)
  exact ⟨rfl, hw⟩
theorem item1_1 {lb ib b : Nat} {s l : Sl3} {s0 : Int} {l0 l1 l2 v : CLine} {X : List Ent} (hlb : cel lb 81 v.cells ∈ X) (hib : cel ib 3 [.int .i64 1] ∈ X) :
   ∀ w, Ok w0 (cel b 78 [.int .i64 0, s.v 1, l.v 3] :: cel s.b 3 (flat ([s0].map encI) ++ s.sp) :: cel l.b 81 (flat ([l0, l1, l2].map CLine.cells) ++ l.sp) :: X) w →
     Calls Tryz.prog 277 #[.pointer (some ⟨b, 0, none⟩), .pointer (some ⟨lb, 0, none⟩), .pointer (some ⟨ib, 0, none⟩)] w (fun e w' => e = .returned (.tuple #[]) ∧ Ok w0 (cel b 78 [.int .i64 0, s.v 1, l.v 3] :: cel s.b 3 (flat ([s0].map encI) ++ s.sp) :: cel l.b 81 (flat ([l0, v, l2].map CLine.cells) ++ l.sp) :: X) w') := by
  refine enter (vs := [_, _, _]) Tryz.func277 rfl Tryz.ntmps277 rfl ?_
  refine d_beginS (.cons_cons _ (.cons_cons _ (.cons _ (.refl _)))) mixed rfl ?_
  refine d_val 0 rfl (by kernel_rfl) (by kernel_rfl) (by kernel_rfl) .body (.cons_cons _ (.cons_cons _ (.cons _ (.refl _)))) rfl (r_move rfl) ?_
  refine d_val 1 rfl (by kernel_rfl) (by kernel_rfl) (by kernel_rfl) .body (.cons_cons _ (.cons_cons _ (.cons _ (.refl _)))) rfl (r_nilCheck rfl) ?_
  refine d_val 2 rfl (by kernel_rfl) (by kernel_rfl) (by kernel_rfl) .body (.cons_cons _ (.cons_cons _ (.cons _ (.refl _)))) rfl (r_fa fo_78_2 rfl) ?_
  refine d_val 3 rfl (by kernel_rfl) (by kernel_rfl) (by kernel_rfl) .body (.cons_cons _ (.cons_cons _ (.cons _ (.refl _)))) rfl (r_load ca_76 rfl (rd_m (.head _) rfl)) ?_
  refine d_val 4 rfl (by kernel_rfl) (by kernel_rfl) (by kernel_rfl) .body (.cons_cons _ (.cons_cons _ (.cons _ (.refl _)))) rfl (r_load ca_3 rfl (rd_m (.tail _ (.tail _ hib)) rfl)) ?_
  refine d_val 5 rfl (by kernel_rfl) (by kernel_rfl) (by kernel_rfl) .body (.cons_cons _ (.cons_cons _ (.cons _ (.refl _)))) rfl (r_loads ca_81 rfl (rds_m (n := 4) (vs := [_, _, _, _]) (.tail _ (.tail _ hlb)) rfl) rfl) ?_
  refine d_val 6 rfl (by kernel_rfl) (by kernel_rfl) (by kernel_rfl) .body (.cons_cons _ (.cons_cons _ (.cons _ (.refl _)))) rfl (r_ia (j := 1) Tryz.underlying76 iz_81 rfl rfl rfl (by decide)) ?_
  refine d_eff 7 rfl rfl (by kernel_rfl) (e_stores iz_81 rfl rfl (vs := [_, _, _, _]) rfl rfl (by simp [Value.oneCell']) (.cons (.succ (.succ (.succ (.succ .zero)))) (.cons (.succ (.succ (.succ (.succ (.succ .zero))))) (.cons (.succ (.succ (.succ (.succ (.succ (.succ .zero)))))) (.cons (.succ (.succ (.succ (.succ (.succ (.succ (.succ .zero))))))) .nil)))) (.there (.there .here)) ?_)
  refine d_held (.cons_cons _ (.cons_cons _ (.cons _ (.refl _)))) ?_
  refine d_end (by kernel_rfl) ?_
  refine Tr.keep (env' := []) trivial ?_
  refine t_end0 rfl (fun w hw => ?_)
  exact ⟨rfl, hw⟩
theorem item_0_ok {ea : EvAt} {lv : Value} {Fr : List Ent} {s0 : Int} {l0 l1 l2 v : CLine} (hev : ea.ev lv ∈ Fr) (hin : ea.sa.In Fr) (ht : 0 ≤ s0 ∧ s0 ≤ 100000) (hok : cardOk v l1 l2) :
   ∀ w, Ok w0 (ea.ec (cd s0 l0 l1 l2) :: ea.es (cd s0 l0 l1 l2) :: ea.el (cd s0 l0 l1 l2) :: Fr) w → Calls Tryz.prog 220 #[.pointer (some ⟨ea.eb, 0, none⟩), .int .i64 0, .int .i64 0, .agg v.cells.toArray] w (fun e w' => ∃ y : Sl3 × Sl3, e = .returned (.tuple #[]) ∧ True ∧ Ok w0 ({ ea with starts := y.1, lines := y.2 }.ec (cd s0 v l1 l2) :: { ea with starts := y.1, lines := y.2 }.es (cd s0 v l1 l2) :: { ea with starts := y.1, lines := y.2 }.el (cd s0 v l1 l2) :: Fr) w') := by
  refine enter (vs := [_, _, _, _]) Tryz.func220 rfl Tryz.ntmps220 rfl ?_
  refine t_seq ?_
  refine t_region ?_
  refine t_eff rfl (e_box1 rfl rfl rfl fun b6 => ?_)
  refine t_eff rfl (e_box rfl rfl fun b7 => ?_)
  refine t_nil ?_
  refine Tr.keep (env' := [(0, _), (1, _), (6, _), (7, _)]) ⟨rfl, rfl, rfl, rfl, trivial⟩ ?_
  refine t_then ?_
  refine t_seq ?_
  refine t_seq ?_
  refine d_begin mixed rfl ?_
  refine d_val 0 rfl (by kernel_rfl) (by kernel_rfl) (by kernel_rfl) (.then (.then .body)) (.refl _) rfl (r_load ca_3 rfl (rd_m (.tail _ (.head _)) rfl)) ?_
  refine d_val 1 rfl (by kernel_rfl) (by kernel_rfl) (by kernel_rfl) (.then (.then .body)) (.refl _) rfl (r_move rfl) ?_
  refine d_val 2 rfl (by kernel_rfl) (by kernel_rfl) (by kernel_rfl) (.then (.then .body)) (.refl _) rfl (r_nilCheck rfl) ?_
  refine d_val 3 rfl (by kernel_rfl) (by kernel_rfl) (by kernel_rfl) (.then (.then .body)) (.refl _) rfl (r_fa fo_56_0 rfl) ?_
  refine d_val 4 rfl (by kernel_rfl) (by kernel_rfl) (by kernel_rfl) (.then (.then .body)) (.refl _) rfl (r_fa fo_50_3 rfl) ?_
  refine d_val 5 rfl (by kernel_rfl) (by kernel_rfl) (by kernel_rfl) (.then (.then .body)) (.refl _) rfl (r_fa fo_45_0 rfl) ?_
  refine d_val 6 rfl (by kernel_rfl) (by kernel_rfl) (by kernel_rfl) (.then (.then .body)) (.refl _) rfl (r_load ca_40 rfl (rd_m (.tail _ (.tail _ (.tail _ (.tail _ (.tail _ hev))))) rfl)) ?_
  refine d_val 7 rfl (by kernel_rfl) (by kernel_rfl) (by kernel_rfl) (.then (.then .body)) (.refl _) rfl (r_len_slice Tryz.underlying40 rfl) ?_
  refine d_val 8 rfl (by kernel_rfl) (by kernel_rfl) (by kernel_rfl) (.then (.then .body)) (.refl _) rfl (r_ge rfl rfl) ?_
  refine d_end (by kernel_rfl) ?_
  refine Tr.keep (env' := [(0, _), (1, _), (6, _), (7, _), (16, _)]) ⟨rfl, rfl, rfl, rfl, rfl, trivial⟩ ?_
  refine t_then ?_
  refine t_cond_f rfl ?_
  refine t_skip ?_
  refine t_then ?_
  refine t_region ?_
  refine t_val (r_move rfl) rfl ?_
  refine t_val (r_move rfl) rfl ?_
  refine t_val (r_makeFunc rfl rfl) rfl ?_
  refine t_eff rfl (e_call en_217 rfl rfl rfl rfl (fun w hw => write_ok (ea := ea) (lv := lv) (fun b => #[.pointer (some ⟨b, 0, none⟩), .pointer (some ⟨b7, 0, none⟩), .pointer (some ⟨b6, 0, none⟩)]) (fun _ => rfl) (.tail _ (.tail _ hev)) (hin.sub (.cons _ (.cons _ (.refl _)))) en_277 (fun b s l X hX w hw => item1_0 (v := v) (hX.subset (.head _)) (hX.subset (.tail _ (.head _))) w hw) ht hok w (hw.perm (pk (.there (.there .here)) (pk (.there (.there .here)) (pk (.there (.there .here)) (.refl _)))))) fun y _ => ?_)
  refine t_nil ?_
  refine Tr.keep (env' := []) trivial ?_
  refine t_end0 rfl (fun w hw => ?_)
  exact ⟨y, rfl, trivial, Ok.sub (hw.perm (pk .here (pk .here (pk .here (.refl _))))) (.cons_cons _ (.cons_cons _ (.cons_cons _ (.cons _ (.cons _ (.refl _))))))⟩
theorem item_1_ok {ea : EvAt} {lv : Value} {Fr : List Ent} {s0 : Int} {l0 l1 l2 v : CLine} (hev : ea.ev lv ∈ Fr) (hin : ea.sa.In Fr) (ht : 0 ≤ s0 ∧ s0 ≤ 100000) (hok : cardOk l0 v l2) :
   ∀ w, Ok w0 (ea.ec (cd s0 l0 l1 l2) :: ea.es (cd s0 l0 l1 l2) :: ea.el (cd s0 l0 l1 l2) :: Fr) w → Calls Tryz.prog 220 #[.pointer (some ⟨ea.eb, 0, none⟩), .int .i64 0, .int .i64 1, .agg v.cells.toArray] w (fun e w' => ∃ y : Sl3 × Sl3, e = .returned (.tuple #[]) ∧ True ∧ Ok w0 ({ ea with starts := y.1, lines := y.2 }.ec (cd s0 l0 v l2) :: { ea with starts := y.1, lines := y.2 }.es (cd s0 l0 v l2) :: { ea with starts := y.1, lines := y.2 }.el (cd s0 l0 v l2) :: Fr) w') := by
  refine enter (vs := [_, _, _, _]) Tryz.func220 rfl Tryz.ntmps220 rfl ?_
  refine t_seq ?_
  refine t_region ?_
  refine t_eff rfl (e_box1 rfl rfl rfl fun b6 => ?_)
  refine t_eff rfl (e_box rfl rfl fun b7 => ?_)
  refine t_nil ?_
  refine Tr.keep (env' := [(0, _), (1, _), (6, _), (7, _)]) ⟨rfl, rfl, rfl, rfl, trivial⟩ ?_
  refine t_then ?_
  refine t_seq ?_
  refine t_seq ?_
  refine d_begin mixed rfl ?_
  refine d_val 0 rfl (by kernel_rfl) (by kernel_rfl) (by kernel_rfl) (.then (.then .body)) (.refl _) rfl (r_load ca_3 rfl (rd_m (.tail _ (.head _)) rfl)) ?_
  refine d_val 1 rfl (by kernel_rfl) (by kernel_rfl) (by kernel_rfl) (.then (.then .body)) (.refl _) rfl (r_move rfl) ?_
  refine d_val 2 rfl (by kernel_rfl) (by kernel_rfl) (by kernel_rfl) (.then (.then .body)) (.refl _) rfl (r_nilCheck rfl) ?_
  refine d_val 3 rfl (by kernel_rfl) (by kernel_rfl) (by kernel_rfl) (.then (.then .body)) (.refl _) rfl (r_fa fo_56_0 rfl) ?_
  refine d_val 4 rfl (by kernel_rfl) (by kernel_rfl) (by kernel_rfl) (.then (.then .body)) (.refl _) rfl (r_fa fo_50_3 rfl) ?_
  refine d_val 5 rfl (by kernel_rfl) (by kernel_rfl) (by kernel_rfl) (.then (.then .body)) (.refl _) rfl (r_fa fo_45_0 rfl) ?_
  refine d_val 6 rfl (by kernel_rfl) (by kernel_rfl) (by kernel_rfl) (.then (.then .body)) (.refl _) rfl (r_load ca_40 rfl (rd_m (.tail _ (.tail _ (.tail _ (.tail _ (.tail _ hev))))) rfl)) ?_
  refine d_val 7 rfl (by kernel_rfl) (by kernel_rfl) (by kernel_rfl) (.then (.then .body)) (.refl _) rfl (r_len_slice Tryz.underlying40 rfl) ?_
  refine d_val 8 rfl (by kernel_rfl) (by kernel_rfl) (by kernel_rfl) (.then (.then .body)) (.refl _) rfl (r_ge rfl rfl) ?_
  refine d_end (by kernel_rfl) ?_
  refine Tr.keep (env' := [(0, _), (1, _), (6, _), (7, _), (16, _)]) ⟨rfl, rfl, rfl, rfl, rfl, trivial⟩ ?_
  refine t_then ?_
  refine t_cond_f rfl ?_
  refine t_skip ?_
  refine t_then ?_
  refine t_region ?_
  refine t_val (r_move rfl) rfl ?_
  refine t_val (r_move rfl) rfl ?_
  refine t_val (r_makeFunc rfl rfl) rfl ?_
  refine t_eff rfl (e_call en_217 rfl rfl rfl rfl (fun w hw => write_ok (ea := ea) (lv := lv) (fun b => #[.pointer (some ⟨b, 0, none⟩), .pointer (some ⟨b7, 0, none⟩), .pointer (some ⟨b6, 0, none⟩)]) (fun _ => rfl) (.tail _ (.tail _ hev)) (hin.sub (.cons _ (.cons _ (.refl _)))) en_277 (fun b s l X hX w hw => item1_1 (v := v) (hX.subset (.head _)) (hX.subset (.tail _ (.head _))) w hw) ht hok w (hw.perm (pk (.there (.there .here)) (pk (.there (.there .here)) (pk (.there (.there .here)) (.refl _)))))) fun y _ => ?_)
  refine t_nil ?_
  refine Tr.keep (env' := []) trivial ?_
  refine t_end0 rfl (fun w hw => ?_)
  exact ⟨y, rfl, trivial, Ok.sub (hw.perm (pk .here (pk .here (pk .here (.refl _))))) (.cons_cons _ (.cons_cons _ (.cons_cons _ (.cons _ (.cons _ (.refl _))))))⟩
theorem item_1_no {ea : EvAt} {lv : Value} {Fr : List Ent} {s0 : Int} {l0 l1 l2 v : CLine} (hev : ea.ev lv ∈ Fr) (hin : ea.sa.In Fr) (ht : 0 ≤ s0 ∧ s0 ≤ 100000) (hok : ¬ cardOk l0 v l2) :
   ∀ w, Ok w0 (ea.ec (cd s0 l0 l1 l2) :: ea.es (cd s0 l0 l1 l2) :: ea.el (cd s0 l0 l1 l2) :: Fr) w → Calls Tryz.prog 220 #[.pointer (some ⟨ea.eb, 0, none⟩), .int .i64 0, .int .i64 1, .agg v.cells.toArray] w (fun e w' => e = .panicked (refused 2) ∧ Ok w0 (ea.ec (cd s0 l0 l1 l2) :: ea.es (cd s0 l0 l1 l2) :: ea.el (cd s0 l0 l1 l2) :: Fr) w') := by
  refine enter (vs := [_, _, _, _]) Tryz.func220 rfl Tryz.ntmps220 rfl ?_
  refine t_seq ?_
  refine t_region ?_
  refine t_eff rfl (e_box1 rfl rfl rfl fun b6 => ?_)
  refine t_eff rfl (e_box rfl rfl fun b7 => ?_)
  refine t_nil ?_
  refine Tr.keep (env' := [(0, _), (1, _), (6, _), (7, _)]) ⟨rfl, rfl, rfl, rfl, trivial⟩ ?_
  refine t_then ?_
  refine t_seq ?_
  refine t_seq ?_
  refine d_begin mixed rfl ?_
  refine d_val 0 rfl (by kernel_rfl) (by kernel_rfl) (by kernel_rfl) (.then (.then .body)) (.refl _) rfl (r_load ca_3 rfl (rd_m (.tail _ (.head _)) rfl)) ?_
  refine d_val 1 rfl (by kernel_rfl) (by kernel_rfl) (by kernel_rfl) (.then (.then .body)) (.refl _) rfl (r_move rfl) ?_
  refine d_val 2 rfl (by kernel_rfl) (by kernel_rfl) (by kernel_rfl) (.then (.then .body)) (.refl _) rfl (r_nilCheck rfl) ?_
  refine d_val 3 rfl (by kernel_rfl) (by kernel_rfl) (by kernel_rfl) (.then (.then .body)) (.refl _) rfl (r_fa fo_56_0 rfl) ?_
  refine d_val 4 rfl (by kernel_rfl) (by kernel_rfl) (by kernel_rfl) (.then (.then .body)) (.refl _) rfl (r_fa fo_50_3 rfl) ?_
  refine d_val 5 rfl (by kernel_rfl) (by kernel_rfl) (by kernel_rfl) (.then (.then .body)) (.refl _) rfl (r_fa fo_45_0 rfl) ?_
  refine d_val 6 rfl (by kernel_rfl) (by kernel_rfl) (by kernel_rfl) (.then (.then .body)) (.refl _) rfl (r_load ca_40 rfl (rd_m (.tail _ (.tail _ (.tail _ (.tail _ (.tail _ hev))))) rfl)) ?_
  refine d_val 7 rfl (by kernel_rfl) (by kernel_rfl) (by kernel_rfl) (.then (.then .body)) (.refl _) rfl (r_len_slice Tryz.underlying40 rfl) ?_
  refine d_val 8 rfl (by kernel_rfl) (by kernel_rfl) (by kernel_rfl) (.then (.then .body)) (.refl _) rfl (r_ge rfl rfl) ?_
  refine d_end (by kernel_rfl) ?_
  refine Tr.keep (env' := [(0, _), (1, _), (6, _), (7, _), (16, _)]) ⟨rfl, rfl, rfl, rfl, rfl, trivial⟩ ?_
  refine t_then ?_
  refine t_cond_f rfl ?_
  refine t_skip ?_
  refine t_then ?_
  refine t_region ?_
  refine t_val (r_move rfl) rfl ?_
  refine t_val (r_move rfl) rfl ?_
  refine t_val (r_makeFunc rfl rfl) rfl ?_
  refine t_eff rfl (e_panics en_217 rfl rfl rfl (fun w hw => write_no (ea := ea) (lv := lv) (fun b => #[.pointer (some ⟨b, 0, none⟩), .pointer (some ⟨b7, 0, none⟩), .pointer (some ⟨b6, 0, none⟩)]) (fun _ => rfl) (.tail _ (.tail _ hev)) (hin.sub (.cons _ (.cons _ (.refl _)))) en_277 (fun b s l X hX w hw => item1_1 (v := v) (hX.subset (.head _)) (hX.subset (.tail _ (.head _))) w hw) ht hok w (hw.perm (pk (.there (.there .here)) (pk (.there (.there .here)) (pk (.there (.there .here)) (.refl _)))))) ?_)
  exact t_panic_end (fun w hw => ⟨rfl, Ok.sub hw (.cons_cons _ (.cons_cons _ (.cons_cons _ (.cons _ (.cons _ (.refl _))))))⟩)
theorem leg_ok {ea : EvAt} {lv : Value} {Fr : List Ent} {s0 t0 : Int} {l0 l1 l2 : CLine} {A : Option Addr} {cc : Nat} {x y z v : ByteArray} (hev : ea.ev lv ∈ Fr) (hin : ea.sa.In Fr) (hs : SlRd w0 (ea.ec (cd s0 l0 l1 l2) :: ea.es (cd s0 l0 l1 l2) :: ea.el (cd s0 l0 l1 l2) :: Fr) 1 A 3 [encS x, encS y, encS z]) (hx : Num x 1) (hy : Num y 0) (hz : Num z t0) (ht : 0 ≤ t0 ∧ t0 ≤ 100000) (hok : cardOk l0 l1 l2) :
   ∀ w, Ok w0 (ea.ec (cd s0 l0 l1 l2) :: ea.es (cd s0 l0 l1 l2) :: ea.el (cd s0 l0 l1 l2) :: Fr) w → Calls Tryz.prog 155 #[.pointer (some ⟨ea.eb, 0, none⟩), .agg #[.string v, .slice A 3 cc]] w (fun e w' => ∃ y : Sl3 × Sl3, e = .returned (.tuple #[]) ∧ True ∧ Ok w0 ({ ea with starts := y.1, lines := y.2 }.ec (cd t0 l0 l1 l2) :: { ea with starts := y.1, lines := y.2 }.es (cd t0 l0 l1 l2) :: { ea with starts := y.1, lines := y.2 }.el (cd t0 l0 l1 l2) :: Fr) w') := by
  refine enter (vs := [_, _]) Tryz.func155 rfl Tryz.ntmps155 rfl ?_
  refine t_seq ?_
  refine t_region ?_
  refine t_eff rfl (e_box rfl rfl fun b3 => ?_)
  refine t_nil ?_
  refine Tr.keep (env' := [(0, _), (3, _)]) ⟨rfl, rfl, trivial⟩ ?_
  refine t_then ?_
  refine t_seq ?_
  refine t_region ?_
  refine t_val (r_loads ca_182 rfl (rds_m (n := 2) (vs := [_, _]) (.head _) rfl) rfl) rfl ?_
  refine t_eff rfl (e_call en_211 rfl rfl rfl rfl (numbers_ok (ws := [x, y, z]) _ (hs.sub (.cons _ (.refl _))) (by intro z hz; simp at hz; rcases hz with rfl | rfl | rfl <;> first | exact hx.1 | exact hy.1 | exact hz.1) (by simp)) fun xo hO => ?_)
  obtain ⟨xv, xE⟩ := xo
  dsimp only at hO ⊢
  obtain ⟨sN, hv, hE⟩ := own_sl (n := 3) hO rfl (by decide)
  subst hv hE
  show Tr _ _ _ _ (cel sN.b 3 (.int .i64 (wordV x) :: .int .i64 (wordV y) :: .int .i64 (wordV z) :: sN.sp) :: _) _
  rw [hx.2]
  rw [hy.2]
  rw [hz.2]
  refine t_eff rfl (e_alloc inf_36 (l := [.slice none 0 0]) rfl rfl fun b4 => ?_)
  refine t_eff rfl (e_store iz_36 rfl rfl rfl .zero .here ?_)
  refine t_nil ?_
  refine Tr.keep (env' := [(0, _), (4, _)]) ⟨rfl, rfl, trivial⟩ ?_
  refine t_then ?_
  refine t_seq ?_
  refine t_region ?_
  refine t_val (r_move rfl) rfl ?_
  refine t_val (r_load ca_36 rfl (rd_m (.head _) rfl)) rfl ?_
  refine t_val (r_ia (j := 0) Tryz.underlying36 iz_3 rfl rfl rfl (by decide)) rfl ?_
  refine t_val (r_load ca_3 rfl (rd_m (.tail _ (.head _)) rfl)) rfl ?_
  refine t_eff rfl (e_pcall en_214 rfl rfl rfl rfl (car_c (e' := ea) (lv := lv) ((.tail _ (.tail _ (.tail _ (.tail _ (.tail _ (.tail _ hev)))))))) ?_)
  refine t_val (r_assign rfl) rfl ?_
  refine t_nil ?_
  refine Tr.keep (env' := [(0, _), (4, _), (5, _)]) ⟨rfl, rfl, rfl, trivial⟩ ?_
  refine t_then ?_
  refine t_seq ?_
  refine t_seq ?_
  refine d_begin mixed rfl ?_
  refine d_val 0 rfl (by kernel_rfl) (by kernel_rfl) (by kernel_rfl) (.then (.then .body)) (.refl _) rfl (r_load ca_36 rfl (rd_m (.head _) rfl)) ?_
  refine d_val 1 rfl (by kernel_rfl) (by kernel_rfl) (by kernel_rfl) (.then (.then .body)) (.refl _) rfl (r_ia (j := 1) Tryz.underlying36 iz_3 rfl rfl rfl (by decide)) ?_
  refine d_val 2 rfl (by kernel_rfl) (by kernel_rfl) (by kernel_rfl) (.then (.then .body)) (.refl _) rfl (r_load ca_3 rfl (rd_m (.tail _ (.head _)) rfl)) ?_
  refine d_val 3 rfl (by kernel_rfl) (by kernel_rfl) (by kernel_rfl) (.then (.then .body)) (.refl _) rfl (r_move rfl) ?_
  refine d_val 4 rfl (by kernel_rfl) (by kernel_rfl) (by kernel_rfl) (.then (.then .body)) (.refl _) rfl (r_nilCheck rfl) ?_
  refine d_val 5 rfl (by kernel_rfl) (by kernel_rfl) (by kernel_rfl) (.then (.then .body)) (.refl _) rfl (r_fa fo_56_4 rfl) ?_
  refine d_val 6 rfl (by kernel_rfl) (by kernel_rfl) (by kernel_rfl) (.then (.then .body)) (.refl _) rfl (r_load ca_54 rfl (rd_m (.tail _ (.tail _ (.tail _ (.tail _ (.tail _ (.tail _ hev)))))) rfl)) ?_
  refine d_val 7 rfl (by kernel_rfl) (by kernel_rfl) (by kernel_rfl) (.then (.then .body)) (.refl _) rfl (r_move rfl) ?_
  refine d_val 8 rfl (by kernel_rfl) (by kernel_rfl) (by kernel_rfl) (.then (.then .body)) (.refl _) rfl (r_ia (j := 0) Tryz.underlying54 iz_78 rfl rfl rfl (by decide)) ?_
  refine d_val 9 rfl (by kernel_rfl) (by kernel_rfl) (by kernel_rfl) (.then (.then .body)) (.refl _) rfl (r_fa fo_78_1 rfl) ?_
  refine d_val 10 rfl (by kernel_rfl) (by kernel_rfl) (by kernel_rfl) (.then (.then .body)) (.refl _) rfl (r_load ca_36 rfl (rd_m (.tail _ (.tail _ (.tail _ (.head _)))) rfl)) ?_
  refine d_val 11 rfl (by kernel_rfl) (by kernel_rfl) (by kernel_rfl) (.then (.then .body)) (.refl _) rfl (r_len_slice Tryz.underlying36 rfl) ?_
  refine d_val 12 rfl (by kernel_rfl) (by kernel_rfl) (by kernel_rfl) (.then (.then .body)) (.refl _) rfl (r_ge rfl rfl) ?_
  refine d_end (by kernel_rfl) ?_
  refine Tr.keep (env' := [(0, _), (4, _), (5, _), (25, _)]) ⟨rfl, rfl, rfl, rfl, trivial⟩ ?_
  refine t_then ?_
  refine t_cond_f rfl ?_
  refine t_skip ?_
  refine t_then ?_
  refine t_region ?_
  refine t_val (r_move rfl) rfl ?_
  refine t_val (r_move rfl) rfl ?_
  refine t_val (r_makeFunc rfl rfl) rfl ?_
  refine t_eff rfl (e_call en_217 rfl rfl rfl rfl (fun w hw => write_ok (ea := ea) (lv := lv) (fun b => #[.pointer (some ⟨b, 0, none⟩), .pointer (some ⟨b4, 0, none⟩)]) (fun _ => rfl) (.tail _ (.tail _ (.tail _ hev))) (hin.sub (.cons _ (.cons _ (.cons _ (.refl _))))) en_219 (fun b s l X hX w hw => leg1_c (hX.subset (.head _)) (hX.subset (.tail _ (.head _))) w hw) ht hok w (hw.perm (pk (.there (.there (.there .here))) (pk (.there (.there (.there .here))) (pk (.there (.there (.there .here))) (.refl _)))))) fun y _ => ?_)
  refine t_nil ?_
  refine Tr.keep (env' := []) trivial ?_
  refine t_end0 rfl (fun w hw => ?_)
  exact ⟨y, rfl, trivial, Ok.sub (hw.perm (pk .here (pk .here (pk .here (.refl _))))) (.cons_cons _ (.cons_cons _ (.cons_cons _ (.cons _ (.cons _ (.cons _ (.refl _)))))))⟩
theorem line_0_ok {ea : EvAt} {lv : Value} {Fr : List Ent} {s0 n2 n3 : Int} {l0 l1 l2 : CLine} {A : Option Addr} {cc : Nat} {x y z u v : ByteArray} (hev : ea.ev lv ∈ Fr) (hin : ea.sa.In Fr) (hs : SlRd w0 (ea.ec (cd s0 l0 l1 l2) :: ea.es (cd s0 l0 l1 l2) :: ea.el (cd s0 l0 l1 l2) :: Fr) 1 A 4 [encS x, encS y, encS z, encS u]) (hx : Num x 1) (hy : Num y 0) (hz : Num z n2) (hu : Num u n3) (ht : 0 ≤ s0 ∧ s0 ≤ 100000) (hok : cardOk ⟨n2, n3, false, 0⟩ l1 l2) :
   ∀ w, Ok w0 (ea.ec (cd s0 l0 l1 l2) :: ea.es (cd s0 l0 l1 l2) :: ea.el (cd s0 l0 l1 l2) :: Fr) w → Calls Tryz.prog 156 #[.pointer (some ⟨ea.eb, 0, none⟩), .agg #[.string v, .slice A 4 cc]] w (fun e w' => ∃ y : Sl3 × Sl3, e = .returned (.tuple #[]) ∧ True ∧ Ok w0 ({ ea with starts := y.1, lines := y.2 }.ec (cd s0 ⟨n2, n3, false, 0⟩ l1 l2) :: { ea with starts := y.1, lines := y.2 }.es (cd s0 ⟨n2, n3, false, 0⟩ l1 l2) :: { ea with starts := y.1, lines := y.2 }.el (cd s0 ⟨n2, n3, false, 0⟩ l1 l2) :: Fr) w') := by
  obtain ⟨b, o, hA, hrd⟩ := hs.at' (by decide)
  refine enter (vs := [_, _]) Tryz.func156 rfl Tryz.ntmps156 rfl ?_
  refine t_seq ?_
  refine t_region ?_
  refine t_eff rfl (e_box rfl rfl fun b3 => ?_)
  refine t_nil ?_
  refine Tr.keep (env' := [(0, _), (3, _)]) ⟨rfl, rfl, trivial⟩ ?_
  refine t_then ?_
  refine t_seq ?_
  refine t_region ?_
  refine t_eff rfl (e_alloc inf_81 (l := [.int .i64 0, .int .i64 0, .bool false, .int .i64 0]) rfl rfl fun b4 => ?_)
  refine t_nil ?_
  refine Tr.keep (env' := [(0, _), (3, _), (4, _)]) ⟨rfl, rfl, rfl, trivial⟩ ?_
  refine t_then ?_
  refine t_seq ?_
  refine t_region ?_
  refine t_val (r_assign rfl) rfl ?_
  refine t_nil ?_
  refine Tr.keep (env' := [(0, _), (3, _), (4, _), (5, _)]) ⟨rfl, rfl, rfl, rfl, trivial⟩ ?_
  refine t_then ?_
  refine t_seq ?_
  refine t_seq ?_
  refine t_region ?_
  refine t_val (r_fa fo_182_1 rfl) rfl ?_
  refine t_val (r_load ca_22 rfl (rd_m (.tail _ (.head _)) rfl)) rfl ?_
  refine t_val (r_len_slice Tryz.underlying22 rfl) rfl ?_
  refine t_val (r_subi rfl rfl (by omega)) rfl ?_
  refine t_val (r_assign rfl) rfl ?_
  refine t_nil ?_
  refine Tr.keep (env' := [(0, _), (3, _), (4, _), (5, _), (6, _)]) ⟨rfl, rfl, rfl, rfl, rfl, trivial⟩ ?_
  refine t_then ?_
  refine t_seq ?_
  refine t_region ?_
  refine t_val (r_move rfl) rfl ?_
  refine t_val (r_ge rfl rfl) rfl ?_
  refine t_val (r_move rfl) rfl ?_
  refine t_gval rfl rfl (r_fa fo_182_1 rfl) rfl ?_
  refine t_gval rfl rfl (r_load ca_22 rfl (rd_m (.tail _ (.head _)) rfl)) rfl ?_
  refine t_gval rfl rfl (r_move rfl) rfl ?_
  refine t_gval rfl rfl (r_ia_s 3 Tryz.underlying22 iz_9 hA rfl rfl rfl (by decide)) rfl ?_
  refine t_gval rfl rfl (r_load ca_9 rfl ((hrd 3 (encS u) rfl 0 (.string u) rfl).sub (.cons _ (.cons _ (.refl _))))) rfl ?_
  refine t_gval rfl rfl (r_to (v2 := .bool false) (r_eqs rfl rfl) (congrArg Value.bool (word_ne 106 #[117, 109, 112] hu.1.1 (by decide)))) rfl ?_
  refine t_val (r_pick_t rfl rfl) rfl ?_
  refine t_nil ?_
  refine Tr.keep (env' := [(0, _), (3, _), (4, _), (5, _), (6, _), (23, _)]) ⟨rfl, rfl, rfl, rfl, rfl, rfl, trivial⟩ ?_
  refine t_then ?_
  refine t_cond_f rfl ?_
  refine t_skip ?_
  refine t_then ?_
  refine t_seq ?_
  refine t_seq ?_
  refine t_region ?_
  refine t_val (r_fa fo_182_1 rfl) rfl ?_
  refine t_val (r_load ca_22 rfl (rd_m (.tail _ (.head _)) rfl)) rfl ?_
  refine t_val (r_len_slice Tryz.underlying22 rfl) rfl ?_
  refine t_val (r_subi rfl rfl (by omega)) rfl ?_
  refine t_val (r_assign rfl) rfl ?_
  refine t_nil ?_
  refine Tr.keep (env' := [(0, _), (3, _), (4, _), (5, _), (7, _)]) ⟨rfl, rfl, rfl, rfl, rfl, trivial⟩ ?_
  refine t_then ?_
  refine t_seq ?_
  refine t_region ?_
  refine t_val (r_move rfl) rfl ?_
  refine t_val (r_ge rfl rfl) rfl ?_
  refine t_val (r_move rfl) rfl ?_
  refine t_gval rfl rfl (r_fa fo_182_1 rfl) rfl ?_
  refine t_gval rfl rfl (r_load ca_22 rfl (rd_m (.tail _ (.head _)) rfl)) rfl ?_
  refine t_gval rfl rfl (r_move rfl) rfl ?_
  refine t_gval rfl rfl (r_ia_s 3 Tryz.underlying22 iz_9 hA rfl rfl rfl (by decide)) rfl ?_
  refine t_gval rfl rfl (r_load ca_9 rfl ((hrd 3 (encS u) rfl 0 (.string u) rfl).sub (.cons _ (.cons _ (.refl _))))) rfl ?_
  refine t_gval rfl rfl (r_to (v2 := .bool false) (r_eqs rfl rfl) (congrArg Value.bool (word_ne 115 #[116, 111, 112, 112, 101, 100] hu.1.1 (by decide)))) rfl ?_
  refine t_val (r_pick_t rfl rfl) rfl ?_
  refine t_nil ?_
  refine Tr.keep (env' := [(0, _), (3, _), (4, _), (5, _), (7, _), (45, _)]) ⟨rfl, rfl, rfl, rfl, rfl, rfl, trivial⟩ ?_
  refine t_then ?_
  refine t_cond_f rfl ?_
  refine t_skip ?_
  refine t_then ?_
  refine t_seq ?_
  refine t_seq ?_
  refine t_region ?_
  refine t_val (r_fa fo_182_1 rfl) rfl ?_
  refine t_val (r_load ca_22 rfl (rd_m (.tail _ (.head _)) rfl)) rfl ?_
  refine t_val (r_len_slice Tryz.underlying22 rfl) rfl ?_
  refine t_val (r_subi rfl rfl (by omega)) rfl ?_
  refine t_val (r_assign rfl) rfl ?_
  refine t_nil ?_
  refine Tr.keep (env' := [(0, _), (3, _), (4, _), (5, _), (8, _)]) ⟨rfl, rfl, rfl, rfl, rfl, trivial⟩ ?_
  refine t_then ?_
  refine t_seq ?_
  refine t_region ?_
  refine t_val (r_move rfl) rfl ?_
  refine t_val (r_eq rfl rfl) rfl ?_
  refine t_val (r_move rfl) rfl ?_
  refine t_gval rfl rfl (r_move rfl) rfl ?_
  refine t_gval rfl rfl (r_ge rfl rfl) rfl ?_
  refine t_val (r_pick_t rfl rfl) rfl ?_
  refine t_val (r_move rfl) rfl ?_
  refine t_gval rfl rfl (r_fa fo_182_1 rfl) rfl ?_
  refine t_gval rfl rfl (r_load ca_22 rfl (rd_m (.tail _ (.head _)) rfl)) rfl ?_
  refine t_gval rfl rfl (r_move rfl) rfl ?_
  refine t_gval rfl rfl (r_ia_s 3 Tryz.underlying22 iz_9 hA rfl rfl rfl (by decide)) rfl ?_
  refine t_gval rfl rfl (r_load ca_9 rfl ((hrd 3 (encS u) rfl 0 (.string u) rfl).sub (.cons _ (.cons _ (.refl _))))) rfl ?_
  refine t_gval rfl rfl (r_to (v2 := .bool false) (r_eqs rfl rfl) (congrArg Value.bool (word_ne 109 #[105, 115, 115, 101, 100] hu.1.1 (by decide)))) rfl ?_
  refine t_val (r_pick_t rfl rfl) rfl ?_
  refine t_nil ?_
  refine Tr.keep (env' := [(0, _), (3, _), (4, _), (8, _), (71, _)]) ⟨rfl, rfl, rfl, rfl, rfl, trivial⟩ ?_
  refine t_then ?_
  refine t_cond_f rfl ?_
  refine t_skip ?_
  refine t_then ?_
  refine t_seq ?_
  refine t_region ?_
  refine t_val (r_loads ca_182 rfl (rds_m (n := 2) (vs := [_, _]) (.tail _ (.head _)) rfl) rfl) rfl ?_
  refine t_eff rfl (e_makeMap ((fun i : Int => Value.int .i64 i)) rfl fun b79 => ?_)
  refine t_eff rfl (e_insert (a := 0) Tryz.underlying321 keyMark rfl rfl rfl .here ?_)
  refine t_eff rfl (e_insert (a := 1) Tryz.underlying321 keyMark rfl rfl rfl .here ?_)
  refine t_eff rfl (e_insert (a := 2) Tryz.underlying321 keyMark rfl rfl rfl .here ?_)
  refine t_val (r_move rfl) rfl ?_
  refine t_val (r_fa fo_81_3 rfl) rfl ?_
  refine t_val (r_load ca_79 rfl (rd_m (.tail _ (.head _)) rfl)) rfl ?_
  refine t_val (run_to (v' := .int .i64 4) (r_lookup1 (0) Tryz.underlying321 keyMark inf_3 rfl rfl (.head _)) (by rfl)) rfl ?_
  refine t_eff rfl (e_call en_211 rfl rfl rfl rfl (numbers_ok (ws := [x, y, z, u]) _ (hs.sub (.cons _ (.cons _ (.cons _ (.refl _))))) (by intro z hz; simp at hz; rcases hz with rfl | rfl | rfl | rfl <;> first | exact hx.1 | exact hy.1 | exact hz.1 | exact hu.1) (by simp)) fun xo hO => ?_)
  obtain ⟨xv, xE⟩ := xo
  dsimp only at hO ⊢
  obtain ⟨sN, hv, hE⟩ := own_sl (n := 4) hO rfl (by decide)
  subst hv hE
  show Tr _ _ _ _ (cel sN.b 3 (.int .i64 (wordV x) :: .int .i64 (wordV y) :: .int .i64 (wordV z) :: .int .i64 (wordV u) :: sN.sp) :: _) _
  rw [hx.2]
  rw [hy.2]
  rw [hz.2]
  rw [hu.2]
  refine t_val (r_assign rfl) rfl ?_
  refine t_nil ?_
  refine Tr.keep (env' := [(0, _), (4, _), (9, _)]) ⟨rfl, rfl, rfl, trivial⟩ ?_
  refine t_then ?_
  refine t_seq ?_
  refine t_seq ?_
  refine t_region ?_
  refine t_val (r_move rfl) rfl ?_
  refine t_val (r_len_slice Tryz.underlying36 rfl) rfl ?_
  refine t_val (r_gt rfl rfl) rfl ?_
  refine t_nil ?_
  refine Tr.keep (env' := [(0, _), (4, _), (9, _), (87, _)]) ⟨rfl, rfl, rfl, rfl, trivial⟩ ?_
  refine t_then ?_
  refine t_cond_t rfl ?_
  refine t_region ?_
  refine t_val (r_move rfl) rfl ?_
  refine t_val (r_ia (j := 2) Tryz.underlying36 iz_3 rfl rfl rfl (by decide)) rfl ?_
  refine t_val (r_load ca_3 rfl (rd_m (.head _) rfl)) rfl ?_
  refine t_val (r_fa fo_81_0 rfl) rfl ?_
  refine t_eff rfl (e_store iz_3 rfl rfl rfl .zero (.there (.there .here)) ?_)
  refine t_nil ?_
  refine Tr.keep (env' := [(0, _), (4, _), (9, _)]) ⟨rfl, rfl, rfl, trivial⟩ ?_
  refine t_then ?_
  refine t_seq ?_
  refine t_seq ?_
  refine t_region ?_
  refine t_val (r_move rfl) rfl ?_
  refine t_val (r_len_slice Tryz.underlying36 rfl) rfl ?_
  refine t_val (r_gt rfl rfl) rfl ?_
  refine t_nil ?_
  refine Tr.keep (env' := [(0, _), (4, _), (9, _), (94, _)]) ⟨rfl, rfl, rfl, rfl, trivial⟩ ?_
  refine t_then ?_
  refine t_cond_t rfl ?_
  refine t_region ?_
  refine t_val (r_move rfl) rfl ?_
  refine t_val (r_ia (j := 3) Tryz.underlying36 iz_3 rfl rfl rfl (by decide)) rfl ?_
  refine t_val (r_load ca_3 rfl (rd_m (.head _) rfl)) rfl ?_
  refine t_val (r_fa fo_81_1 rfl) rfl ?_
  refine t_eff rfl (e_store iz_3 rfl rfl rfl (.succ .zero) (.there (.there .here)) ?_)
  refine t_nil ?_
  refine Tr.keep (env' := [(0, _), (4, _), (9, _)]) ⟨rfl, rfl, rfl, trivial⟩ ?_
  refine t_then ?_
  refine d_beginS (.cons_cons _ (.cons_cons _ (.cons_cons _ (.cons_cons _ (.cons _ (.cons _ (.cons _ (.refl _)))))))) mixed rfl ?_
  refine d_val 0 rfl (by kernel_rfl) (by kernel_rfl) (by kernel_rfl) .body (.cons_cons _ (.cons_cons _ (.cons_cons _ (.cons_cons _ (.cons _ (.cons _ (.cons _ (.refl _)))))))) rfl (r_move rfl) ?_
  refine d_val 1 rfl (by kernel_rfl) (by kernel_rfl) (by kernel_rfl) .body (.cons_cons _ (.cons_cons _ (.cons_cons _ (.cons_cons _ (.cons _ (.cons _ (.cons _ (.refl _)))))))) rfl (r_move rfl) ?_
  refine d_val 2 rfl (by kernel_rfl) (by kernel_rfl) (by kernel_rfl) .body (.cons_cons _ (.cons_cons _ (.cons_cons _ (.cons_cons _ (.cons _ (.cons _ (.cons _ (.refl _)))))))) rfl (r_move rfl) ?_
  refine d_val 3 rfl (by kernel_rfl) (by kernel_rfl) (by kernel_rfl) .body (.cons_cons _ (.cons_cons _ (.cons_cons _ (.cons_cons _ (.cons _ (.cons _ (.cons _ (.refl _)))))))) rfl (r_ia (j := 0) Tryz.underlying36 iz_3 rfl rfl rfl (by decide)) ?_
  refine d_val 4 rfl (by kernel_rfl) (by kernel_rfl) (by kernel_rfl) .body (.cons_cons _ (.cons_cons _ (.cons_cons _ (.cons_cons _ (.cons _ (.cons _ (.cons _ (.refl _)))))))) rfl (r_load ca_3 rfl (rd_m (.head _) rfl)) ?_
  refine d_val 6 rfl (by kernel_rfl) (by kernel_rfl) (by kernel_rfl) .body (.cons_cons _ (.cons_cons _ (.cons_cons _ (.cons_cons _ (.cons _ (.cons _ (.cons _ (.refl _)))))))) rfl (r_move rfl) ?_
  refine d_val 7 rfl (by kernel_rfl) (by kernel_rfl) (by kernel_rfl) .body (.cons_cons _ (.cons_cons _ (.cons_cons _ (.cons_cons _ (.cons _ (.cons _ (.cons _ (.refl _)))))))) rfl (r_ia (j := 1) Tryz.underlying36 iz_3 rfl rfl rfl (by decide)) ?_
  refine d_val 8 rfl (by kernel_rfl) (by kernel_rfl) (by kernel_rfl) .body (.cons_cons _ (.cons_cons _ (.cons_cons _ (.cons_cons _ (.cons _ (.cons _ (.cons _ (.refl _)))))))) rfl (r_load ca_3 rfl (rd_m (.head _) rfl)) ?_
  refine d_val 9 rfl (by kernel_rfl) (by kernel_rfl) (by kernel_rfl) .body (.cons_cons _ (.cons_cons _ (.cons_cons _ (.cons_cons _ (.cons _ (.cons _ (.cons _ (.refl _)))))))) rfl (r_loads ca_81 rfl (rds_m (n := 4) (vs := [_, _, _, _]) (.tail _ (.tail _ (.head _))) rfl) rfl) ?_
  refine d_eff 5 rfl rfl (by kernel_rfl) (e_pcall en_214 rfl rfl rfl rfl (car_c (e' := ea) (lv := lv) ((.tail _ (.tail _ (.tail _ (.tail _ (.tail _ (.tail _ (.tail _ hev))))))))) ?_)
  refine d_held (.cons_cons _ (.cons_cons _ (.cons_cons _ (.cons_cons _ (.cons _ (.cons _ (.cons _ (.refl _)))))))) ?_
  refine d_eff 10 rfl rfl (by kernel_rfl) (e_call en_220 rfl rfl rfl rfl (fun w hw => item_0_ok (ea := ea) (lv := lv) (v := ⟨n2, n3, false, 0⟩) (.tail _ (.tail _ (.tail _ (.tail _ hev)))) (hin.sub (.cons _ (.cons _ (.cons _ (.cons _ (.refl _)))))) ht hok w (hw.perm (pk (.there (.there (.there (.there .here)))) (pk (.there (.there (.there (.there .here)))) (pk (.there (.there (.there (.there .here)))) (.refl _)))))) fun y _ => ?_)
  refine d_held (.cons _ (.cons _ (.cons _ (.refl _)))) ?_
  refine d_end (by kernel_rfl) ?_
  refine Tr.keep (env' := []) trivial ?_
  refine t_end0 rfl (fun w hw => ?_)
  exact ⟨y, rfl, trivial, Ok.sub (hw.perm (pk .here (pk .here (pk .here (.refl _))))) (.cons_cons _ (.cons_cons _ (.cons_cons _ (.cons _ (.cons _ (.cons _ (.cons _ (.refl _))))))))⟩
theorem line_1_no {ea : EvAt} {lv : Value} {Fr : List Ent} {s0 n2 n3 : Int} {l0 l1 l2 : CLine} {A : Option Addr} {cc : Nat} {x y z u v : ByteArray} (hev : ea.ev lv ∈ Fr) (hin : ea.sa.In Fr) (hs : SlRd w0 (ea.ec (cd s0 l0 l1 l2) :: ea.es (cd s0 l0 l1 l2) :: ea.el (cd s0 l0 l1 l2) :: Fr) 1 A 4 [encS x, encS y, encS z, encS u]) (hx : Num x 1) (hy : Num y 1) (hz : Num z n2) (hu : Num u n3) (ht : 0 ≤ s0 ∧ s0 ≤ 100000) (hok : ¬ cardOk l0 ⟨n2, n3, false, 0⟩ l2) :
   ∀ w, Ok w0 (ea.ec (cd s0 l0 l1 l2) :: ea.es (cd s0 l0 l1 l2) :: ea.el (cd s0 l0 l1 l2) :: Fr) w → Calls Tryz.prog 156 #[.pointer (some ⟨ea.eb, 0, none⟩), .agg #[.string v, .slice A 4 cc]] w (fun e w' => e = .panicked (refused 2) ∧ Ok w0 (ea.ec (cd s0 l0 l1 l2) :: ea.es (cd s0 l0 l1 l2) :: ea.el (cd s0 l0 l1 l2) :: Fr) w') := by
  obtain ⟨b, o, hA, hrd⟩ := hs.at' (by decide)
  refine enter (vs := [_, _]) Tryz.func156 rfl Tryz.ntmps156 rfl ?_
  refine t_seq ?_
  refine t_region ?_
  refine t_eff rfl (e_box rfl rfl fun b3 => ?_)
  refine t_nil ?_
  refine Tr.keep (env' := [(0, _), (3, _)]) ⟨rfl, rfl, trivial⟩ ?_
  refine t_then ?_
  refine t_seq ?_
  refine t_region ?_
  refine t_eff rfl (e_alloc inf_81 (l := [.int .i64 0, .int .i64 0, .bool false, .int .i64 0]) rfl rfl fun b4 => ?_)
  refine t_nil ?_
  refine Tr.keep (env' := [(0, _), (3, _), (4, _)]) ⟨rfl, rfl, rfl, trivial⟩ ?_
  refine t_then ?_
  refine t_seq ?_
  refine t_region ?_
  refine t_val (r_assign rfl) rfl ?_
  refine t_nil ?_
  refine Tr.keep (env' := [(0, _), (3, _), (4, _), (5, _)]) ⟨rfl, rfl, rfl, rfl, trivial⟩ ?_
  refine t_then ?_
  refine t_seq ?_
  refine t_seq ?_
  refine t_region ?_
  refine t_val (r_fa fo_182_1 rfl) rfl ?_
  refine t_val (r_load ca_22 rfl (rd_m (.tail _ (.head _)) rfl)) rfl ?_
  refine t_val (r_len_slice Tryz.underlying22 rfl) rfl ?_
  refine t_val (r_subi rfl rfl (by omega)) rfl ?_
  refine t_val (r_assign rfl) rfl ?_
  refine t_nil ?_
  refine Tr.keep (env' := [(0, _), (3, _), (4, _), (5, _), (6, _)]) ⟨rfl, rfl, rfl, rfl, rfl, trivial⟩ ?_
  refine t_then ?_
  refine t_seq ?_
  refine t_region ?_
  refine t_val (r_move rfl) rfl ?_
  refine t_val (r_ge rfl rfl) rfl ?_
  refine t_val (r_move rfl) rfl ?_
  refine t_gval rfl rfl (r_fa fo_182_1 rfl) rfl ?_
  refine t_gval rfl rfl (r_load ca_22 rfl (rd_m (.tail _ (.head _)) rfl)) rfl ?_
  refine t_gval rfl rfl (r_move rfl) rfl ?_
  refine t_gval rfl rfl (r_ia_s 3 Tryz.underlying22 iz_9 hA rfl rfl rfl (by decide)) rfl ?_
  refine t_gval rfl rfl (r_load ca_9 rfl ((hrd 3 (encS u) rfl 0 (.string u) rfl).sub (.cons _ (.cons _ (.refl _))))) rfl ?_
  refine t_gval rfl rfl (r_to (v2 := .bool false) (r_eqs rfl rfl) (congrArg Value.bool (word_ne 106 #[117, 109, 112] hu.1.1 (by decide)))) rfl ?_
  refine t_val (r_pick_t rfl rfl) rfl ?_
  refine t_nil ?_
  refine Tr.keep (env' := [(0, _), (3, _), (4, _), (5, _), (6, _), (23, _)]) ⟨rfl, rfl, rfl, rfl, rfl, rfl, trivial⟩ ?_
  refine t_then ?_
  refine t_cond_f rfl ?_
  refine t_skip ?_
  refine t_then ?_
  refine t_seq ?_
  refine t_seq ?_
  refine t_region ?_
  refine t_val (r_fa fo_182_1 rfl) rfl ?_
  refine t_val (r_load ca_22 rfl (rd_m (.tail _ (.head _)) rfl)) rfl ?_
  refine t_val (r_len_slice Tryz.underlying22 rfl) rfl ?_
  refine t_val (r_subi rfl rfl (by omega)) rfl ?_
  refine t_val (r_assign rfl) rfl ?_
  refine t_nil ?_
  refine Tr.keep (env' := [(0, _), (3, _), (4, _), (5, _), (7, _)]) ⟨rfl, rfl, rfl, rfl, rfl, trivial⟩ ?_
  refine t_then ?_
  refine t_seq ?_
  refine t_region ?_
  refine t_val (r_move rfl) rfl ?_
  refine t_val (r_ge rfl rfl) rfl ?_
  refine t_val (r_move rfl) rfl ?_
  refine t_gval rfl rfl (r_fa fo_182_1 rfl) rfl ?_
  refine t_gval rfl rfl (r_load ca_22 rfl (rd_m (.tail _ (.head _)) rfl)) rfl ?_
  refine t_gval rfl rfl (r_move rfl) rfl ?_
  refine t_gval rfl rfl (r_ia_s 3 Tryz.underlying22 iz_9 hA rfl rfl rfl (by decide)) rfl ?_
  refine t_gval rfl rfl (r_load ca_9 rfl ((hrd 3 (encS u) rfl 0 (.string u) rfl).sub (.cons _ (.cons _ (.refl _))))) rfl ?_
  refine t_gval rfl rfl (r_to (v2 := .bool false) (r_eqs rfl rfl) (congrArg Value.bool (word_ne 115 #[116, 111, 112, 112, 101, 100] hu.1.1 (by decide)))) rfl ?_
  refine t_val (r_pick_t rfl rfl) rfl ?_
  refine t_nil ?_
  refine Tr.keep (env' := [(0, _), (3, _), (4, _), (5, _), (7, _), (45, _)]) ⟨rfl, rfl, rfl, rfl, rfl, rfl, trivial⟩ ?_
  refine t_then ?_
  refine t_cond_f rfl ?_
  refine t_skip ?_
  refine t_then ?_
  refine t_seq ?_
  refine t_seq ?_
  refine t_region ?_
  refine t_val (r_fa fo_182_1 rfl) rfl ?_
  refine t_val (r_load ca_22 rfl (rd_m (.tail _ (.head _)) rfl)) rfl ?_
  refine t_val (r_len_slice Tryz.underlying22 rfl) rfl ?_
  refine t_val (r_subi rfl rfl (by omega)) rfl ?_
  refine t_val (r_assign rfl) rfl ?_
  refine t_nil ?_
  refine Tr.keep (env' := [(0, _), (3, _), (4, _), (5, _), (8, _)]) ⟨rfl, rfl, rfl, rfl, rfl, trivial⟩ ?_
  refine t_then ?_
  refine t_seq ?_
  refine t_region ?_
  refine t_val (r_move rfl) rfl ?_
  refine t_val (r_eq rfl rfl) rfl ?_
  refine t_val (r_move rfl) rfl ?_
  refine t_gval rfl rfl (r_move rfl) rfl ?_
  refine t_gval rfl rfl (r_ge rfl rfl) rfl ?_
  refine t_val (r_pick_t rfl rfl) rfl ?_
  refine t_val (r_move rfl) rfl ?_
  refine t_gval rfl rfl (r_fa fo_182_1 rfl) rfl ?_
  refine t_gval rfl rfl (r_load ca_22 rfl (rd_m (.tail _ (.head _)) rfl)) rfl ?_
  refine t_gval rfl rfl (r_move rfl) rfl ?_
  refine t_gval rfl rfl (r_ia_s 3 Tryz.underlying22 iz_9 hA rfl rfl rfl (by decide)) rfl ?_
  refine t_gval rfl rfl (r_load ca_9 rfl ((hrd 3 (encS u) rfl 0 (.string u) rfl).sub (.cons _ (.cons _ (.refl _))))) rfl ?_
  refine t_gval rfl rfl (r_to (v2 := .bool false) (r_eqs rfl rfl) (congrArg Value.bool (word_ne 109 #[105, 115, 115, 101, 100] hu.1.1 (by decide)))) rfl ?_
  refine t_val (r_pick_t rfl rfl) rfl ?_
  refine t_nil ?_
  refine Tr.keep (env' := [(0, _), (3, _), (4, _), (8, _), (71, _)]) ⟨rfl, rfl, rfl, rfl, rfl, trivial⟩ ?_
  refine t_then ?_
  refine t_cond_f rfl ?_
  refine t_skip ?_
  refine t_then ?_
  refine t_seq ?_
  refine t_region ?_
  refine t_val (r_loads ca_182 rfl (rds_m (n := 2) (vs := [_, _]) (.tail _ (.head _)) rfl) rfl) rfl ?_
  refine t_eff rfl (e_makeMap ((fun i : Int => Value.int .i64 i)) rfl fun b79 => ?_)
  refine t_eff rfl (e_insert (a := 0) Tryz.underlying321 keyMark rfl rfl rfl .here ?_)
  refine t_eff rfl (e_insert (a := 1) Tryz.underlying321 keyMark rfl rfl rfl .here ?_)
  refine t_eff rfl (e_insert (a := 2) Tryz.underlying321 keyMark rfl rfl rfl .here ?_)
  refine t_val (r_move rfl) rfl ?_
  refine t_val (r_fa fo_81_3 rfl) rfl ?_
  refine t_val (r_load ca_79 rfl (rd_m (.tail _ (.head _)) rfl)) rfl ?_
  refine t_val (run_to (v' := .int .i64 4) (r_lookup1 (0) Tryz.underlying321 keyMark inf_3 rfl rfl (.head _)) (by rfl)) rfl ?_
  refine t_eff rfl (e_call en_211 rfl rfl rfl rfl (numbers_ok (ws := [x, y, z, u]) _ (hs.sub (.cons _ (.cons _ (.cons _ (.refl _))))) (by intro z hz; simp at hz; rcases hz with rfl | rfl | rfl | rfl <;> first | exact hx.1 | exact hy.1 | exact hz.1 | exact hu.1) (by simp)) fun xo hO => ?_)
  obtain ⟨xv, xE⟩ := xo
  dsimp only at hO ⊢
  obtain ⟨sN, hv, hE⟩ := own_sl (n := 4) hO rfl (by decide)
  subst hv hE
  show Tr _ _ _ _ (cel sN.b 3 (.int .i64 (wordV x) :: .int .i64 (wordV y) :: .int .i64 (wordV z) :: .int .i64 (wordV u) :: sN.sp) :: _) _
  rw [hx.2]
  rw [hy.2]
  rw [hz.2]
  rw [hu.2]
  refine t_val (r_assign rfl) rfl ?_
  refine t_nil ?_
  refine Tr.keep (env' := [(0, _), (4, _), (9, _)]) ⟨rfl, rfl, rfl, trivial⟩ ?_
  refine t_then ?_
  refine t_seq ?_
  refine t_seq ?_
  refine t_region ?_
  refine t_val (r_move rfl) rfl ?_
  refine t_val (r_len_slice Tryz.underlying36 rfl) rfl ?_
  refine t_val (r_gt rfl rfl) rfl ?_
  refine t_nil ?_
  refine Tr.keep (env' := [(0, _), (4, _), (9, _), (87, _)]) ⟨rfl, rfl, rfl, rfl, trivial⟩ ?_
  refine t_then ?_
  refine t_cond_t rfl ?_
  refine t_region ?_
  refine t_val (r_move rfl) rfl ?_
  refine t_val (r_ia (j := 2) Tryz.underlying36 iz_3 rfl rfl rfl (by decide)) rfl ?_
  refine t_val (r_load ca_3 rfl (rd_m (.head _) rfl)) rfl ?_
  refine t_val (r_fa fo_81_0 rfl) rfl ?_
  refine t_eff rfl (e_store iz_3 rfl rfl rfl .zero (.there (.there .here)) ?_)
  refine t_nil ?_
  refine Tr.keep (env' := [(0, _), (4, _), (9, _)]) ⟨rfl, rfl, rfl, trivial⟩ ?_
  refine t_then ?_
  refine t_seq ?_
  refine t_seq ?_
  refine t_region ?_
  refine t_val (r_move rfl) rfl ?_
  refine t_val (r_len_slice Tryz.underlying36 rfl) rfl ?_
  refine t_val (r_gt rfl rfl) rfl ?_
  refine t_nil ?_
  refine Tr.keep (env' := [(0, _), (4, _), (9, _), (94, _)]) ⟨rfl, rfl, rfl, rfl, trivial⟩ ?_
  refine t_then ?_
  refine t_cond_t rfl ?_
  refine t_region ?_
  refine t_val (r_move rfl) rfl ?_
  refine t_val (r_ia (j := 3) Tryz.underlying36 iz_3 rfl rfl rfl (by decide)) rfl ?_
  refine t_val (r_load ca_3 rfl (rd_m (.head _) rfl)) rfl ?_
  refine t_val (r_fa fo_81_1 rfl) rfl ?_
  refine t_eff rfl (e_store iz_3 rfl rfl rfl (.succ .zero) (.there (.there .here)) ?_)
  refine t_nil ?_
  refine Tr.keep (env' := [(0, _), (4, _), (9, _)]) ⟨rfl, rfl, rfl, trivial⟩ ?_
  refine t_then ?_
  refine d_beginS (.cons_cons _ (.cons_cons _ (.cons_cons _ (.cons_cons _ (.cons _ (.cons _ (.cons _ (.refl _)))))))) mixed rfl ?_
  refine d_val 0 rfl (by kernel_rfl) (by kernel_rfl) (by kernel_rfl) .body (.cons_cons _ (.cons_cons _ (.cons_cons _ (.cons_cons _ (.cons _ (.cons _ (.cons _ (.refl _)))))))) rfl (r_move rfl) ?_
  refine d_val 1 rfl (by kernel_rfl) (by kernel_rfl) (by kernel_rfl) .body (.cons_cons _ (.cons_cons _ (.cons_cons _ (.cons_cons _ (.cons _ (.cons _ (.cons _ (.refl _)))))))) rfl (r_move rfl) ?_
  refine d_val 2 rfl (by kernel_rfl) (by kernel_rfl) (by kernel_rfl) .body (.cons_cons _ (.cons_cons _ (.cons_cons _ (.cons_cons _ (.cons _ (.cons _ (.cons _ (.refl _)))))))) rfl (r_move rfl) ?_
  refine d_val 3 rfl (by kernel_rfl) (by kernel_rfl) (by kernel_rfl) .body (.cons_cons _ (.cons_cons _ (.cons_cons _ (.cons_cons _ (.cons _ (.cons _ (.cons _ (.refl _)))))))) rfl (r_ia (j := 0) Tryz.underlying36 iz_3 rfl rfl rfl (by decide)) ?_
  refine d_val 4 rfl (by kernel_rfl) (by kernel_rfl) (by kernel_rfl) .body (.cons_cons _ (.cons_cons _ (.cons_cons _ (.cons_cons _ (.cons _ (.cons _ (.cons _ (.refl _)))))))) rfl (r_load ca_3 rfl (rd_m (.head _) rfl)) ?_
  refine d_val 6 rfl (by kernel_rfl) (by kernel_rfl) (by kernel_rfl) .body (.cons_cons _ (.cons_cons _ (.cons_cons _ (.cons_cons _ (.cons _ (.cons _ (.cons _ (.refl _)))))))) rfl (r_move rfl) ?_
  refine d_val 7 rfl (by kernel_rfl) (by kernel_rfl) (by kernel_rfl) .body (.cons_cons _ (.cons_cons _ (.cons_cons _ (.cons_cons _ (.cons _ (.cons _ (.cons _ (.refl _)))))))) rfl (r_ia (j := 1) Tryz.underlying36 iz_3 rfl rfl rfl (by decide)) ?_
  refine d_val 8 rfl (by kernel_rfl) (by kernel_rfl) (by kernel_rfl) .body (.cons_cons _ (.cons_cons _ (.cons_cons _ (.cons_cons _ (.cons _ (.cons _ (.cons _ (.refl _)))))))) rfl (r_load ca_3 rfl (rd_m (.head _) rfl)) ?_
  refine d_val 9 rfl (by kernel_rfl) (by kernel_rfl) (by kernel_rfl) .body (.cons_cons _ (.cons_cons _ (.cons_cons _ (.cons_cons _ (.cons _ (.cons _ (.cons _ (.refl _)))))))) rfl (r_loads ca_81 rfl (rds_m (n := 4) (vs := [_, _, _, _]) (.tail _ (.tail _ (.head _))) rfl) rfl) ?_
  refine d_eff 5 rfl rfl (by kernel_rfl) (e_pcall en_214 rfl rfl rfl rfl (car_c (e' := ea) (lv := lv) ((.tail _ (.tail _ (.tail _ (.tail _ (.tail _ (.tail _ (.tail _ hev))))))))) ?_)
  refine d_held (.cons_cons _ (.cons_cons _ (.cons_cons _ (.cons_cons _ (.cons _ (.cons _ (.cons _ (.refl _)))))))) ?_
  refine d_eff 10 rfl rfl (by kernel_rfl) (e_panics en_220 rfl rfl rfl (fun w hw => item_1_no (ea := ea) (lv := lv) (v := ⟨n2, n3, false, 0⟩) (.tail _ (.tail _ (.tail _ (.tail _ hev)))) (hin.sub (.cons _ (.cons _ (.cons _ (.cons _ (.refl _)))))) ht hok w (hw.perm (pk (.there (.there (.there (.there .here)))) (pk (.there (.there (.there (.there .here)))) (pk (.there (.there (.there (.there .here)))) (.refl _)))))) ?_)
  exact t_panic_end (fun w hw => ⟨rfl, Ok.sub hw (.cons_cons _ (.cons_cons _ (.cons_cons _ (.cons _ (.cons _ (.cons _ (.cons _ (.refl _))))))))⟩)
end
end Go.Proofs.W
set_option linter.unusedVariables false
set_option linter.unusedSimpArgs false
set_option linter.unusedSectionVars false
set_option maxRecDepth 100000
namespace Go.Proofs.W
open Go Go.Sl Go.RowKit Go.Proofs
attribute [local irreducible] Go.Sl.Eff
theorem ca_33 : cellsAs Tryz.prog 33 = some (none) := by kernel_rfl
theorem en_216 : Enters Tryz.prog 216 := enters_of Tryz.func216 (by kernel_rfl) (by kernel_rfl)
theorem en_221 : Enters Tryz.prog 221 := enters_of Tryz.func221 (by kernel_rfl) (by kernel_rfl)
theorem en_222 : Enters Tryz.prog 222 := enters_of Tryz.func222 (by kernel_rfl) (by kernel_rfl)
section
variable {w0 : World} {M : List Ent}
theorem take1_0 {ea : EvAt} {lv : Value} {lg : WLog} {b2 b4 : Nat} {sN : Sl3} {n1 n2 : Int} (hev : ea.ev lv ∈ M) (hwb : lg.eb ea.wl ∈ M) (hwm : lg.em ea.wl ∈ M) (hlf : lg.Fine) (hkv : lg.kv = [(R1, 2000), (R2, 302000)]) (hb2 : cel b2 33 [.pointer (some ⟨ea.eb, 0, none⟩)] ∈ M) (hb4 : cel b4 36 [sN.v 4] ∈ M) (hN : cel sN.b 3 (.int .i64 1 :: .int .i64 n1 :: .int .i64 n2 :: .int .i64 400000 :: sN.sp) ∈ M) :
   ∀ w, Ok w0 M w → Calls Tryz.prog 221 #[.int .i64 0, .pointer (some ⟨b2, 0, none⟩), .pointer (some ⟨b4, 0, none⟩)] w (fun e w' => e = .returned (.int .i64 1000) ∧ Ok w0 M w') := by
  refine enter (vs := [_, _, _]) Tryz.func221 rfl Tryz.ntmps221 rfl ?_
  refine t_seq ?_
  refine t_region ?_
  refine t_val (r_assign rfl) rfl ?_
  refine t_nil ?_
  refine Tr.keep (env' := [(0, _), (1, _), (2, _)]) ⟨rfl, rfl, rfl, trivial⟩ ?_
  refine t_then ?_
  refine t_seq ?_
  refine d_begin mixed rfl ?_
  refine d_val 0 rfl (by kernel_rfl) (by kernel_rfl) (by kernel_rfl) (.then .body) (.refl _) rfl (r_load ca_33 rfl (rd_m hb2 rfl)) ?_
  refine d_val 1 rfl (by kernel_rfl) (by kernel_rfl) (by kernel_rfl) (.then .body) (.refl _) rfl (r_nilCheck rfl) ?_
  refine d_val 2 rfl (by kernel_rfl) (by kernel_rfl) (by kernel_rfl) (.then .body) (.refl _) rfl (r_fa fo_56_2 rfl) ?_
  refine d_val 3 rfl (by kernel_rfl) (by kernel_rfl) (by kernel_rfl) (.then .body) (.refl _) rfl (r_load ca_52 rfl (rd_m hev rfl)) ?_
  refine d_val 4 rfl (by kernel_rfl) (by kernel_rfl) (by kernel_rfl) (.then .body) (.refl _) rfl (r_load ca_36 rfl (rd_m hb4 rfl)) ?_
  refine d_val 5 rfl (by kernel_rfl) (by kernel_rfl) (by kernel_rfl) (.then .body) (.refl _) rfl (r_ia (j := 0) Tryz.underlying36 iz_3 rfl rfl rfl (by decide)) ?_
  refine d_val 6 rfl (by kernel_rfl) (by kernel_rfl) (by kernel_rfl) (.then .body) (.refl _) rfl (r_load ca_3 rfl (rd_m hN rfl)) ?_
  refine d_val 7 rfl (by kernel_rfl) (by kernel_rfl) (by kernel_rfl) (.then .body) (.refl _) rfl (r_move rfl) ?_
  refine d_val 8 rfl (by kernel_rfl) (by kernel_rfl) (by kernel_rfl) (.then .body) (.refl _) rfl (r_load ca_36 rfl (rd_m hb4 rfl)) ?_
  refine d_val 9 rfl (by kernel_rfl) (by kernel_rfl) (by kernel_rfl) (.then .body) (.refl _) rfl (r_ia (j := 3) Tryz.underlying36 iz_3 rfl rfl rfl (by decide)) ?_
  refine d_val 10 rfl (by kernel_rfl) (by kernel_rfl) (by kernel_rfl) (.then .body) (.refl _) rfl (r_load ca_3 rfl (rd_m hN rfl)) ?_
  refine d_eff 11 rfl rfl (by kernel_rfl) (e_pcall en_222 rfl rfl rfl rfl (wire_best_0 (g := lg) (l := ea.wl) (hwb) (hwm) hlf hkv) ?_)
  refine d_held (.refl _) ?_
  refine d_val 12 rfl (by kernel_rfl) (by kernel_rfl) (by kernel_rfl) (.then .body) (.refl _) rfl (r_move rfl) ?_
  refine d_val 13 rfl (by kernel_rfl) (by kernel_rfl) (by kernel_rfl) (.then .body) (.refl _) rfl (r_extract rfl rfl) ?_
  refine d_val 14 rfl (by kernel_rfl) (by kernel_rfl) (by kernel_rfl) (.then .body) (.refl _) rfl (r_extract rfl rfl) ?_
  refine d_val 15 rfl (by kernel_rfl) (by kernel_rfl) (by kernel_rfl) (.then .body) (.refl _) rfl (r_assign rfl) ?_
  refine d_val 16 rfl (by kernel_rfl) (by kernel_rfl) (by kernel_rfl) (.then .body) (.refl _) rfl (r_assign rfl) ?_
  refine d_end (by kernel_rfl) ?_
  refine Tr.keep (env' := [(1, _), (5, _), (6, _)]) ⟨rfl, rfl, rfl, trivial⟩ ?_
  refine t_then ?_
  refine t_seq ?_
  refine t_region ?_
  refine t_val (r_move rfl) rfl ?_
  refine t_eff rfl (e_pcall en_212 rfl rfl rfl rfl need_ok ?_)
  refine t_nil ?_
  refine Tr.keep (env' := [(1, _), (5, _)]) ⟨rfl, rfl, trivial⟩ ?_
  refine t_then ?_
  refine t_seq ?_
  refine t_region ?_
  refine t_val (r_load ca_33 rfl (rd_m hb2 rfl)) rfl ?_
  refine t_val (r_nilCheck rfl) rfl ?_
  refine t_val (r_fa fo_56_2 rfl) rfl ?_
  refine t_val (r_load ca_52 rfl (rd_m hev rfl)) rfl ?_
  refine t_eff rfl (e_call en_112 rfl rfl rfl rfl (reports_two (g := lg) (l := ea.wl) R1 R2 2000 302000 (hwb) (hwm) hkv (by decide) (by decide)) fun xr hR => ?_)
  obtain ⟨rv, rE⟩ := xr
  dsimp only at hR ⊢
  obtain ⟨rb, rc, rsp, rfl, rfl, _⟩ := own_two hR
  show Tr _ _ _ _ (cel rb 228 (R1.cellsAt 2000 ++ (R2.cellsAt 302000 ++ rsp)) :: _) _
  refine t_val (r_move rfl) rfl ?_
  refine t_val (r_ia (j := 0) Tryz.underlying221 iz_228 rfl rfl rfl (by decide)) rfl ?_
  refine t_val (r_fa fo_228_5 rfl) rfl ?_
  refine t_val (r_load ca_3 rfl (rd_m (.head _) rfl)) rfl ?_
  refine t_val (r_assign rfl) rfl ?_
  refine t_nil ?_
  refine Tr.keep (env' := [(4, _)]) ⟨rfl, trivial⟩ ?_
  refine t_then ?_
  refine t_retc ?_
  refine t_ret1 rfl rfl (fun w hw => ?_)
  exact ⟨rfl, Ok.sub hw (.cons _ (.refl _))⟩
theorem take1_1 {ea : EvAt} {lv : Value} {lg : WLog} {b2 b4 : Nat} {sN : Sl3} {n1 n2 : Int} (hev : ea.ev lv ∈ M) (hwb : lg.eb ea.wl ∈ M) (hwm : lg.em ea.wl ∈ M) (hlf : lg.Fine) (hkv : lg.kv = [(R1, 2000), (R2, 302000)]) (hb2 : cel b2 33 [.pointer (some ⟨ea.eb, 0, none⟩)] ∈ M) (hb4 : cel b4 36 [sN.v 4] ∈ M) (hN : cel sN.b 3 (.int .i64 1 :: .int .i64 n1 :: .int .i64 n2 :: .int .i64 400000 :: sN.sp) ∈ M) :
   ∀ w, Ok w0 M w → Calls Tryz.prog 221 #[.int .i64 1, .pointer (some ⟨b2, 0, none⟩), .pointer (some ⟨b4, 0, none⟩)] w (fun e w' => e = .returned (.int .i64 301000) ∧ Ok w0 M w') := by
  refine enter (vs := [_, _, _]) Tryz.func221 rfl Tryz.ntmps221 rfl ?_
  refine t_seq ?_
  refine t_region ?_
  refine t_val (r_assign rfl) rfl ?_
  refine t_nil ?_
  refine Tr.keep (env' := [(0, _), (1, _), (2, _)]) ⟨rfl, rfl, rfl, trivial⟩ ?_
  refine t_then ?_
  refine t_seq ?_
  refine d_begin mixed rfl ?_
  refine d_val 0 rfl (by kernel_rfl) (by kernel_rfl) (by kernel_rfl) (.then .body) (.refl _) rfl (r_load ca_33 rfl (rd_m hb2 rfl)) ?_
  refine d_val 1 rfl (by kernel_rfl) (by kernel_rfl) (by kernel_rfl) (.then .body) (.refl _) rfl (r_nilCheck rfl) ?_
  refine d_val 2 rfl (by kernel_rfl) (by kernel_rfl) (by kernel_rfl) (.then .body) (.refl _) rfl (r_fa fo_56_2 rfl) ?_
  refine d_val 3 rfl (by kernel_rfl) (by kernel_rfl) (by kernel_rfl) (.then .body) (.refl _) rfl (r_load ca_52 rfl (rd_m hev rfl)) ?_
  refine d_val 4 rfl (by kernel_rfl) (by kernel_rfl) (by kernel_rfl) (.then .body) (.refl _) rfl (r_load ca_36 rfl (rd_m hb4 rfl)) ?_
  refine d_val 5 rfl (by kernel_rfl) (by kernel_rfl) (by kernel_rfl) (.then .body) (.refl _) rfl (r_ia (j := 0) Tryz.underlying36 iz_3 rfl rfl rfl (by decide)) ?_
  refine d_val 6 rfl (by kernel_rfl) (by kernel_rfl) (by kernel_rfl) (.then .body) (.refl _) rfl (r_load ca_3 rfl (rd_m hN rfl)) ?_
  refine d_val 7 rfl (by kernel_rfl) (by kernel_rfl) (by kernel_rfl) (.then .body) (.refl _) rfl (r_move rfl) ?_
  refine d_val 8 rfl (by kernel_rfl) (by kernel_rfl) (by kernel_rfl) (.then .body) (.refl _) rfl (r_load ca_36 rfl (rd_m hb4 rfl)) ?_
  refine d_val 9 rfl (by kernel_rfl) (by kernel_rfl) (by kernel_rfl) (.then .body) (.refl _) rfl (r_ia (j := 3) Tryz.underlying36 iz_3 rfl rfl rfl (by decide)) ?_
  refine d_val 10 rfl (by kernel_rfl) (by kernel_rfl) (by kernel_rfl) (.then .body) (.refl _) rfl (r_load ca_3 rfl (rd_m hN rfl)) ?_
  refine d_eff 11 rfl rfl (by kernel_rfl) (e_pcall en_222 rfl rfl rfl rfl (wire_best_1 (g := lg) (l := ea.wl) (hwb) (hwm) hlf hkv) ?_)
  refine d_held (.refl _) ?_
  refine d_val 12 rfl (by kernel_rfl) (by kernel_rfl) (by kernel_rfl) (.then .body) (.refl _) rfl (r_move rfl) ?_
  refine d_val 13 rfl (by kernel_rfl) (by kernel_rfl) (by kernel_rfl) (.then .body) (.refl _) rfl (r_extract rfl rfl) ?_
  refine d_val 14 rfl (by kernel_rfl) (by kernel_rfl) (by kernel_rfl) (.then .body) (.refl _) rfl (r_extract rfl rfl) ?_
  refine d_val 15 rfl (by kernel_rfl) (by kernel_rfl) (by kernel_rfl) (.then .body) (.refl _) rfl (r_assign rfl) ?_
  refine d_val 16 rfl (by kernel_rfl) (by kernel_rfl) (by kernel_rfl) (.then .body) (.refl _) rfl (r_assign rfl) ?_
  refine d_end (by kernel_rfl) ?_
  refine Tr.keep (env' := [(1, _), (5, _), (6, _)]) ⟨rfl, rfl, rfl, trivial⟩ ?_
  refine t_then ?_
  refine t_seq ?_
  refine t_region ?_
  refine t_val (r_move rfl) rfl ?_
  refine t_eff rfl (e_pcall en_212 rfl rfl rfl rfl need_ok ?_)
  refine t_nil ?_
  refine Tr.keep (env' := [(1, _), (5, _)]) ⟨rfl, rfl, trivial⟩ ?_
  refine t_then ?_
  refine t_seq ?_
  refine t_region ?_
  refine t_val (r_load ca_33 rfl (rd_m hb2 rfl)) rfl ?_
  refine t_val (r_nilCheck rfl) rfl ?_
  refine t_val (r_fa fo_56_2 rfl) rfl ?_
  refine t_val (r_load ca_52 rfl (rd_m hev rfl)) rfl ?_
  refine t_eff rfl (e_call en_112 rfl rfl rfl rfl (reports_two (g := lg) (l := ea.wl) R1 R2 2000 302000 (hwb) (hwm) hkv (by decide) (by decide)) fun xr hR => ?_)
  obtain ⟨rv, rE⟩ := xr
  dsimp only at hR ⊢
  obtain ⟨rb, rc, rsp, rfl, rfl, _⟩ := own_two hR
  show Tr _ _ _ _ (cel rb 228 (R1.cellsAt 2000 ++ (R2.cellsAt 302000 ++ rsp)) :: _) _
  refine t_val (r_move rfl) rfl ?_
  refine t_val (r_ia (j := 1) Tryz.underlying221 iz_228 rfl rfl rfl (by decide)) rfl ?_
  refine t_val (r_fa fo_228_5 rfl) rfl ?_
  refine t_val (r_load ca_3 rfl (rd_m (.head _) rfl)) rfl ?_
  refine t_val (r_assign rfl) rfl ?_
  refine t_nil ?_
  refine Tr.keep (env' := [(4, _)]) ⟨rfl, trivial⟩ ?_
  refine t_then ?_
  refine t_retc ?_
  refine t_ret1 rfl rfl (fun w hw => ?_)
  exact ⟨rfl, Ok.sub hw (.cons _ (.refl _))⟩
theorem take_ok {ea : EvAt} {lv : Value} {lg : WLog} {Fr : List Ent} {s0 n2 : Int} {l0 l1 l2 : CLine} {A : Option Addr} {cc : Nat} {x y z u v : ByteArray} (hev : ea.ev lv ∈ Fr) (hin : ea.sa.In Fr) (hwb : lg.eb ea.wl ∈ Fr) (hwm : lg.em ea.wl ∈ Fr) (hlf : lg.Fine) (hkv : lg.kv = [(R1, 2000), (R2, 302000)]) (hs : SlRd w0 (ea.ec (cd s0 l0 l1 l2) :: ea.es (cd s0 l0 l1 l2) :: ea.el (cd s0 l0 l1 l2) :: Fr) 1 A 4 [encS x, encS y, encS z, encS u]) (hx : Num x 1) (hy : Num y 1) (hz : Num z n2) (hu : Num u 400000) (ht : 0 ≤ s0 ∧ s0 ≤ 100000) (hok : cardOk l0 ⟨n2, 300000, false, 0⟩ l2) :
   ∀ w, Ok w0 (ea.ec (cd s0 l0 l1 l2) :: ea.es (cd s0 l0 l1 l2) :: ea.el (cd s0 l0 l1 l2) :: Fr) w → Calls Tryz.prog 157 #[.pointer (some ⟨ea.eb, 0, none⟩), .agg #[.string v, .slice A 4 cc]] w (fun e w' => ∃ y : Sl3 × Sl3, e = .returned (.tuple #[]) ∧ True ∧ Ok w0 ({ ea with starts := y.1, lines := y.2 }.ec (cd s0 l0 ⟨n2, 300000, false, 0⟩ l2) :: { ea with starts := y.1, lines := y.2 }.es (cd s0 l0 ⟨n2, 300000, false, 0⟩ l2) :: { ea with starts := y.1, lines := y.2 }.el (cd s0 l0 ⟨n2, 300000, false, 0⟩ l2) :: Fr) w') := by
  refine enter (vs := [_, _]) Tryz.func157 rfl Tryz.ntmps157 rfl ?_
  refine t_seq ?_
  refine t_region ?_
  refine t_eff rfl (e_box1 rfl rfl rfl fun b2 => ?_)
  refine t_eff rfl (e_box rfl rfl fun b3 => ?_)
  refine t_nil ?_
  refine Tr.keep (env' := [(2, _), (3, _)]) ⟨rfl, rfl, trivial⟩ ?_
  refine t_then ?_
  refine t_seq ?_
  refine t_region ?_
  refine t_val (r_loads ca_182 rfl (rds_m (n := 2) (vs := [_, _]) (.head _) rfl) rfl) rfl ?_
  refine t_eff rfl (e_call en_211 rfl rfl rfl rfl (numbers_ok (ws := [x, y, z, u]) _ (hs.sub (.cons _ (.cons _ (.refl _)))) (by intro z hz; simp at hz; rcases hz with rfl | rfl | rfl | rfl <;> first | exact hx.1 | exact hy.1 | exact hz.1 | exact hu.1) (by simp)) fun xo hO => ?_)
  obtain ⟨xv, xE⟩ := xo
  dsimp only at hO ⊢
  obtain ⟨sN, hv, hE⟩ := own_sl (n := 4) hO rfl (by decide)
  subst hv hE
  show Tr _ _ _ _ (cel sN.b 3 (.int .i64 (wordV x) :: .int .i64 (wordV y) :: .int .i64 (wordV z) :: .int .i64 (wordV u) :: sN.sp) :: _) _
  rw [hx.2]
  rw [hy.2]
  rw [hz.2]
  rw [hu.2]
  refine t_eff rfl (e_alloc inf_36 (l := [.slice none 0 0]) rfl rfl fun b4 => ?_)
  refine t_eff rfl (e_store iz_36 rfl rfl rfl .zero .here ?_)
  refine t_nil ?_
  refine Tr.keep (env' := [(2, _), (4, _)]) ⟨rfl, rfl, trivial⟩ ?_
  refine t_then ?_
  refine t_seq ?_
  refine d_begin mixed rfl ?_
  refine d_val 0 rfl (by kernel_rfl) (by kernel_rfl) (by kernel_rfl) (.then .body) (.refl _) rfl (r_load ca_33 rfl (rd_m (.tail _ (.tail _ (.tail _ (.head _)))) rfl)) ?_
  refine d_val 1 rfl (by kernel_rfl) (by kernel_rfl) (by kernel_rfl) (.then .body) (.refl _) rfl (r_load ca_36 rfl (rd_m (.head _) rfl)) ?_
  refine d_val 2 rfl (by kernel_rfl) (by kernel_rfl) (by kernel_rfl) (.then .body) (.refl _) rfl (r_ia (j := 0) Tryz.underlying36 iz_3 rfl rfl rfl (by decide)) ?_
  refine d_val 3 rfl (by kernel_rfl) (by kernel_rfl) (by kernel_rfl) (.then .body) (.refl _) rfl (r_load ca_3 rfl (rd_m (.tail _ (.head _)) rfl)) ?_
  refine d_eff 4 rfl rfl (by kernel_rfl) (e_pcall en_214 rfl rfl rfl rfl (car_c (e' := ea) (lv := lv) ((.tail _ (.tail _ (.tail _ (.tail _ (.tail _ (.tail _ (.tail _ hev))))))))) ?_)
  refine d_held (.refl _) ?_
  refine d_val 5 rfl (by kernel_rfl) (by kernel_rfl) (by kernel_rfl) (.then .body) (.refl _) rfl (r_assign rfl) ?_
  refine d_end (by kernel_rfl) ?_
  refine Tr.keep (env' := [(2, _), (4, _), (5, _)]) ⟨rfl, rfl, rfl, trivial⟩ ?_
  refine t_then ?_
  refine t_seq ?_
  refine t_seq ?_
  refine d_begin mixed rfl ?_
  refine d_val 0 rfl (by kernel_rfl) (by kernel_rfl) (by kernel_rfl) (.then (.then .body)) (.refl _) rfl (r_load ca_36 rfl (rd_m (.head _) rfl)) ?_
  refine d_val 1 rfl (by kernel_rfl) (by kernel_rfl) (by kernel_rfl) (.then (.then .body)) (.refl _) rfl (r_ia (j := 1) Tryz.underlying36 iz_3 rfl rfl rfl (by decide)) ?_
  refine d_val 2 rfl (by kernel_rfl) (by kernel_rfl) (by kernel_rfl) (.then (.then .body)) (.refl _) rfl (r_load ca_3 rfl (rd_m (.tail _ (.head _)) rfl)) ?_
  refine d_val 3 rfl (by kernel_rfl) (by kernel_rfl) (by kernel_rfl) (.then (.then .body)) (.refl _) rfl (r_load ca_33 rfl (rd_m (.tail _ (.tail _ (.tail _ (.head _)))) rfl)) ?_
  refine d_val 4 rfl (by kernel_rfl) (by kernel_rfl) (by kernel_rfl) (.then (.then .body)) (.refl _) rfl (r_nilCheck rfl) ?_
  refine d_val 5 rfl (by kernel_rfl) (by kernel_rfl) (by kernel_rfl) (.then (.then .body)) (.refl _) rfl (r_fa fo_56_0 rfl) ?_
  refine d_val 6 rfl (by kernel_rfl) (by kernel_rfl) (by kernel_rfl) (.then (.then .body)) (.refl _) rfl (r_fa fo_50_3 rfl) ?_
  refine d_val 7 rfl (by kernel_rfl) (by kernel_rfl) (by kernel_rfl) (.then (.then .body)) (.refl _) rfl (r_fa fo_45_0 rfl) ?_
  refine d_val 8 rfl (by kernel_rfl) (by kernel_rfl) (by kernel_rfl) (.then (.then .body)) (.refl _) rfl (r_load ca_40 rfl (rd_m (.tail _ (.tail _ (.tail _ (.tail _ (.tail _ (.tail _ (.tail _ hev))))))) rfl)) ?_
  refine d_val 9 rfl (by kernel_rfl) (by kernel_rfl) (by kernel_rfl) (.then (.then .body)) (.refl _) rfl (r_len_slice Tryz.underlying40 rfl) ?_
  refine d_val 10 rfl (by kernel_rfl) (by kernel_rfl) (by kernel_rfl) (.then (.then .body)) (.refl _) rfl (r_ge rfl rfl) ?_
  refine d_end (by kernel_rfl) ?_
  refine Tr.keep (env' := [(2, _), (4, _), (5, _), (26, _)]) ⟨rfl, rfl, rfl, rfl, trivial⟩ ?_
  refine t_then ?_
  refine t_cond_f rfl ?_
  refine t_skip ?_
  refine t_then ?_
  refine t_seq ?_
  refine t_region ?_
  refine t_val (r_makeFunc rfl rfl) rfl ?_
  refine t_val (r_assign rfl) rfl ?_
  refine t_nil ?_
  refine Tr.keep (env' := [(2, _), (4, _), (5, _), (6, _)]) ⟨rfl, rfl, rfl, rfl, trivial⟩ ?_
  refine t_then ?_
  refine t_seq ?_
  refine d_begin mixed rfl ?_
  refine d_val 0 rfl (by kernel_rfl) (by kernel_rfl) (by kernel_rfl) (.then .body) (.refl _) rfl (r_move rfl) ?_
  refine d_val 2 rfl (by kernel_rfl) (by kernel_rfl) (by kernel_rfl) (.then .body) (.refl _) rfl (r_move rfl) ?_
  refine d_val 3 rfl (by kernel_rfl) (by kernel_rfl) (by kernel_rfl) (.then .body) (.refl _) rfl (r_load ca_33 rfl (rd_m (.tail _ (.tail _ (.tail _ (.head _)))) rfl)) ?_
  refine d_val 4 rfl (by kernel_rfl) (by kernel_rfl) (by kernel_rfl) (.then .body) (.refl _) rfl (r_nilCheck rfl) ?_
  refine d_val 5 rfl (by kernel_rfl) (by kernel_rfl) (by kernel_rfl) (.then .body) (.refl _) rfl (r_fa fo_56_0 rfl) ?_
  refine d_val 6 rfl (by kernel_rfl) (by kernel_rfl) (by kernel_rfl) (.then .body) (.refl _) rfl (r_fa fo_50_1 rfl) ?_
  refine d_val 7 rfl (by kernel_rfl) (by kernel_rfl) (by kernel_rfl) (.then .body) (.refl _) rfl (r_fa fo_38_1 rfl) ?_
  refine d_val 8 rfl (by kernel_rfl) (by kernel_rfl) (by kernel_rfl) (.then .body) (.refl _) rfl (r_load ca_3 rfl (rd_m (.tail _ (.tail _ (.tail _ (.tail _ (.tail _ (.tail _ (.tail _ hev))))))) rfl)) ?_
  refine d_val 9 rfl (by kernel_rfl) (by kernel_rfl) (by kernel_rfl) (.then .body) (.refl _) rfl (r_subi rfl rfl (by omega)) ?_
  refine d_eff 1 rfl rfl (by kernel_rfl) (e_pcall en_221 rfl rfl rfl rfl (take1_0 (ea := ea) (lv := lv) (lg := lg) (sN := sN) ((.tail _ (.tail _ (.tail _ (.tail _ (.tail _ (.tail _ (.tail _ hev)))))))) ((.tail _ (.tail _ (.tail _ (.tail _ (.tail _ (.tail _ (.tail _ hwb)))))))) ((.tail _ (.tail _ (.tail _ (.tail _ (.tail _ (.tail _ (.tail _ hwm)))))))) hlf hkv ((.tail _ (.tail _ (.tail _ (.head _))))) ((.head _)) ((.tail _ (.head _)))) ?_)
  refine d_held (.refl _) ?_
  refine d_eff 10 rfl rfl (by kernel_rfl) (e_pcall en_221 rfl rfl rfl rfl (take1_1 (ea := ea) (lv := lv) (lg := lg) (sN := sN) ((.tail _ (.tail _ (.tail _ (.tail _ (.tail _ (.tail _ (.tail _ hev)))))))) ((.tail _ (.tail _ (.tail _ (.tail _ (.tail _ (.tail _ (.tail _ hwb)))))))) ((.tail _ (.tail _ (.tail _ (.tail _ (.tail _ (.tail _ (.tail _ hwm)))))))) hlf hkv ((.tail _ (.tail _ (.tail _ (.head _))))) ((.head _)) ((.tail _ (.head _)))) ?_)
  refine d_held (.refl _) ?_
  refine d_val 11 rfl (by kernel_rfl) (by kernel_rfl) (by kernel_rfl) (.then .body) (.refl _) rfl (r_assign rfl) ?_
  refine d_val 12 rfl (by kernel_rfl) (by kernel_rfl) (by kernel_rfl) (.then .body) (.refl _) rfl (r_assign rfl) ?_
  refine d_end (by kernel_rfl) ?_
  refine Tr.keep (env' := [(2, _), (4, _), (5, _), (7, _), (8, _)]) ⟨rfl, rfl, rfl, rfl, rfl, trivial⟩ ?_
  refine t_then ?_
  refine t_seq ?_
  refine t_seq ?_
  refine t_region ?_
  refine t_val (r_move rfl) rfl ?_
  refine t_val (r_move rfl) rfl ?_
  refine t_val (r_le rfl rfl) rfl ?_
  refine t_nil ?_
  refine Tr.keep (env' := [(2, _), (4, _), (5, _), (7, _), (8, _), (42, _)]) ⟨rfl, rfl, rfl, rfl, rfl, rfl, trivial⟩ ?_
  refine t_then ?_
  refine t_cond_f rfl ?_
  refine t_skip ?_
  refine t_then ?_
  refine d_beginS (.cons_cons _ (.cons_cons _ (.cons_cons _ (.cons_cons _ (.cons _ (.cons _ (.cons _ (.refl _)))))))) mixed rfl ?_
  refine d_val 0 rfl (by kernel_rfl) (by kernel_rfl) (by kernel_rfl) .body (.cons_cons _ (.cons_cons _ (.cons_cons _ (.cons_cons _ (.cons _ (.cons _ (.cons _ (.refl _)))))))) rfl (r_load ca_33 rfl (rd_m (.tail _ (.tail _ (.tail _ (.head _)))) rfl)) ?_
  refine d_val 1 rfl (by kernel_rfl) (by kernel_rfl) (by kernel_rfl) .body (.cons_cons _ (.cons_cons _ (.cons_cons _ (.cons_cons _ (.cons _ (.cons _ (.cons _ (.refl _)))))))) rfl (r_move rfl) ?_
  refine d_val 2 rfl (by kernel_rfl) (by kernel_rfl) (by kernel_rfl) .body (.cons_cons _ (.cons_cons _ (.cons_cons _ (.cons_cons _ (.cons _ (.cons _ (.cons _ (.refl _)))))))) rfl (r_load ca_36 rfl (rd_m (.head _) rfl)) ?_
  refine d_val 3 rfl (by kernel_rfl) (by kernel_rfl) (by kernel_rfl) .body (.cons_cons _ (.cons_cons _ (.cons_cons _ (.cons_cons _ (.cons _ (.cons _ (.cons _ (.refl _)))))))) rfl (r_ia (j := 1) Tryz.underlying36 iz_3 rfl rfl rfl (by decide)) ?_
  refine d_val 4 rfl (by kernel_rfl) (by kernel_rfl) (by kernel_rfl) .body (.cons_cons _ (.cons_cons _ (.cons_cons _ (.cons_cons _ (.cons _ (.cons _ (.cons _ (.refl _)))))))) rfl (r_load ca_3 rfl (rd_m (.tail _ (.head _)) rfl)) ?_
  refine d_val 5 rfl (by kernel_rfl) (by kernel_rfl) (by kernel_rfl) .body (.cons_cons _ (.cons_cons _ (.cons_cons _ (.cons_cons _ (.cons _ (.cons _ (.cons _ (.refl _)))))))) rfl (r_load ca_36 rfl (rd_m (.head _) rfl)) ?_
  refine d_val 6 rfl (by kernel_rfl) (by kernel_rfl) (by kernel_rfl) .body (.cons_cons _ (.cons_cons _ (.cons_cons _ (.cons_cons _ (.cons _ (.cons _ (.cons _ (.refl _)))))))) rfl (r_ia (j := 2) Tryz.underlying36 iz_3 rfl rfl rfl (by decide)) ?_
  refine d_val 7 rfl (by kernel_rfl) (by kernel_rfl) (by kernel_rfl) .body (.cons_cons _ (.cons_cons _ (.cons_cons _ (.cons_cons _ (.cons _ (.cons _ (.cons _ (.refl _)))))))) rfl (r_load ca_3 rfl (rd_m (.tail _ (.head _)) rfl)) ?_
  refine d_val 8 rfl (by kernel_rfl) (by kernel_rfl) (by kernel_rfl) .body (.cons_cons _ (.cons_cons _ (.cons_cons _ (.cons_cons _ (.cons _ (.cons _ (.cons _ (.refl _)))))))) rfl (r_move rfl) ?_
  refine d_val 9 rfl (by kernel_rfl) (by kernel_rfl) (by kernel_rfl) .body (.cons_cons _ (.cons_cons _ (.cons_cons _ (.cons_cons _ (.cons _ (.cons _ (.cons _ (.refl _)))))))) rfl (r_move rfl) ?_
  refine d_val 10 rfl (by kernel_rfl) (by kernel_rfl) (by kernel_rfl) .body (.cons_cons _ (.cons_cons _ (.cons_cons _ (.cons_cons _ (.cons _ (.cons _ (.cons _ (.refl _)))))))) rfl (r_subi rfl rfl (by omega)) ?_
  refine d_val 11 rfl (by kernel_rfl) (by kernel_rfl) (by kernel_rfl) .body (.cons_cons _ (.cons_cons _ (.cons_cons _ (.cons_cons _ (.cons _ (.cons _ (.cons _ (.refl _)))))))) rfl (r_build rfl (v := .agg #[.int .i64 n2, .int .i64 300000, .bool false, .int .i64 0]) (fun w => by kernel_rfl)) ?_
  refine d_eff 12 rfl rfl (by kernel_rfl) (e_call en_220 rfl rfl rfl rfl (fun w hw => item_1_ok (ea := ea) (lv := lv) (v := ⟨n2, 300000, false, 0⟩) (.tail _ (.tail _ (.tail _ (.tail _ hev)))) (hin.sub (.cons _ (.cons _ (.cons _ (.cons _ (.refl _)))))) ht hok w (hw.perm (pk (.there (.there (.there (.there .here)))) (pk (.there (.there (.there (.there .here)))) (pk (.there (.there (.there (.there .here)))) (.refl _)))))) fun y _ => ?_)
  refine d_held (.cons _ (.cons _ (.cons _ (.refl _)))) ?_
  refine d_end (by kernel_rfl) ?_
  refine Tr.keep (env' := []) trivial ?_
  refine t_end0 rfl (fun w hw => ?_)
  exact ⟨y, rfl, trivial, Ok.sub (hw.perm (pk .here (pk .here (pk .here (.refl _))))) (.cons_cons _ (.cons_cons _ (.cons_cons _ (.cons _ (.cons _ (.cons _ (.cons _ (.refl _))))))))⟩
theorem pass_ok {ea : EvAt} {lv : Value} {lg : WLog} {g : GuardSt} {Fr : List Ent} {n1 n4 n5 s2 : Int} {p : Nat} {A : Option Addr} {cc : Nat} {x0 x1 x2 x3 x4 x5 : ByteArray} (hev : ea.ev lv ∈ Fr) (hin : ea.sa.In Fr) (hs : SlRd w0 (lg.eb ea.wl :: lg.em ea.wl :: g.eg ea.gl :: g.er ea.gl :: g.ep ea.gl :: g.ec ea.gl :: Fr) 1 A 6 [encS x0, encS x1, encS x2, encS x3, encS x4, encS x5])
   (hx0 : Num x0 0) (hx1 : Num x1 n1) (hx2 : Num x2 1) (hx3 : Num x3 (p : Int)) (hx4 : Num x4 n4) (hx5 : Num x5 n5) (hsv : Own 110 2 ea.wl.sv (lg.srcs.map Src.cells) ea.wl.sE) (hlf : lg.Fine) (hok : lg.rightB ⟨0, n1, 1, 1, p, n4⟩ n5 = true) (hnew : aget ⟨0, n1, 1, 1, p, n4⟩ lg.kv = none) (hl5 : lg.kv.length < 5000)
   (hf : g.Fine) (hq : IntKind.i64.wrap (n5.tdiv 1000) = s2) (hval : gvalid g.plan 8 s2 p 0 = true) :
   ∀ w, Ok w0 (lg.eb ea.wl :: lg.em ea.wl :: g.eg ea.gl :: g.er ea.gl :: g.ep ea.gl :: g.ec ea.gl :: Fr) w → Calls Tryz.prog 151 #[.pointer (some ⟨ea.eb, 0, none⟩), .agg #[.string ⟨#[112, 97, 115, 115]⟩, .slice A 6 cc]] w (fun e w' => ∃ mb, e = .returned (.tuple #[]) ∧ True ∧ Ok w0 ((lg.add ⟨0, n1, 1, 1, p, n4⟩ n5).eb { ea.wl with mb := mb } :: (lg.add ⟨0, n1, 1, 1, p, n4⟩ n5).em { ea.wl with mb := mb } :: (g.hear 8 s2 p 0).eg ea.gl :: (g.hear 8 s2 p 0).er ea.gl :: (g.hear 8 s2 p 0).ep ea.gl :: (g.hear 8 s2 p 0).ec ea.gl :: Fr) w') := by
  refine enter (vs := [_, _]) Tryz.func151 rfl Tryz.ntmps151 rfl ?_
  refine t_seq ?_
  refine t_region ?_
  refine t_eff rfl (e_box rfl rfl fun b3 => ?_)
  refine t_nil ?_
  refine Tr.keep (env' := [(0, _), (3, _)]) ⟨rfl, rfl, trivial⟩ ?_
  refine t_then ?_
  refine t_seq ?_
  refine t_region ?_
  refine t_val (r_loads ca_182 rfl (rds_m (n := 2) (vs := [_, _]) (.head _) rfl) rfl) rfl ?_
  refine t_eff rfl (e_call en_211 rfl rfl rfl rfl (numbers_ok (ws := [x0, x1, x2, x3, x4, x5]) _ (hs.sub (.cons _ (.refl _))) (by intro z hz; simp at hz; rcases hz with rfl | rfl | rfl | rfl | rfl | rfl <;> first | exact hx0.1 | exact hx1.1 | exact hx2.1 | exact hx3.1 | exact hx4.1 | exact hx5.1) (by simp)) fun xo hO => ?_)
  obtain ⟨xv, xE⟩ := xo
  dsimp only at hO ⊢
  obtain ⟨sN, hv, hE⟩ := own_sl (n := 6) hO rfl (by decide)
  subst hv hE
  show Tr _ _ _ _ (cel sN.b 3 (.int .i64 (wordV x0) :: .int .i64 (wordV x1) :: .int .i64 (wordV x2) :: .int .i64 (wordV x3) :: .int .i64 (wordV x4) :: .int .i64 (wordV x5) :: sN.sp) :: _) _
  rw [hx0.2]
  rw [hx1.2]
  rw [hx2.2]
  rw [hx3.2]
  rw [hx4.2]
  rw [hx5.2]
  refine t_val (r_assign rfl) rfl ?_
  refine t_nil ?_
  refine Tr.keep (env' := [(0, _), (3, _), (4, _)]) ⟨rfl, rfl, rfl, trivial⟩ ?_
  refine t_then ?_
  refine t_seq ?_
  refine t_region ?_
  refine t_val (r_move rfl) rfl ?_
  refine t_val (r_move rfl) rfl ?_
  refine t_val (r_ia (j := 2) Tryz.underlying36 iz_3 rfl rfl rfl (by decide)) rfl ?_
  refine t_val (r_load ca_3 rfl (rd_m (.head _) rfl)) rfl ?_
  refine t_eff rfl (e_pcall en_214 rfl rfl rfl rfl (car_c (e' := ea) (lv := lv) ((.tail _ (.tail _ (.tail _ (.tail _ (.tail _ (.tail _ (.tail _ (.tail _ hev)))))))))) ?_)
  refine t_val (r_assign rfl) rfl ?_
  refine t_nil ?_
  refine Tr.keep (env' := [(0, _), (3, _), (4, _), (5, _)]) ⟨rfl, rfl, rfl, rfl, trivial⟩ ?_
  refine t_then ?_
  refine t_seq ?_
  refine d_begin mixed rfl ?_
  refine d_val 0 rfl (by kernel_rfl) (by kernel_rfl) (by kernel_rfl) (.then .body) (.refl _) rfl (r_move rfl) ?_
  refine d_val 1 rfl (by kernel_rfl) (by kernel_rfl) (by kernel_rfl) (.then .body) (.refl _) rfl (r_ia (j := 0) Tryz.underlying36 iz_3 rfl rfl rfl (by decide)) ?_
  refine d_val 2 rfl (by kernel_rfl) (by kernel_rfl) (by kernel_rfl) (.then .body) (.refl _) rfl (r_load ca_3 rfl (rd_m (.head _) rfl)) ?_
  refine d_val 3 rfl (by kernel_rfl) (by kernel_rfl) (by kernel_rfl) (.then .body) (.refl _) rfl (r_move rfl) ?_
  refine d_val 4 rfl (by kernel_rfl) (by kernel_rfl) (by kernel_rfl) (.then .body) (.refl _) rfl (r_ia (j := 1) Tryz.underlying36 iz_3 rfl rfl rfl (by decide)) ?_
  refine d_val 5 rfl (by kernel_rfl) (by kernel_rfl) (by kernel_rfl) (.then .body) (.refl _) rfl (r_load ca_3 rfl (rd_m (.head _) rfl)) ?_
  refine d_val 6 rfl (by kernel_rfl) (by kernel_rfl) (by kernel_rfl) (.then .body) (.refl _) rfl (r_move rfl) ?_
  refine d_val 7 rfl (by kernel_rfl) (by kernel_rfl) (by kernel_rfl) (.then .body) (.refl _) rfl (r_ia (j := 2) Tryz.underlying36 iz_3 rfl rfl rfl (by decide)) ?_
  refine d_val 8 rfl (by kernel_rfl) (by kernel_rfl) (by kernel_rfl) (.then .body) (.refl _) rfl (r_load ca_3 rfl (rd_m (.head _) rfl)) ?_
  refine d_val 9 rfl (by kernel_rfl) (by kernel_rfl) (by kernel_rfl) (.then .body) (.refl _) rfl (r_move rfl) ?_
  refine d_val 10 rfl (by kernel_rfl) (by kernel_rfl) (by kernel_rfl) (.then .body) (.refl _) rfl (r_ia (j := 3) Tryz.underlying36 iz_3 rfl rfl rfl (by decide)) ?_
  refine d_val 11 rfl (by kernel_rfl) (by kernel_rfl) (by kernel_rfl) (.then .body) (.refl _) rfl (r_load ca_3 rfl (rd_m (.head _) rfl)) ?_
  refine d_val 12 rfl (by kernel_rfl) (by kernel_rfl) (by kernel_rfl) (.then .body) (.refl _) rfl (r_move rfl) ?_
  refine d_val 13 rfl (by kernel_rfl) (by kernel_rfl) (by kernel_rfl) (.then .body) (.refl _) rfl (r_ia (j := 4) Tryz.underlying36 iz_3 rfl rfl rfl (by decide)) ?_
  refine d_val 14 rfl (by kernel_rfl) (by kernel_rfl) (by kernel_rfl) (.then .body) (.refl _) rfl (r_load ca_3 rfl (rd_m (.head _) rfl)) ?_
  refine d_val 15 rfl (by kernel_rfl) (by kernel_rfl) (by kernel_rfl) (.then .body) (.refl _) rfl (r_move rfl) ?_
  refine d_val 16 rfl (by kernel_rfl) (by kernel_rfl) (by kernel_rfl) (.then .body) (.refl _) rfl (r_ia (j := 5) Tryz.underlying36 iz_3 rfl rfl rfl (by decide)) ?_
  refine d_val 17 rfl (by kernel_rfl) (by kernel_rfl) (by kernel_rfl) (.then .body) (.refl _) rfl (r_load ca_3 rfl (rd_m (.head _) rfl)) ?_
  refine d_val 18 rfl (by kernel_rfl) (by kernel_rfl) (by kernel_rfl) (.then .body) (.refl _) rfl (r_build rfl (v := .agg #[.int .i64 0, .int .i64 n1, .int .i64 1, .int .i64 1, .int .i64 (p : Int), .int .i64 n4, .int .i64 n5]) (fun w => by kernel_rfl)) ?_
  refine d_eff 19 rfl rfl (by kernel_rfl) (e_alloc inf_228 (l := [.int .i64 0, .int .i64 0, .int .i64 0, .int .i64 0, .int .i64 0, .int .i64 0, .int .i64 0]) rfl rfl fun b6 => ?_)
  refine d_held (.cons _ (.refl _)) ?_
  refine d_eff 20 rfl rfl (by kernel_rfl) (e_stores iz_228 rfl rfl (vs := [_, _, _, _, _, _, _]) rfl rfl (by simp [Value.oneCell']) (.cons .zero (.cons (.succ .zero) (.cons (.succ (.succ .zero)) (.cons (.succ (.succ (.succ .zero))) (.cons (.succ (.succ (.succ (.succ .zero)))) (.cons (.succ (.succ (.succ (.succ (.succ .zero))))) (.cons (.succ (.succ (.succ (.succ (.succ (.succ .zero)))))) .nil))))))) .here ?_)
  refine d_held (.cons _ (.refl _)) ?_
  refine d_end (by kernel_rfl) ?_
  refine Tr.keep (env' := [(0, _), (3, _), (5, _), (6, _)]) ⟨rfl, rfl, rfl, rfl, trivial⟩ ?_
  refine t_then ?_
  refine t_seq ?_
  refine t_seq ?_
  refine t_region ?_
  refine t_val (r_fa fo_182_0 rfl) rfl ?_
  refine t_val (r_load ca_9 rfl (rd_m (.tail _ (.tail _ (.head _))) rfl)) rfl ?_
  refine t_val (r_to (v2 := .bool false) (r_eqs rfl rfl) (by rfl)) rfl ?_
  refine t_nil ?_
  refine Tr.keep (env' := [(0, _), (5, _), (6, _), (35, _)]) ⟨rfl, rfl, rfl, rfl, trivial⟩ ?_
  refine t_then ?_
  refine t_cond_f rfl ?_
  refine t_skip ?_
  refine t_then ?_
  refine t_seq ?_
  refine d_beginS (.cons_cons _ (.cons_cons _ (.cons_cons _ (.cons _ (.cons _ (.refl _)))))) mixed rfl ?_
  refine d_val 0 rfl (by kernel_rfl) (by kernel_rfl) (by kernel_rfl) (.then .body) (.cons_cons _ (.cons_cons _ (.cons_cons _ (.cons _ (.cons _ (.refl _)))))) rfl (r_move rfl) ?_
  refine d_val 1 rfl (by kernel_rfl) (by kernel_rfl) (by kernel_rfl) (.then .body) (.cons_cons _ (.cons_cons _ (.cons_cons _ (.cons _ (.cons _ (.refl _)))))) rfl (r_nilCheck rfl) ?_
  refine d_val 2 rfl (by kernel_rfl) (by kernel_rfl) (by kernel_rfl) (.then .body) (.cons_cons _ (.cons_cons _ (.cons_cons _ (.cons _ (.cons _ (.refl _)))))) rfl (r_fa fo_56_2 rfl) ?_
  refine d_val 3 rfl (by kernel_rfl) (by kernel_rfl) (by kernel_rfl) (.then .body) (.cons_cons _ (.cons_cons _ (.cons_cons _ (.cons _ (.cons _ (.refl _)))))) rfl (r_load ca_52 rfl (rd_m (.tail _ (.tail _ (.tail _ (.tail _ (.tail _ (.tail _ (.tail _ hev))))))) rfl)) ?_
  refine d_val 4 rfl (by kernel_rfl) (by kernel_rfl) (by kernel_rfl) (.then .body) (.cons_cons _ (.cons_cons _ (.cons_cons _ (.cons _ (.cons _ (.refl _)))))) rfl (r_loads ca_228 rfl (rds_m (n := 7) (vs := [_, _, _, _, _, _, _]) (.head _) rfl) rfl) ?_
  refine d_eff 5 rfl rfl (by kernel_rfl) (e_buildSlice (E := 228) (l := [.int .i64 0, .int .i64 n1, .int .i64 1, .int .i64 1, .int .i64 (p : Int), .int .i64 n4, .int .i64 n5]) rfl (fun w => by kernel_rfl) rfl fun b42 => ?_)
  refine d_held (.cons _ (.cons_cons _ (.cons_cons _ (.cons_cons _ (.cons _ (.cons _ (.refl _))))))) ?_
  refine d_eff 6 rfl rfl (by kernel_rfl) (e_call en_216 rfl rfl rfl rfl (fun w hw => wire_add_new (Fr := _) (g := lg) (l := ea.wl) (rb := b42) ⟨0, n1, 1, 1, p, n4⟩ n5 hsv hlf ((.head _)) hok hnew hl5 w (hw.perm (pk (.there (.there (.there (.there .here)))) (pk (.there (.there (.there (.there .here)))) (.refl _))))) fun mb _ => ?_)
  refine d_held (.cons _ (.cons _ (.cons _ (.refl _)))) ?_
  refine d_eff 7 rfl rfl (by kernel_rfl) (e_pcall en_212 rfl rfl rfl rfl need_ok ?_)
  refine d_held (.cons _ (.cons _ (.cons _ (.refl _)))) ?_
  refine d_end (by kernel_rfl) ?_
  refine Tr.keep (env' := [(0, _), (5, _), (6, _)]) ⟨rfl, rfl, rfl, trivial⟩ ?_
  refine t_then ?_
  refine t_seq ?_
  refine d_begin mixed rfl ?_
  refine d_val 0 rfl (by kernel_rfl) (by kernel_rfl) (by kernel_rfl) (.then .body) (.refl _) rfl (r_fa fo_228_2 rfl) ?_
  refine d_val 1 rfl (by kernel_rfl) (by kernel_rfl) (by kernel_rfl) (.then .body) (.refl _) rfl (r_load ca_226 rfl (rd_m (.tail _ (.tail _ (.tail _ (.head _)))) rfl)) ?_
  refine d_val 2 rfl (by kernel_rfl) (by kernel_rfl) (by kernel_rfl) (.then .body) (.refl _) rfl (r_eq rfl rfl) ?_
  refine d_val 3 rfl (by kernel_rfl) (by kernel_rfl) (by kernel_rfl) (.then .body) (.refl _) rfl (r_move rfl) ?_
  refine d_gval 4 rfl (by kernel_rfl) (by kernel_rfl) (by kernel_rfl) (.then .body) (.refl _) rfl rfl rfl (r_move rfl) ?_
  refine d_gval 5 rfl (by kernel_rfl) (by kernel_rfl) (by kernel_rfl) (.then .body) (.refl _) rfl rfl rfl (r_nilCheck rfl) ?_
  refine d_gval 6 rfl (by kernel_rfl) (by kernel_rfl) (by kernel_rfl) (.then .body) (.refl _) rfl rfl rfl (r_fa fo_56_0 rfl) ?_
  refine d_gval 7 rfl (by kernel_rfl) (by kernel_rfl) (by kernel_rfl) (.then .body) (.refl _) rfl rfl rfl (r_fa fo_50_2 rfl) ?_
  refine d_gval 8 rfl (by kernel_rfl) (by kernel_rfl) (by kernel_rfl) (.then .body) (.refl _) rfl rfl rfl (r_load ca_39 rfl (rd_m (.tail _ (.tail _ (.tail _ (.tail _ (.tail _ (.tail _ (.tail _ (.tail _ (.tail _ (.tail _ hev)))))))))) rfl)) ?_
  refine d_gval 9 rfl (by kernel_rfl) (by kernel_rfl) (by kernel_rfl) (.then .body) (.refl _) rfl rfl rfl (r_fa fo_228_0 rfl) ?_
  refine d_gval 10 rfl (by kernel_rfl) (by kernel_rfl) (by kernel_rfl) (.then .body) (.refl _) rfl rfl rfl (r_load ca_3 rfl (rd_m (.tail _ (.tail _ (.tail _ (.head _)))) rfl)) ?_
  refine d_gval 11 rfl (by kernel_rfl) (by kernel_rfl) (by kernel_rfl) (.then .body) (.refl _) rfl rfl rfl (r_ia (j := 0) Tryz.underlying39 iz_110 rfl rfl rfl (by decide)) ?_
  refine d_gval 12 rfl (by kernel_rfl) (by kernel_rfl) (by kernel_rfl) (.then .body) (.refl _) rfl rfl rfl (r_fa fo_110_0 rfl) ?_
  refine d_gval 13 rfl (by kernel_rfl) (by kernel_rfl) (by kernel_rfl) (.then .body) (.refl _) rfl rfl rfl (r_load ca_108 rfl (rd_m (.tail _ (.tail _ (.tail _ (.tail _ (.tail _ (.tail _ (.tail _ (.tail _ (.tail _ (.tail _ hin.srcs)))))))))) rfl)) ?_
  refine d_gval 14 rfl (by kernel_rfl) (by kernel_rfl) (by kernel_rfl) (.then .body) (.refl _) rfl rfl rfl (r_ne rfl rfl) ?_
  refine d_val 15 rfl (by kernel_rfl) (by kernel_rfl) (by kernel_rfl) (.then .body) (.refl _) rfl (r_pick_t rfl rfl) ?_
  refine d_end (by kernel_rfl) ?_
  refine Tr.keep (env' := [(0, _), (5, _), (6, _), (60, _)]) ⟨rfl, rfl, rfl, rfl, trivial⟩ ?_
  refine t_then ?_
  refine t_cond_t rfl ?_
  refine d_beginS (.cons_cons _ (.cons_cons _ (.cons_cons _ (.cons_cons _ (.cons_cons _ (.cons_cons _ (.cons _ (.cons _ (.cons _ (.cons _ (.refl _))))))))))) mixed rfl ?_
  refine d_val 0 rfl (by kernel_rfl) (by kernel_rfl) (by kernel_rfl) .body (.cons_cons _ (.cons_cons _ (.cons_cons _ (.cons_cons _ (.cons_cons _ (.cons_cons _ (.cons _ (.cons _ (.cons _ (.cons _ (.refl _))))))))))) rfl (r_move rfl) ?_
  refine d_val 1 rfl (by kernel_rfl) (by kernel_rfl) (by kernel_rfl) .body (.cons_cons _ (.cons_cons _ (.cons_cons _ (.cons_cons _ (.cons_cons _ (.cons_cons _ (.cons _ (.cons _ (.cons _ (.cons _ (.refl _))))))))))) rfl (r_nilCheck rfl) ?_
  refine d_val 2 rfl (by kernel_rfl) (by kernel_rfl) (by kernel_rfl) .body (.cons_cons _ (.cons_cons _ (.cons_cons _ (.cons_cons _ (.cons_cons _ (.cons_cons _ (.cons _ (.cons _ (.cons _ (.cons _ (.refl _))))))))))) rfl (r_fa fo_56_1 rfl) ?_
  refine d_val 3 rfl (by kernel_rfl) (by kernel_rfl) (by kernel_rfl) .body (.cons_cons _ (.cons_cons _ (.cons_cons _ (.cons_cons _ (.cons_cons _ (.cons_cons _ (.cons _ (.cons _ (.cons _ (.cons _ (.refl _))))))))))) rfl (r_load ca_51 rfl (rd_m (.tail _ (.tail _ (.tail _ (.tail _ (.tail _ (.tail _ hev)))))) rfl)) ?_
  refine d_val 4 rfl (by kernel_rfl) (by kernel_rfl) (by kernel_rfl) .body (.cons_cons _ (.cons_cons _ (.cons_cons _ (.cons_cons _ (.cons_cons _ (.cons_cons _ (.cons _ (.cons _ (.cons _ (.cons _ (.refl _))))))))))) rfl (r_fa fo_228_4 rfl) ?_
  refine d_val 5 rfl (by kernel_rfl) (by kernel_rfl) (by kernel_rfl) .body (.cons_cons _ (.cons_cons _ (.cons_cons _ (.cons_cons _ (.cons_cons _ (.cons_cons _ (.cons _ (.cons _ (.cons _ (.cons _ (.refl _))))))))))) rfl (r_load ca_3 rfl (rd_m (.tail _ (.tail _ (.tail _ (.head _)))) rfl)) ?_
  refine d_val 6 rfl (by kernel_rfl) (by kernel_rfl) (by kernel_rfl) .body (.cons_cons _ (.cons_cons _ (.cons_cons _ (.cons_cons _ (.cons_cons _ (.cons_cons _ (.cons _ (.cons _ (.cons _ (.cons _ (.refl _))))))))))) rfl (r_move rfl) ?_
  refine d_val 7 rfl (by kernel_rfl) (by kernel_rfl) (by kernel_rfl) .body (.cons_cons _ (.cons_cons _ (.cons_cons _ (.cons_cons _ (.cons_cons _ (.cons_cons _ (.cons _ (.cons _ (.cons _ (.cons _ (.refl _))))))))))) rfl (r_fa fo_228_6 rfl) ?_
  refine d_val 8 rfl (by kernel_rfl) (by kernel_rfl) (by kernel_rfl) .body (.cons_cons _ (.cons_cons _ (.cons_cons _ (.cons_cons _ (.cons_cons _ (.cons_cons _ (.cons _ (.cons _ (.cons _ (.cons _ (.refl _))))))))))) rfl (r_load ca_3 rfl (rd_m (.tail _ (.tail _ (.tail _ (.head _)))) rfl)) ?_
  refine d_val 9 rfl (by kernel_rfl) (by kernel_rfl) (by kernel_rfl) .body (.cons_cons _ (.cons_cons _ (.cons_cons _ (.cons_cons _ (.cons_cons _ (.cons_cons _ (.cons _ (.cons _ (.cons _ (.cons _ (.refl _))))))))))) rfl (r_to (v2 := .int .i64 s2) (r_quo rfl rfl (by decide)) (by rw [hq])) ?_
  refine d_val 10 rfl (by kernel_rfl) (by kernel_rfl) (by kernel_rfl) .body (.cons_cons _ (.cons_cons _ (.cons_cons _ (.cons_cons _ (.cons_cons _ (.cons_cons _ (.cons _ (.cons _ (.cons _ (.cons _ (.refl _))))))))))) rfl (r_build rfl (v := .agg #[.int .i64 8, .int .i64 s2, .int .i64 (p : Int), .int .i64 0]) (fun w => by kernel_rfl)) ?_
  refine d_eff 11 rfl rfl (by kernel_rfl) (e_mcall en_213 rfl rfl rfl rfl (fun w hw => guard_hear_8 (Fr := _) s2 p 0 hf hval w (hw.perm (pk (.there (.there (.there (.there (.there (.there .here)))))) (pk (.there (.there (.there (.there (.there (.there .here)))))) (pk (.there (.there (.there (.there (.there (.there .here)))))) (pk (.there (.there (.there (.there (.there (.there .here)))))) (.refl _))))))) ?_)
  refine d_held (.cons _ (.cons _ (.cons _ (.cons _ (.refl _))))) ?_
  refine d_end (by kernel_rfl) ?_
  refine Tr.keep (env' := []) trivial ?_
  refine t_end0 rfl (fun w hw => ?_)
  exact ⟨mb, rfl, trivial, Ok.sub (hw.perm (pk (.there (.there (.there (.there .here)))) (pk (.there (.there (.there (.there .here)))) (pk .here (pk .here (pk .here (pk .here (.refl _)))))))) (.cons_cons _ (.cons_cons _ (.cons_cons _ (.cons_cons _ (.cons_cons _ (.cons_cons _ (.cons _ (.cons _ (.cons _ (.cons _ (.refl _)))))))))))⟩
end
end Go.Proofs.W
