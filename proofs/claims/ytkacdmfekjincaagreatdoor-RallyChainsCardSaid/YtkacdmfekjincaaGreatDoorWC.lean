/-
  What functions of the program that RallyChains reaches do, one contract each, part 3.
-/
import Derived.Test.YtkacdmfekjincaaGreatDoorWB
import Derived.Test.YtkacdmfekjincaaGreatDoorSlA
import Derived.Test.YtkacdmfekjincaaGreatDoorSlB
set_option linter.unusedVariables false
set_option linter.unusedSimpArgs false
set_option linter.unusedSectionVars false
set_option maxRecDepth 100000
namespace Go.Proofs.W
open Go Go.Sl Go.RowKit Go.Proofs
theorem ca_108 : cellsAs Tryz.prog 108 = some (none) := by kernel_rfl
theorem ca_36 : cellsAs Tryz.prog 36 = some (none) := by kernel_rfl
theorem ca_38 : cellsAs Tryz.prog 38 = some (some 3) := by kernel_rfl
theorem en_111 : Enters Tryz.prog 111 := enters_of Tryz.func111 (by kernel_rfl) (by kernel_rfl)
theorem en_168 : Enters Tryz.prog 168 := enters_of Tryz.func168 (by kernel_rfl) (by kernel_rfl)
theorem en_171 : Enters Tryz.prog 171 := enters_of Tryz.func171 (by kernel_rfl) (by kernel_rfl)
theorem en_232 : Enters Tryz.prog 232 := enters_of Tryz.func232 (by kernel_rfl) (by kernel_rfl)
theorem en_233 : Enters Tryz.prog 233 := enters_of Tryz.func233 (by kernel_rfl) (by kernel_rfl)
theorem en_234 : Enters Tryz.prog 234 := enters_of Tryz.func234 (by kernel_rfl) (by kernel_rfl)
theorem en_235 : Enters Tryz.prog 235 := enters_of Tryz.func235 (by kernel_rfl) (by kernel_rfl)
theorem en_85 : Enters Tryz.prog 85 := enters_of Tryz.func85 (by kernel_rfl) (by kernel_rfl)
theorem fo_110_0 : fieldOff Tryz.prog 110 0 = some 0 := by kernel_rfl
theorem fo_110_1 : fieldOff Tryz.prog 110 1 = some 1 := by kernel_rfl
theorem fo_38_0 : fieldOff Tryz.prog 38 0 = some 0 := by kernel_rfl
theorem fo_38_1 : fieldOff Tryz.prog 38 1 = some 1 := by kernel_rfl
theorem fo_38_2 : fieldOff Tryz.prog 38 2 = some 2 := by kernel_rfl
theorem inf_107 : (Tryz.prog.info? 107).map (fun i => (i.zero, i.size, i.bytes)) = some (some (.agg #[.int .i64 0, .int .i64 0, .int .i64 0, .bool false]), 4, 32) := by kernel_rfl
theorem inf_110 : (Tryz.prog.info? 110).map (fun i => (i.zero, i.size, i.bytes)) = some (some (.agg #[.int .i64 0, .int .i64 0]), 2, 16) := by kernel_rfl
theorem inf_112 : (Tryz.prog.info? 112).map (fun i => (i.zero, i.size, i.bytes)) = some (some (.agg #[.int .i64 0, .int .i64 0, .int .i64 0, .int .i64 0]), 4, 32) := by kernel_rfl
theorem inf_3 : (Tryz.prog.info? 3).map (fun i => (i.zero, i.size, i.bytes)) = some (some ((.int .i64 0)), 1, 8) := by kernel_rfl
theorem inf_81 : (Tryz.prog.info? 81).map (fun i => (i.zero, i.size, i.bytes)) = some (some (.agg #[.int .i64 0, .int .i64 0, .bool false, .int .i64 0]), 4, 32) := by kernel_rfl
theorem iz_36 : (Tryz.prog.info? 36).map (·.size) = some 1 := by kernel_rfl
section
variable {w0 : World} {M : List Ent}
theorem clone_int_c {A : Option Addr} {n c : Nat} {xs : List (List Value)} (hrd : SlRd w0 M 1 A n xs) (h1 : ∀ x ∈ xs, ∀ u ∈ x, u.oneCell' = true) (hnil : A = none → n = 0 ∧ c = 0) (hn : n ≤ 1000000) :
   ∀ w, Ok w0 M w → Calls Tryz.prog 85 #[.slice A n c] w (fun e w' => ∃ x : Value × List Ent, e = .returned x.1 ∧ (Own 3 1 x.1 xs x.2 ∧ (x.1 = .slice none 0 0 ↔ A = none)) ∧ Ok w0 (x.2 ++ M) w') := by
  refine enter (vs := [_]) Tryz.func85 rfl Tryz.ntmps85 rfl ?_
  refine t_seq ?_
  refine t_region ?_
  refine t_val (r_assign rfl) rfl ?_
  refine t_nil ?_
  refine Tr.keep (env' := [(0, _)]) ⟨rfl, trivial⟩ ?_
  refine t_then ?_
  refine t_seq ?_
  refine t_seq ?_
  refine t_region ?_
  refine t_val (r_move rfl) rfl ?_
  refine t_val (r_eqnil_slice Tryz.underlying36 rfl rfl) rfl ?_
  refine t_nil ?_
  refine Tr.keep (env' := [(0, _), (4, _)]) ⟨rfl, rfl, trivial⟩ ?_
  refine t_then ?_
  refine t_cond rfl (fun hnl => ?_) (fun hnl => ?_)
  · obtain rfl : A = none := by simpa using hnl
    obtain ⟨rfl, rfl⟩ := hnil rfl
    obtain rfl : xs = [] := List.length_eq_zero_iff.1 hrd.len
    refine t_seq ?_
    refine t_region ?_
    refine t_val (r_assign rfl) rfl ?_
    refine t_nil ?_
    refine Tr.keep (env' := [(2, _)]) ⟨rfl, trivial⟩ ?_
    refine t_then ?_
    refine t_retc ?_
    refine t_then_ret ?_
    refine t_ret1 rfl rfl (fun w hw => ?_)
    exact ⟨(_, []), rfl, ⟨Own.nil _ _, by simp⟩, hw⟩
  · obtain ⟨a, rfl⟩ : ∃ a, A = some a := by cases A <;> simp_all
    refine t_skip ?_
    refine t_then ?_
    refine t_seq ?_
    refine t_region ?_
    refine t_eff rfl (e_buildSlice (E := 3) (l := []) rfl (fun w => by kernel_rfl) rfl fun b5 => ?_)
    refine t_val (r_move rfl) rfl ?_
    refine t_eff rfl (e_appends Tryz.underlying36 inf_3 rfl (by decide) rfl rfl (Own.made (xs := []) (n := 0) (by simp) rfl (by decide)) (.refl _) hrd.cons h1 (by simp; omega) (by simp [maxLen]; omega) rfl (by simp) fun v E hO hne => ?_)
    refine t_val (r_assign rfl) rfl ?_
    refine t_nil ?_
    refine Tr.keep (env' := [(2, _)]) ⟨rfl, trivial⟩ ?_
    refine t_then ?_
    refine t_retc ?_
    refine t_ret1 rfl rfl (fun w hw => ?_)
    exact ⟨(v, E), rfl, ⟨by simpa using hO, by simp [hne]⟩, hw⟩
theorem clone_source_c {A : Option Addr} {n c : Nat} {xs : List (List Value)} (hrd : SlRd w0 M 2 A n xs) (h1 : ∀ x ∈ xs, ∀ u ∈ x, u.oneCell' = true) (hnil : A = none → n = 0 ∧ c = 0) (hn : n ≤ 1000000) :
   ∀ w, Ok w0 M w → Calls Tryz.prog 168 #[.slice A n c] w (fun e w' => ∃ x : Value × List Ent, e = .returned x.1 ∧ (Own 110 2 x.1 xs x.2 ∧ (x.1 = .slice none 0 0 ↔ A = none)) ∧ Ok w0 (x.2 ++ M) w') := by
  refine enter (vs := [_]) Tryz.func168 rfl Tryz.ntmps168 rfl ?_
  refine t_seq ?_
  refine t_region ?_
  refine t_val (r_assign rfl) rfl ?_
  refine t_nil ?_
  refine Tr.keep (env' := [(0, _)]) ⟨rfl, trivial⟩ ?_
  refine t_then ?_
  refine t_seq ?_
  refine t_seq ?_
  refine t_region ?_
  refine t_val (r_move rfl) rfl ?_
  refine t_val (r_eqnil_slice Tryz.underlying39 rfl rfl) rfl ?_
  refine t_nil ?_
  refine Tr.keep (env' := [(0, _), (4, _)]) ⟨rfl, rfl, trivial⟩ ?_
  refine t_then ?_
  refine t_cond rfl (fun hnl => ?_) (fun hnl => ?_)
  · obtain rfl : A = none := by simpa using hnl
    obtain ⟨rfl, rfl⟩ := hnil rfl
    obtain rfl : xs = [] := List.length_eq_zero_iff.1 hrd.len
    refine t_seq ?_
    refine t_region ?_
    refine t_val (r_assign rfl) rfl ?_
    refine t_nil ?_
    refine Tr.keep (env' := [(2, _)]) ⟨rfl, trivial⟩ ?_
    refine t_then ?_
    refine t_retc ?_
    refine t_then_ret ?_
    refine t_ret1 rfl rfl (fun w hw => ?_)
    exact ⟨(_, []), rfl, ⟨Own.nil _ _, by simp⟩, hw⟩
  · obtain ⟨a, rfl⟩ : ∃ a, A = some a := by cases A <;> simp_all
    refine t_skip ?_
    refine t_then ?_
    refine t_seq ?_
    refine t_region ?_
    refine t_eff rfl (e_buildSlice (E := 110) (l := []) rfl (fun w => by kernel_rfl) rfl fun b5 => ?_)
    refine t_val (r_move rfl) rfl ?_
    refine t_eff rfl (e_appends Tryz.underlying39 inf_110 rfl (by decide) rfl rfl (Own.made (xs := []) (n := 0) (by simp) rfl (by decide)) (.refl _) hrd.cons h1 (by simp; omega) (by simp [maxLen]; omega) rfl (by simp) fun v E hO hne => ?_)
    refine t_val (r_assign rfl) rfl ?_
    refine t_nil ?_
    refine Tr.keep (env' := [(2, _)]) ⟨rfl, trivial⟩ ?_
    refine t_then ?_
    refine t_retc ?_
    refine t_ret1 rfl rfl (fun w hw => ?_)
    exact ⟨(v, E), rfl, ⟨by simpa using hO, by simp [hne]⟩, hw⟩
theorem clone_article_c {A : Option Addr} {n c : Nat} {xs : List (List Value)} (hrd : SlRd w0 M 4 A n xs) (h1 : ∀ x ∈ xs, ∀ u ∈ x, u.oneCell' = true) (hnil : A = none → n = 0 ∧ c = 0) (hn : n ≤ 1000000) :
   ∀ w, Ok w0 M w → Calls Tryz.prog 170 #[.slice A n c] w (fun e w' => ∃ x : Value × List Ent, e = .returned x.1 ∧ (Own 112 4 x.1 xs x.2 ∧ (x.1 = .slice none 0 0 ↔ A = none)) ∧ Ok w0 (x.2 ++ M) w') := by
  refine enter (vs := [_]) Tryz.func170 rfl Tryz.ntmps170 rfl ?_
  refine t_seq ?_
  refine t_region ?_
  refine t_val (r_assign rfl) rfl ?_
  refine t_nil ?_
  refine Tr.keep (env' := [(0, _)]) ⟨rfl, trivial⟩ ?_
  refine t_then ?_
  refine t_seq ?_
  refine t_seq ?_
  refine t_region ?_
  refine t_val (r_move rfl) rfl ?_
  refine t_val (r_eqnil_slice Tryz.underlying46 rfl rfl) rfl ?_
  refine t_nil ?_
  refine Tr.keep (env' := [(0, _), (4, _)]) ⟨rfl, rfl, trivial⟩ ?_
  refine t_then ?_
  refine t_cond rfl (fun hnl => ?_) (fun hnl => ?_)
  · obtain rfl : A = none := by simpa using hnl
    obtain ⟨rfl, rfl⟩ := hnil rfl
    obtain rfl : xs = [] := List.length_eq_zero_iff.1 hrd.len
    refine t_seq ?_
    refine t_region ?_
    refine t_val (r_assign rfl) rfl ?_
    refine t_nil ?_
    refine Tr.keep (env' := [(2, _)]) ⟨rfl, trivial⟩ ?_
    refine t_then ?_
    refine t_retc ?_
    refine t_then_ret ?_
    refine t_ret1 rfl rfl (fun w hw => ?_)
    exact ⟨(_, []), rfl, ⟨Own.nil _ _, by simp⟩, hw⟩
  · obtain ⟨a, rfl⟩ : ∃ a, A = some a := by cases A <;> simp_all
    refine t_skip ?_
    refine t_then ?_
    refine t_seq ?_
    refine t_region ?_
    refine t_eff rfl (e_buildSlice (E := 112) (l := []) rfl (fun w => by kernel_rfl) rfl fun b5 => ?_)
    refine t_val (r_move rfl) rfl ?_
    refine t_eff rfl (e_appends Tryz.underlying46 inf_112 rfl (by decide) rfl rfl (Own.made (xs := []) (n := 0) (by simp) rfl (by decide)) (.refl _) hrd.cons h1 (by simp; omega) (by simp [maxLen]; omega) rfl (by simp) fun v E hO hne => ?_)
    refine t_val (r_assign rfl) rfl ?_
    refine t_nil ?_
    refine Tr.keep (env' := [(2, _)]) ⟨rfl, trivial⟩ ?_
    refine t_then ?_
    refine t_retc ?_
    refine t_ret1 rfl rfl (fun w hw => ?_)
    exact ⟨(v, E), rfl, ⟨by simpa using hO, by simp [hne]⟩, hw⟩
theorem clone_item_c {A : Option Addr} {n c : Nat} {xs : List (List Value)} (hrd : SlRd w0 M 4 A n xs) (h1 : ∀ x ∈ xs, ∀ u ∈ x, u.oneCell' = true) (hnil : A = none → n = 0 ∧ c = 0) (hn : n ≤ 1000000) :
   ∀ w, Ok w0 M w → Calls Tryz.prog 169 #[.slice A n c] w (fun e w' => ∃ x : Value × List Ent, e = .returned x.1 ∧ (Own 107 4 x.1 xs x.2 ∧ (x.1 = .slice none 0 0 ↔ A = none)) ∧ Ok w0 (x.2 ++ M) w') := by
  refine enter (vs := [_]) Tryz.func169 rfl Tryz.ntmps169 rfl ?_
  refine t_seq ?_
  refine t_region ?_
  refine t_val (r_assign rfl) rfl ?_
  refine t_nil ?_
  refine Tr.keep (env' := [(0, _)]) ⟨rfl, trivial⟩ ?_
  refine t_then ?_
  refine t_seq ?_
  refine t_seq ?_
  refine t_region ?_
  refine t_val (r_move rfl) rfl ?_
  refine t_val (r_eqnil_slice Tryz.underlying40 rfl rfl) rfl ?_
  refine t_nil ?_
  refine Tr.keep (env' := [(0, _), (4, _)]) ⟨rfl, rfl, trivial⟩ ?_
  refine t_then ?_
  refine t_cond rfl (fun hnl => ?_) (fun hnl => ?_)
  · obtain rfl : A = none := by simpa using hnl
    obtain ⟨rfl, rfl⟩ := hnil rfl
    obtain rfl : xs = [] := List.length_eq_zero_iff.1 hrd.len
    refine t_seq ?_
    refine t_region ?_
    refine t_val (r_assign rfl) rfl ?_
    refine t_nil ?_
    refine Tr.keep (env' := [(2, _)]) ⟨rfl, trivial⟩ ?_
    refine t_then ?_
    refine t_retc ?_
    refine t_then_ret ?_
    refine t_ret1 rfl rfl (fun w hw => ?_)
    exact ⟨(_, []), rfl, ⟨Own.nil _ _, by simp⟩, hw⟩
  · obtain ⟨a, rfl⟩ : ∃ a, A = some a := by cases A <;> simp_all
    refine t_skip ?_
    refine t_then ?_
    refine t_seq ?_
    refine t_region ?_
    refine t_eff rfl (e_buildSlice (E := 107) (l := []) rfl (fun w => by kernel_rfl) rfl fun b5 => ?_)
    refine t_val (r_move rfl) rfl ?_
    refine t_eff rfl (e_appends Tryz.underlying40 inf_107 rfl (by decide) rfl rfl (Own.made (xs := []) (n := 0) (by simp) rfl (by decide)) (.refl _) hrd.cons h1 (by simp; omega) (by simp [maxLen]; omega) rfl (by simp) fun v E hO hne => ?_)
    refine t_val (r_assign rfl) rfl ?_
    refine t_nil ?_
    refine Tr.keep (env' := [(2, _)]) ⟨rfl, trivial⟩ ?_
    refine t_then ?_
    refine t_retc ?_
    refine t_ret1 rfl rfl (fun w hw => ?_)
    exact ⟨(v, E), rfl, ⟨by simpa using hO, by simp [hne]⟩, hw⟩
theorem clone_line_c {A : Option Addr} {n c : Nat} {xs : List (List Value)} (hrd : SlRd w0 M 4 A n xs) (h1 : ∀ x ∈ xs, ∀ u ∈ x, u.oneCell' = true) (hnil : A = none → n = 0 ∧ c = 0) (hn : n ≤ 1000000) :
   ∀ w, Ok w0 M w → Calls Tryz.prog 86 #[.slice A n c] w (fun e w' => ∃ x : Value × List Ent, e = .returned x.1 ∧ (Own 81 4 x.1 xs x.2 ∧ (x.1 = .slice none 0 0 ↔ A = none)) ∧ Ok w0 (x.2 ++ M) w') := by
  refine enter (vs := [_]) Tryz.func86 rfl Tryz.ntmps86 rfl ?_
  refine t_seq ?_
  refine t_region ?_
  refine t_val (r_assign rfl) rfl ?_
  refine t_nil ?_
  refine Tr.keep (env' := [(0, _)]) ⟨rfl, trivial⟩ ?_
  refine t_then ?_
  refine t_seq ?_
  refine t_seq ?_
  refine t_region ?_
  refine t_val (r_move rfl) rfl ?_
  refine t_val (r_eqnil_slice Tryz.underlying76 rfl rfl) rfl ?_
  refine t_nil ?_
  refine Tr.keep (env' := [(0, _), (4, _)]) ⟨rfl, rfl, trivial⟩ ?_
  refine t_then ?_
  refine t_cond rfl (fun hnl => ?_) (fun hnl => ?_)
  · obtain rfl : A = none := by simpa using hnl
    obtain ⟨rfl, rfl⟩ := hnil rfl
    obtain rfl : xs = [] := List.length_eq_zero_iff.1 hrd.len
    refine t_seq ?_
    refine t_region ?_
    refine t_val (r_assign rfl) rfl ?_
    refine t_nil ?_
    refine Tr.keep (env' := [(2, _)]) ⟨rfl, trivial⟩ ?_
    refine t_then ?_
    refine t_retc ?_
    refine t_then_ret ?_
    refine t_ret1 rfl rfl (fun w hw => ?_)
    exact ⟨(_, []), rfl, ⟨Own.nil _ _, by simp⟩, hw⟩
  · obtain ⟨a, rfl⟩ : ∃ a, A = some a := by cases A <;> simp_all
    refine t_skip ?_
    refine t_then ?_
    refine t_seq ?_
    refine t_region ?_
    refine t_eff rfl (e_buildSlice (E := 81) (l := []) rfl (fun w => by kernel_rfl) rfl fun b5 => ?_)
    refine t_val (r_move rfl) rfl ?_
    refine t_eff rfl (e_appends Tryz.underlying76 inf_81 rfl (by decide) rfl rfl (Own.made (xs := []) (n := 0) (by simp) rfl (by decide)) (.refl _) hrd.cons h1 (by simp; omega) (by simp [maxLen]; omega) rfl (by simp) fun v E hO hne => ?_)
    refine t_val (r_assign rfl) rfl ?_
    refine t_nil ?_
    refine Tr.keep (env' := [(2, _)]) ⟨rfl, trivial⟩ ?_
    refine t_then ?_
    refine t_retc ?_
    refine t_ret1 rfl rfl (fun w hw => ?_)
    exact ⟨(v, E), rfl, ⟨by simpa using hO, by simp [hne]⟩, hw⟩
structure Src where
  kind : Int
  error : Int
def Src.cells (s : Src) : List Value := [.int .i64 s.kind, .int .i64 s.error]
def Src.bad (s : Src) : Bool := decide (s.kind < 1) || decide (3 < s.kind) || !inB s.error 0 10000000
theorem cells_src (s : Src) : s.cells.length = 2 := rfl
def decSrc : List Value → Src
  | [.int _ a, .int _ b] => ⟨a, b⟩
  | _ => ⟨0, 0⟩
@[simp] theorem decSrc_cells (s : Src) : decSrc s.cells = s := rfl
theorem encI_len (i : Int) : (encI i).length = 1 := rfl
def decI : List Value → Int
  | [.int _ a] => a
  | _ => 0
@[simp] theorem decI_enc (i : Int) : decI (encI i) = i := rfl
def fieldB (cars places : Int) (least : List Int) (srcs : List Src) : Bool :=
  !(!inB cars 1 200 || !inB places 2 30 || ((least.length : Int) != places - 1) || decide (50 < (srcs.length : Int))) && (!(least.any fun n => !inB n 0 100000000) && !(srcs.any Src.bad))
theorem fielded1_c (n : Int) : ∀ w, Ok w0 M w → Calls Tryz.prog 233 #[.int .i64 n] w (fun e w' => e = .returned (.bool (!inB n 0 100000000)) ∧ Ok w0 M w') := by
  refine enter (vs := [_]) Tryz.func233 rfl Tryz.ntmps233 rfl ?_
  refine t_seq ?_
  refine t_region ?_
  refine t_val (r_assign rfl) rfl ?_
  refine t_nil ?_
  refine Tr.keep (env' := [(0, _)]) ⟨rfl, trivial⟩ ?_
  refine t_then ?_
  refine t_seq ?_
  refine t_region ?_
  refine t_val (r_move rfl) rfl ?_
  refine t_eff rfl (e_pcall en_111 rfl rfl rfl rfl (wire_within_c _ _ _) ?_)
  refine t_val (r_not rfl) rfl ?_
  refine t_val (r_assign rfl) rfl ?_
  refine t_nil ?_
  refine Tr.keep (env' := [(2, _)]) ⟨rfl, trivial⟩ ?_
  refine t_then ?_
  refine t_retc ?_
  refine t_ret1 rfl rfl (fun w hw => ?_)
  exact ⟨rfl, hw⟩
theorem fielded2_c (s : Src) : ∀ w, Ok w0 M w → Calls Tryz.prog 235 #[.agg s.cells.toArray] w (fun e w' => e = .returned (.bool s.bad) ∧ Ok w0 M w') := by
  refine enter (vs := [_]) Tryz.func235 rfl Tryz.ntmps235 rfl ?_
  refine t_seq ?_
  refine t_region ?_
  refine t_eff rfl (e_box rfl rfl fun b1 => ?_)
  refine t_val (r_assign rfl) rfl ?_
  refine t_nil ?_
  refine Tr.keep (env' := [(1, _)]) ⟨rfl, trivial⟩ ?_
  refine t_then ?_
  refine t_seq ?_
  refine t_region ?_
  refine t_val (r_fa fo_110_0 rfl) rfl ?_
  refine t_val (r_load ca_108 rfl (rd_m (.head _) rfl)) rfl ?_
  refine t_val (r_lt rfl rfl) rfl ?_
  refine t_val (r_move rfl) rfl ?_
  apply t_group_or 4 (s := 6) (d := 10) rfl
  · intro hg1 K hK
    refine g_val hg1 rfl rfl (r_fa fo_110_0 rfl) rfl ?_
    refine g_val hg1 rfl rfl (r_load ca_108 rfl (rd_m (.head _) rfl)) rfl ?_
    refine g_val hg1 rfl rfl (r_gt rfl rfl) rfl ?_
    refine t_val (rp_f hg1 rfl rfl) rfl ?_
    iterate 3 refine Tr.weak2 rfl ?_
    exact hK _ (or_f hg1)
  · intro hg1 K hK
    refine g_skip hg1 rfl rfl rfl rfl ?_
    refine g_skip hg1 rfl rfl rfl rfl ?_
    refine g_skip hg1 rfl rfl rfl rfl ?_
    refine t_val (rp_t hg1 rfl rfl) rfl ?_
    iterate 3 refine Tr.weak2 rfl ?_
    exact hK _ (or_t hg1)
  refine t_val (r_move rfl) rfl ?_
  apply t_group_or 5 (s := 11) (d := 16) rfl
  · intro hg2 K hK
    refine g_val hg2 rfl rfl (r_fa fo_110_1 rfl) rfl ?_
    refine g_val hg2 rfl rfl (r_load ca_3 rfl (rd_m (.head _) rfl)) rfl ?_
    refine g_eff hg2 rfl rfl (e_pcall en_111 rfl rfl rfl rfl (wire_within_c _ _ _) ?_)
    refine g_val hg2 rfl rfl (r_not rfl) rfl ?_
    refine t_val (rp_f hg2 rfl rfl) rfl ?_
    iterate 4 refine Tr.weak2 rfl ?_
    exact hK _ (or_f hg2)
  · intro hg2 K hK
    refine g_skip hg2 rfl rfl rfl rfl ?_
    refine g_skip hg2 rfl rfl rfl rfl ?_
    refine g_skip hg2 rfl rfl rfl rfl ?_
    refine g_skip hg2 rfl rfl rfl rfl ?_
    refine t_val (rp_t hg2 rfl rfl) rfl ?_
    iterate 4 refine Tr.weak2 rfl ?_
    exact hK _ (or_t hg2)
  refine t_val (r_assign rfl) rfl ?_
  refine t_nil ?_
  refine Tr.keep (env' := [(2, _)]) ⟨rfl, trivial⟩ ?_
  refine t_then ?_
  refine t_retc ?_
  refine t_ret1 rfl rfl (fun w hw => ?_)
  exact ⟨rfl, Ok.sub hw (List.sublist_cons_self _ _)⟩
theorem fielded_c {A B : Option Addr} {cA cB nA nB : Nat} {cars places : Int} {least : List Int} {srcs : List Src} (hA : SlRd w0 M 1 A nA (least.map encI)) (hB : SlRd w0 M 2 B nB (srcs.map Src.cells)) :
  ∀ w, Ok w0 M w → Calls Tryz.prog 171 #[.agg #[.int .i64 cars, .int .i64 places, .slice A nA cA], .slice B nB cB] w (fun e w' => e = .returned (.bool (fieldB cars places least srcs)) ∧ Ok w0 M w') := by
  have hnA : nA = least.length := by have := hA.len; simpa using this.symm
  have hnB : nB = srcs.length := by have := hB.len; simpa using this.symm
  subst hnA hnB
  have b1 := hA.big
  refine enter (vs := [_, _]) Tryz.func171 rfl Tryz.ntmps171 rfl ?_
  refine t_seq ?_
  refine t_region ?_
  refine t_eff rfl (e_box rfl rfl fun b2 => ?_)
  refine t_val (r_assign rfl) rfl ?_
  refine t_nil ?_
  refine Tr.keep (env' := [(1, _), (2, _)]) ⟨rfl, rfl, trivial⟩ ?_
  refine t_then ?_
  refine t_seq ?_
  refine t_seq ?_
  refine t_region ?_
  refine t_val (r_fa fo_38_0 rfl) rfl ?_
  refine t_val (r_load ca_3 rfl (rd_m (.head _) rfl)) rfl ?_
  refine t_eff rfl (e_pcall en_111 rfl rfl rfl rfl (wire_within_c _ _ _) ?_)
  refine t_val (r_not rfl) rfl ?_
  refine t_val (r_move rfl) rfl ?_
  apply t_group_or 5 (s := 9) (d := 14) rfl
  · intro hg1 K hK
    refine g_val hg1 rfl rfl (r_fa fo_38_1 rfl) rfl ?_
    refine g_val hg1 rfl rfl (r_load ca_3 rfl (rd_m (.head _) rfl)) rfl ?_
    refine g_eff hg1 rfl rfl (e_pcall en_111 rfl rfl rfl rfl (wire_within_c _ _ _) ?_)
    refine g_val hg1 rfl rfl (r_not rfl) rfl ?_
    refine t_val (rp_f hg1 rfl rfl) rfl ?_
    iterate 4 refine Tr.weak2 rfl ?_
    exact hK _ (or_f hg1)
  · intro hg1 K hK
    refine g_skip hg1 rfl rfl rfl rfl ?_
    refine g_skip hg1 rfl rfl rfl rfl ?_
    refine g_skip hg1 rfl rfl rfl rfl ?_
    refine g_skip hg1 rfl rfl rfl rfl ?_
    refine t_val (rp_t hg1 rfl rfl) rfl ?_
    iterate 4 refine Tr.weak2 rfl ?_
    exact hK _ (or_t hg1)
  refine t_val (r_move rfl) rfl ?_
  apply t_group_or 8 (s := 15) (d := 23) rfl
  · intro hg2 K hK
    refine g_val hg2 rfl rfl (r_fa fo_38_2 rfl) rfl ?_
    refine g_val hg2 rfl rfl (r_load ca_36 rfl (rd_m (.head _) rfl)) rfl ?_
    refine g_val hg2 rfl rfl (r_len_slice Tryz.underlying36 rfl) rfl ?_
    refine g_val hg2 rfl rfl (r_fa fo_38_1 rfl) rfl ?_
    refine g_val hg2 rfl rfl (r_load ca_3 rfl (rd_m (.head _) rfl)) rfl ?_
    refine g_val hg2 rfl rfl (r_subi rfl rfl (by have h9 := hg2; simp [inB] at h9; omega)) rfl ?_
    refine g_val hg2 rfl rfl (r_ne rfl rfl) rfl ?_
    refine t_val (rp_f hg2 rfl rfl) rfl ?_
    iterate 7 refine Tr.weak2 rfl ?_
    exact hK _ (or_f hg2)
  · intro hg2 K hK
    refine g_skip hg2 rfl rfl rfl rfl ?_
    refine g_skip hg2 rfl rfl rfl rfl ?_
    refine g_skip hg2 rfl rfl rfl rfl ?_
    refine g_skip hg2 rfl rfl rfl rfl ?_
    refine g_skip hg2 rfl rfl rfl rfl ?_
    refine g_skip hg2 rfl rfl rfl rfl ?_
    refine g_skip hg2 rfl rfl rfl rfl ?_
    refine t_val (rp_t hg2 rfl rfl) rfl ?_
    iterate 7 refine Tr.weak2 rfl ?_
    exact hK _ (or_t hg2)
  refine t_val (r_move rfl) rfl ?_
  apply t_group_or 4 (s := 24) (d := 28) rfl
  · intro hg3 K hK
    refine g_val hg3 rfl rfl (r_move rfl) rfl ?_
    refine g_val hg3 rfl rfl (r_len_slice Tryz.underlying39 rfl) rfl ?_
    refine g_val hg3 rfl rfl (r_gt rfl rfl) rfl ?_
    refine t_val (rp_f hg3 rfl rfl) rfl ?_
    iterate 3 refine Tr.weak2 rfl ?_
    exact hK _ (or_f hg3)
  · intro hg3 K hK
    refine g_skip hg3 rfl rfl rfl rfl ?_
    refine g_skip hg3 rfl rfl rfl rfl ?_
    refine g_skip hg3 rfl rfl rfl rfl ?_
    refine t_val (rp_t hg3 rfl rfl) rfl ?_
    iterate 3 refine Tr.weak2 rfl ?_
    exact hK _ (or_t hg3)
  refine t_nil ?_
  refine Tr.keep (env' := [(1, _), (2, _), (28, _)]) ⟨rfl, rfl, rfl, trivial⟩ ?_
  refine t_then ?_
  refine t_cond rfl (fun hv => ?_) (fun hv => ?_)
  · skip
    refine t_seq ?_
    refine t_region ?_
    refine t_val (r_assign rfl) rfl ?_
    refine t_nil ?_
    refine Tr.keep (env' := [(4, _)]) ⟨rfl, trivial⟩ ?_
    refine t_then ?_
    refine t_retc ?_
    refine t_then_ret ?_
    refine t_ret1 rfl rfl (fun w hw => ?_)
    refine ⟨?_, Ok.sub hw (List.sublist_cons_self _ _)⟩
    unfold fieldB; rw [hv]; rfl
  · skip
    refine t_skip ?_
    refine t_then ?_
    refine t_seq ?_
    refine t_region ?_
    refine t_val (r_fa fo_38_2 rfl) rfl ?_
    refine t_val (r_load ca_36 rfl (rd_m (.head _) rfl)) rfl ?_
    refine t_eff rfl (e_pcall en_232 rfl rfl rfl rfl (containsFunc_int_c (fun y => !inB (decI y) 0 100000000) en_233 hA.cons (by
          intro y hy v hv; obtain ⟨x, hx, rfl⟩ := List.mem_map.1 hy
          obtain rfl : v = .int .i64 x := by simpa [encI] using hv.symm
          exact fielded1_c x)) ?_)
    refine t_val (r_not rfl) rfl ?_
    refine t_val (r_move rfl) rfl ?_
    apply t_group_and 4 (s := 33) (d := 37) rfl
    · intro hg5 K hK
      refine g_val hg5 rfl rfl (r_move rfl) rfl ?_
      refine g_eff hg5 rfl rfl (e_pcall en_234 rfl rfl rfl rfl (containsFunc_source_c (fun y => (decSrc y).bad) en_235 hB.cons (by
            intro y hy; obtain ⟨x, hx, rfl⟩ := List.mem_map.1 hy
            exact fielded2_c x)) ?_)
      refine g_val hg5 rfl rfl (r_not rfl) rfl ?_
      refine t_val (rp_t hg5 rfl rfl) rfl ?_
      iterate 3 refine Tr.weak2 rfl ?_
      exact hK _ (and_t hg5)
    · intro hg5 K hK
      refine g_skip hg5 rfl rfl rfl rfl ?_
      refine g_skip hg5 rfl rfl rfl rfl ?_
      refine g_skip hg5 rfl rfl rfl rfl ?_
      refine t_val (rp_f hg5 rfl rfl) rfl ?_
      iterate 3 refine Tr.weak2 rfl ?_
      exact hK _ (and_f hg5)
    refine t_val (r_assign rfl) rfl ?_
    refine t_nil ?_
    refine Tr.keep (env' := [(4, _)]) ⟨rfl, trivial⟩ ?_
    refine t_then ?_
    refine t_retc ?_
    refine t_ret1 rfl rfl (fun w hw => ?_)
    refine ⟨?_, Ok.sub hw (List.sublist_cons_self _ _)⟩
    unfold fieldB; rw [hv]; simp [List.any_map, Function.comp_def]
structure Rep where
  source : Int
  number : Int
  kind : Int
  car : Int
  place : Int
  time : Int
  deriving DecidableEq
def Rep.ints (r : Rep) : List Int := [r.source, r.number, r.kind, r.car, r.place, r.time, 0]
def Rep.cellsAt (r : Rep) (t : Int) : List Value := [.int .i64 r.source, .int .i64 r.number, .int .i64 r.kind, .int .i64 r.car, .int .i64 r.place, .int .i64 r.time, .int .i64 t]
abbrev Rep.enc (r : Rep) : Value := .agg (icells r.ints).toArray
theorem Rep.inj (a b : Rep) (h : a.ints = b.ints) : a = b := by
  cases a; cases b; simp [Rep.ints] at h; simp [h]
theorem keyRep : KeyK Tryz.prog 228 Rep.enc := KeyK.ints Rep.ints Tryz.underlying228 (by kernel_rfl) (by
  intro j f h
  match j, h with
  | 0, h => cases h; exact ⟨by decide, rfl, Tryz.underlying3⟩
  | 1, h => cases h; exact ⟨by decide, rfl, Tryz.underlying3⟩
  | 2, h => cases h; exact ⟨by decide, rfl, Tryz.underlying226⟩
  | 3, h => cases h; exact ⟨by decide, rfl, Tryz.underlying3⟩
  | 4, h => cases h; exact ⟨by decide, rfl, Tryz.underlying3⟩
  | 5, h => cases h; exact ⟨by decide, rfl, Tryz.underlying3⟩
  | 6, h => cases h; exact ⟨by decide, rfl, Tryz.underlying3⟩
  | j + 7, h => simp at h) (fun _ => rfl) Rep.inj
structure WLog where
  cars : Int
  places : Int
  least : List Int
  srcs : List Src
  kv : List (Rep × Int)
structure WAt where
  b : Nat
  lv : Value
  lE : List Ent
  sv : Value
  sE : List Ent
  mb : Nat
def WLog.cells (g : WLog) (l : WAt) : List Value := [.int .i64 g.cars, .int .i64 g.places, l.lv, l.sv, .map (some l.mb)]
def encT (t : Int) : Value := .int .i64 t
abbrev kvs (l : List (Rep × Int)) : List (Rep × Value) := l.map fun p => (p.1, encT p.2)
abbrev WLog.eb (g : WLog) (l : WAt) : Ent := cel l.b 128 (g.cells l)
abbrev WLog.em (g : WLog) (l : WAt) : Ent := mpe l.mb Rep.enc (kvs g.kv)
structure WLog.Lies (g : WLog) (l : WAt) : Prop where
  least : Own 3 1 l.lv (g.least.map encI) l.lE
  srcs : Own 110 2 l.sv (g.srcs.map Src.cells) l.sE
theorem wire_new_yes {A B : Option Addr} {cA cB nA nB : Nat} {cars places : Int} {least : List Int} {srcs : List Src} (hA : SlRd w0 M 1 A nA (least.map encI)) (hB : SlRd w0 M 2 B nB (srcs.map Src.cells)) (hyes : fieldB cars places least srcs = true)
   (hnA : A = none → nA = 0 ∧ cA = 0) (hnB : B = none → nB = 0 ∧ cB = 0) (hln : nA ≤ 1000000) (hsn : nB ≤ 1000000) :
  ∀ w, Ok w0 M w → Calls Tryz.prog 90 #[.agg #[.int .i64 cars, .int .i64 places, .slice A nA cA], .slice B nB cB] w (fun e w' => ∃ l : WAt, e = .returned (.tuple #[.pointer (some ⟨l.b, 0, none⟩), .int .i64 0]) ∧ (⟨cars, places, least, srcs, []⟩ : WLog).Lies l ∧
    Ok w0 ((⟨cars, places, least, srcs, []⟩ : WLog).eb l :: (⟨cars, places, least, srcs, []⟩ : WLog).em l :: (l.lE ++ (l.sE ++ M))) w') := by
  refine enter (vs := [_, _]) Tryz.func90 rfl Tryz.ntmps90 rfl ?_
  refine t_seq ?_
  refine t_region ?_
  refine t_eff rfl (e_box rfl rfl fun b2 => ?_)
  refine t_val (r_assign rfl) rfl ?_
  refine t_val (r_assign rfl) rfl ?_
  refine t_nil ?_
  refine Tr.keep (env' := [(1, _), (2, _)]) ⟨rfl, rfl, trivial⟩ ?_
  refine t_then ?_
  refine t_seq ?_
  refine t_seq ?_
  refine t_region ?_
  refine t_val (r_loads ca_38 rfl (rds_m (n := 3) (vs := [_, _, _]) (.head _) rfl) rfl) rfl ?_
  refine t_val (r_move rfl) rfl ?_
  refine t_eff rfl (e_pcall en_171 rfl rfl rfl rfl (fielded_c hA.cons hB.cons) ?_)
  refine t_val (r_not rfl) rfl ?_
  refine t_nil ?_
  refine Tr.keep (env' := [(1, _), (2, _), (9, _)]) ⟨rfl, rfl, rfl, trivial⟩ ?_
  refine t_then ?_
  refine t_cond rfl (fun hv => ?_) (fun hv => ?_)
  · rw [hyes] at hv; exact absurd hv (by decide)
  · skip
    refine t_skip ?_
    refine t_then ?_
    refine t_seq ?_
    refine t_region ?_
    refine t_val (r_fa fo_38_2 rfl) rfl ?_
    refine t_val (r_load ca_36 rfl (rd_m (.head _) rfl)) rfl ?_
    refine t_eff rfl (e_call en_85 rfl rfl rfl rfl (clone_int_c hA.cons (by intro x hx; obtain ⟨y, _, rfl⟩ := List.mem_map.1 hx; simp [encI, Value.oneCell']) hnA hln) fun x hx => ?_)
    obtain ⟨lv, lE⟩ := x
    obtain ⟨hlO, hlnil⟩ := hx
    dsimp only at hlO hlnil ⊢
    refine t_val (r_fa fo_38_2 rfl) rfl ?_
    refine t_eff rfl (e_store iz_36 rfl rfl (Own.one hlO) (.succ (.succ .zero)) (.right .here) ?_)
    refine t_nil ?_
    refine Tr.keep (env' := [(1, _), (2, _)]) ⟨rfl, rfl, trivial⟩ ?_
    refine t_then ?_
    refine t_seq ?_
    refine Tr.keep (env' := [(1, _), (2, _)]) ⟨rfl, rfl, trivial⟩ ?_
    refine t_cutx (α := WAt) (fun l => [(4, .pointer (some ⟨l.b, 0, none⟩)), (5, .int .i64 0)]) (fun l => (⟨cars, places, least, srcs, []⟩ : WLog).eb l :: (⟨cars, places, least, srcs, []⟩ : WLog).em l :: (l.lE ++ (l.sE ++ M))) (fun l => (⟨cars, places, least, srcs, []⟩ : WLog).Lies l) ?_ ?_
    · intro K hK
      refine d_begin mixed rfl ?_
      refine d_val 0 rfl (by kernel_rfl) (by kernel_rfl) (by kernel_rfl) (.then (.then .body)) (.refl _) rfl (r_loads ca_38 rfl (rds_m (n := 3) (vs := [_, _, _]) (List.mem_append_right _ (.head _)) rfl) rfl) ?_
      refine d_val 1 rfl (by kernel_rfl) (by kernel_rfl) (by kernel_rfl) (.then (.then .body)) (.refl _) rfl (r_move rfl) ?_
      refine d_eff2 2 3 rfl rfl  rfl rfl  (by kernel_rfl) ?_ ?_
      · refine (e_call en_168 rfl rfl rfl rfl (clone_source_c (hB.sub (List.Sublist.trans (.cons _ (.refl _)) (List.sublist_append_right _ _))) (by intro x hx; obtain ⟨y, _, rfl⟩ := List.mem_map.1 hx; simp [Src.cells, Value.oneCell']) hnB hsn) fun x hx => ?_)
        obtain ⟨sv, sE⟩ := x
        obtain ⟨hsO, hsnil⟩ := hx
        dsimp only at hsO hsnil ⊢
        obtain ⟨sA, sc, hsv, _⟩ := Own.len hsO
        subst hsv
        refine d_held (List.Sublist.trans (.refl _) (List.sublist_append_right _ _)) ?_
        refine d_eff 3 rfl rfl (by kernel_rfl) (e_makeMap (Rep.enc) rfl fun b17 => ?_)
        refine d_held (.cons _ (List.Sublist.trans (.refl _) (List.sublist_append_right _ _))) ?_
        refine d_val 4 rfl (by kernel_rfl) (by kernel_rfl) (by kernel_rfl) (.then (.then .body)) (.cons _ (List.Sublist.trans (.refl _) (List.sublist_append_right _ _))) rfl (r_build rfl (v := .agg #[.int .i64 cars, .int .i64 places, lv, .slice sA (srcs.map Src.cells).length sc, .map (some b17)]) (fun w => by kernel_rfl)) ?_
        refine d_eff 5 rfl rfl (by kernel_rfl) (e_box rfl rfl fun b19 => ?_)
        refine d_held (.cons _ (.cons _ (List.Sublist.trans (.refl _) (List.sublist_append_right _ _)))) ?_
        refine d_val 6 rfl (by kernel_rfl) (by kernel_rfl) (by kernel_rfl) (.then (.then .body)) (.cons _ (.cons _ (List.Sublist.trans (.refl _) (List.sublist_append_right _ _)))) rfl (r_assign rfl) ?_
        refine d_val 7 rfl (by kernel_rfl) (by kernel_rfl) (by kernel_rfl) (.then (.then .body)) (.cons _ (.cons _ (List.Sublist.trans (.refl _) (List.sublist_append_right _ _)))) rfl (r_assign rfl) ?_
        refine d_end (by kernel_rfl) ?_
        exact t_thenX (hK ⟨b19, lv, lE, _, sE, b17⟩ ⟨hlO, hsO⟩) ⟨rfl, rfl, trivial⟩ (pk .here (pk .here (pkb (.right .here) (pkb .here (.refl _))))) (.cons_cons _ (.cons_cons _ (List.Sublist.append (.refl _) (List.Sublist.append (.refl _) (.cons _ (.refl _))))))
      · refine (e_makeMap (Rep.enc) rfl fun b17 => ?_)
        refine d_held (.cons _ (.refl _)) ?_
        refine d_eff 2 rfl rfl (by kernel_rfl) (e_call en_168 rfl rfl rfl rfl (clone_source_c (hB.sub (.cons _ (List.Sublist.trans (.cons _ (.refl _)) (List.sublist_append_right _ _)))) (by intro x hx; obtain ⟨y, _, rfl⟩ := List.mem_map.1 hx; simp [Src.cells, Value.oneCell']) hnB hsn) fun x hx => ?_)
        obtain ⟨sv, sE⟩ := x
        obtain ⟨hsO, hsnil⟩ := hx
        dsimp only at hsO hsnil ⊢
        obtain ⟨sA, sc, hsv, _⟩ := Own.len hsO
        subst hsv
        refine d_held (List.Sublist.trans (.cons _ (.refl _)) (List.sublist_append_right _ _)) ?_
        refine d_val 4 rfl (by kernel_rfl) (by kernel_rfl) (by kernel_rfl) (.then (.then .body)) (List.Sublist.trans (.cons _ (.refl _)) (List.sublist_append_right _ _)) rfl (r_build rfl (v := .agg #[.int .i64 cars, .int .i64 places, lv, .slice sA (srcs.map Src.cells).length sc, .map (some b17)]) (fun w => by kernel_rfl)) ?_
        refine d_eff 5 rfl rfl (by kernel_rfl) (e_box rfl rfl fun b19 => ?_)
        refine d_held (.cons _ (List.Sublist.trans (.cons _ (.refl _)) (List.sublist_append_right _ _))) ?_
        refine d_val 6 rfl (by kernel_rfl) (by kernel_rfl) (by kernel_rfl) (.then (.then .body)) (.cons _ (List.Sublist.trans (.cons _ (.refl _)) (List.sublist_append_right _ _))) rfl (r_assign rfl) ?_
        refine d_val 7 rfl (by kernel_rfl) (by kernel_rfl) (by kernel_rfl) (.then (.then .body)) (.cons _ (List.Sublist.trans (.cons _ (.refl _)) (List.sublist_append_right _ _))) rfl (r_assign rfl) ?_
        refine d_end (by kernel_rfl) ?_
        exact t_thenX (hK ⟨b19, lv, lE, _, sE, b17⟩ ⟨hlO, hsO⟩) ⟨rfl, rfl, trivial⟩ (pk .here (pk (.right .here) (pkb (.right .here) (pkb .here (.refl _))))) (.cons_cons _ (.cons_cons _ (List.Sublist.append (.refl _) (List.Sublist.append (.refl _) (.cons _ (.refl _))))))
    intro l hl
    refine Tr.keep (env' := [(4, _), (5, _)]) ⟨rfl, rfl, trivial⟩ ?_
    refine t_then ?_
    refine t_retc ?_
    refine t_ret2 rfl rfl rfl (fun w hw => ?_)
    exact ⟨l, rfl, hl, hw⟩
end
end Go.Proofs.W
set_option linter.unusedVariables false
set_option linter.unusedSimpArgs false
set_option linter.unusedSectionVars false
set_option maxRecDepth 100000
namespace Go.Proofs.W
open Go Go.Sl Go.RowKit Go.Proofs
theorem ca_126 : cellsAs Tryz.prog 126 = some (none) := by kernel_rfl
theorem ca_226 : cellsAs Tryz.prog 226 = some (none) := by kernel_rfl
theorem ca_39 : cellsAs Tryz.prog 39 = some (none) := by kernel_rfl
theorem ca_52 : cellsAs Tryz.prog 52 = some (none) := by kernel_rfl
theorem en_110 : Enters Tryz.prog 110 := enters_of Tryz.func110 (by kernel_rfl) (by kernel_rfl)
theorem en_274 : Enters Tryz.prog 274 := enters_of Tryz.func274 (by kernel_rfl) (by kernel_rfl)
theorem fo_128_0 : fieldOff Tryz.prog 128 0 = some 0 := by kernel_rfl
theorem fo_128_1 : fieldOff Tryz.prog 128 1 = some 3 := by kernel_rfl
theorem fo_128_2 : fieldOff Tryz.prog 128 2 = some 4 := by kernel_rfl
theorem fo_228_0 : fieldOff Tryz.prog 228 0 = some 0 := by kernel_rfl
theorem fo_228_1 : fieldOff Tryz.prog 228 1 = some 1 := by kernel_rfl
theorem fo_228_2 : fieldOff Tryz.prog 228 2 = some 2 := by kernel_rfl
theorem fo_228_3 : fieldOff Tryz.prog 228 3 = some 3 := by kernel_rfl
theorem fo_228_4 : fieldOff Tryz.prog 228 4 = some 4 := by kernel_rfl
theorem fo_228_5 : fieldOff Tryz.prog 228 5 = some 5 := by kernel_rfl
theorem fo_228_6 : fieldOff Tryz.prog 228 6 = some 6 := by kernel_rfl
theorem inf_228 : (Tryz.prog.info? 228).map (fun i => (i.zero, i.size, i.bytes)) = some (some (.agg #[.int .i64 0, .int .i64 0, .int .i64 0, .int .i64 0, .int .i64 0, .int .i64 0, .int .i64 0]), 7, 56) := by kernel_rfl
structure WLog.Fine (g : WLog) : Prop where
  cars : 1 ≤ g.cars ∧ g.cars ≤ 200
  places : 2 ≤ g.places ∧ g.places ≤ 30
  least : (g.least.length : Int) = g.places - 1
  srcs : g.srcs.length ≤ 50
def WLog.rightB (g : WLog) (r : Rep) (a : Int) : Bool :=
  bif (!inB r.source 0 ((g.srcs.length : Int) - 1) || !inB r.number 0 1000000000) || !inB a 0 1000000000000 then false
  else bif r.kind == 4 then inB r.car 0 (r.number - 1) && (r.place == 0) && (r.time == 0)
  else bif !inB r.car 1 g.cars || !inB r.place 0 (g.places - 1) then false
  else bif r.kind == 1 || r.kind == 2 then inB r.time 0 1000000000000
  else bif r.kind == 3 then r.time == 0 else false
section
variable {w0 : World} {M : List Ent}
theorem wire_ready_c {g : WLog} {l : WAt} (hb : g.eb l ∈ M) : ∀ w, Ok w0 M w → Calls Tryz.prog 110 #[.pointer (some ⟨l.b, 0, none⟩)] w (fun e w' => e = .returned (.bool true) ∧ Ok w0 M w') := by
  refine enter (vs := [_]) Tryz.func110 rfl Tryz.ntmps110 rfl ?_
  refine t_seq ?_
  refine t_region ?_
  refine t_val (r_assign rfl) rfl ?_
  refine t_nil ?_
  refine Tr.keep (env' := [(0, _)]) ⟨rfl, trivial⟩ ?_
  refine t_then ?_
  refine t_seq ?_
  refine t_region ?_
  refine t_val (r_move rfl) rfl ?_
  refine t_val (r_nenil Tryz.underlying52 rfl rfl) rfl ?_
  refine t_val (r_move rfl) rfl ?_
  apply t_group_and 6 (s := 5) (d := 11) rfl
  · intro hg1 K hK
    refine g_val hg1 rfl rfl (r_move rfl) rfl ?_
    refine g_val hg1 rfl rfl (r_nilCheck rfl) rfl ?_
    refine g_val hg1 rfl rfl (r_fa fo_128_2 rfl) rfl ?_
    refine g_val hg1 rfl rfl (r_load ca_126 rfl (rd_m hb rfl)) rfl ?_
    refine g_val hg1 rfl rfl (r_nenil_map Tryz.underlying126 rfl rfl) rfl ?_
    refine t_val (rp_t hg1 rfl rfl) rfl ?_
    iterate 5 refine Tr.weak2 rfl ?_
    exact hK _ (and_t hg1)
  · intro hg1 K hK
    refine g_skip hg1 rfl rfl rfl rfl ?_
    refine g_skip hg1 rfl rfl rfl rfl ?_
    refine g_skip hg1 rfl rfl rfl rfl ?_
    refine g_skip hg1 rfl rfl rfl rfl ?_
    refine g_skip hg1 rfl rfl rfl rfl ?_
    refine t_val (rp_f hg1 rfl rfl) rfl ?_
    iterate 5 refine Tr.weak2 rfl ?_
    exact hK _ (and_f hg1)
  refine t_val (r_assign rfl) rfl ?_
  refine t_nil ?_
  refine Tr.keep (env' := [(2, _)]) ⟨rfl, trivial⟩ ?_
  refine t_then ?_
  refine t_retc ?_
  refine t_ret1 rfl rfl (fun w hw => ?_)
  exact ⟨rfl, hw⟩
theorem wire_right_c {g : WLog} {l : WAt} (r : Rep) (a : Int) (hb : g.eb l ∈ M) (hsv : Own 110 2 l.sv (g.srcs.map Src.cells) l.sE) (hf : g.Fine) : ∀ w, Ok w0 M w → Calls Tryz.prog 274 #[.pointer (some ⟨l.b, 0, none⟩), .agg (r.cellsAt a).toArray] w (fun e w' => e = .returned (.bool (g.rightB r a)) ∧ Ok w0 M w') := by
  obtain ⟨sA, sc, hsv', hlen⟩ := Own.len hsv
  have h1 := hf.srcs; have h2 := hf.places
  have hn : (g.srcs.map Src.cells).length = g.srcs.length := by simp
  rw [hn] at hsv'
  have hb : cel l.b 128 [.int .i64 g.cars, .int .i64 g.places, l.lv, .slice sA g.srcs.length sc, .map (some l.mb)] ∈ M := by rw [← hsv']; exact hb
  refine enter (vs := [_, _]) Tryz.func274 rfl Tryz.ntmps274 rfl ?_
  refine t_seq ?_
  refine t_region ?_
  refine t_eff rfl (e_box rfl rfl fun b3 => ?_)
  refine t_val (r_assign rfl) rfl ?_
  refine t_nil ?_
  refine Tr.keep (env' := [(0, _), (3, _)]) ⟨rfl, rfl, trivial⟩ ?_
  refine t_then ?_
  refine t_seq ?_
  refine t_seq ?_
  refine Tr.keep (env' := [(0, _), (3, _)]) ⟨rfl, rfl, trivial⟩ ?_
  refine t_cutu [(26, .bool ((!inB r.source 0 ((g.srcs.length : Int) - 1) || !inB r.number 0 1000000000) || !inB a 0 1000000000000))] (fun K hK => ?_) ?_
  · skip
    refine d_begin mixed rfl ?_
    refine d_val 0 rfl (by kernel_rfl) (by kernel_rfl) (by kernel_rfl) (.then (.then (.then .body))) (.refl _) rfl (r_fa fo_228_0 rfl) ?_
    refine d_val 1 rfl (by kernel_rfl) (by kernel_rfl) (by kernel_rfl) (.then (.then (.then .body))) (.refl _) rfl (r_load ca_3 rfl (rd_m (.head _) rfl)) ?_
    refine d_val 2 rfl (by kernel_rfl) (by kernel_rfl) (by kernel_rfl) (.then (.then (.then .body))) (.refl _) rfl (r_move rfl) ?_
    refine d_val 3 rfl (by kernel_rfl) (by kernel_rfl) (by kernel_rfl) (.then (.then (.then .body))) (.refl _) rfl (r_nilCheck rfl) ?_
    refine d_val 4 rfl (by kernel_rfl) (by kernel_rfl) (by kernel_rfl) (.then (.then (.then .body))) (.refl _) rfl (r_fa fo_128_1 rfl) ?_
    refine d_val 5 rfl (by kernel_rfl) (by kernel_rfl) (by kernel_rfl) (.then (.then (.then .body))) (.refl _) rfl (r_load ca_39 rfl (rd_m (.tail _ hb) rfl)) ?_
    refine d_val 6 rfl (by kernel_rfl) (by kernel_rfl) (by kernel_rfl) (.then (.then (.then .body))) (.refl _) rfl (r_len_slice Tryz.underlying39 rfl) ?_
    refine d_val 7 rfl (by kernel_rfl) (by kernel_rfl) (by kernel_rfl) (.then (.then (.then .body))) (.refl _) rfl (r_subi rfl rfl (by omega)) ?_
    refine d_eff 8 rfl rfl (by kernel_rfl) (e_pcall en_111 rfl rfl rfl rfl (wire_within_c _ _ _) ?_)
    refine d_held (.refl _) ?_
    refine d_val 9 rfl (by kernel_rfl) (by kernel_rfl) (by kernel_rfl) (.then (.then (.then .body))) (.refl _) rfl (r_not rfl) ?_
    refine d_val 10 rfl (by kernel_rfl) (by kernel_rfl) (by kernel_rfl) (.then (.then (.then .body))) (.refl _) rfl (r_move rfl) ?_
    refine t_cases_at (s := 15) rfl (fun hd1 => ?_) (fun hd1 => ?_)
    · skip
      refine dg_skip 11 hd1 rfl (by kernel_rfl) (by kernel_rfl) (by kernel_rfl) (.then (.then (.then .body))) (.refl _) rfl rfl rfl rfl ?_
      refine dg_skip 12 hd1 rfl (by kernel_rfl) (by kernel_rfl) (by kernel_rfl) (.then (.then (.then .body))) (.refl _) rfl rfl rfl rfl ?_
      refine dg_skip 13 hd1 rfl (by kernel_rfl) (by kernel_rfl) (by kernel_rfl) (.then (.then (.then .body))) (.refl _) rfl rfl rfl rfl ?_
      refine dg_skip 14 hd1 rfl (by kernel_rfl) (by kernel_rfl) (by kernel_rfl) (.then (.then (.then .body))) (.refl _) rfl rfl rfl rfl ?_
      refine d_val 15 rfl (by kernel_rfl) (by kernel_rfl) (by kernel_rfl) (.then (.then (.then .body))) (.refl _) rfl (rp_t hd1 rfl rfl) ?_
      refine d_val 16 rfl (by kernel_rfl) (by kernel_rfl) (by kernel_rfl) (.then (.then (.then .body))) (.refl _) rfl (r_move rfl) ?_
      refine d_gskip 17 rfl (by kernel_rfl) (by kernel_rfl) (by kernel_rfl) (.then (.then (.then .body))) (.refl _) rfl rfl rfl rfl ?_
      refine d_gskip 18 rfl (by kernel_rfl) (by kernel_rfl) (by kernel_rfl) (.then (.then (.then .body))) (.refl _) rfl rfl rfl rfl ?_
      refine d_gskip 19 rfl (by kernel_rfl) (by kernel_rfl) (by kernel_rfl) (.then (.then (.then .body))) (.refl _) rfl rfl rfl rfl ?_
      refine d_gskip 20 rfl (by kernel_rfl) (by kernel_rfl) (by kernel_rfl) (.then (.then (.then .body))) (.refl _) rfl rfl rfl rfl ?_
      refine d_val 21 rfl (by kernel_rfl) (by kernel_rfl) (by kernel_rfl) (.then (.then (.then .body))) (.refl _) rfl (r_pick_t rfl rfl) ?_
      refine d_end (by kernel_rfl) ?_
      exact t_thenK hK ⟨(by first | (simp [Env.get, hd1]; done) | exact absurd hd1 (by decide) | (simp_all [Env.get]; done)), rfl, rfl, trivial⟩ (.refl _)
    · skip
      refine dg_val 11 hd1 rfl (by kernel_rfl) (by kernel_rfl) (by kernel_rfl) (.then (.then (.then .body))) (.refl _) rfl rfl rfl (r_fa fo_228_1 rfl) ?_
      refine dg_val 12 hd1 rfl (by kernel_rfl) (by kernel_rfl) (by kernel_rfl) (.then (.then (.then .body))) (.refl _) rfl rfl rfl (r_load ca_3 rfl (rd_m (.head _) rfl)) ?_
      refine dg_eff 13 hd1 rfl (by kernel_rfl) rfl rfl (e_pcall en_111 rfl rfl rfl rfl (wire_within_c _ _ _) ?_)
      refine d_held (.refl _) ?_
      refine dg_val 14 hd1 rfl (by kernel_rfl) (by kernel_rfl) (by kernel_rfl) (.then (.then (.then .body))) (.refl _) rfl rfl rfl (r_not rfl) ?_
      refine d_val 15 rfl (by kernel_rfl) (by kernel_rfl) (by kernel_rfl) (.then (.then (.then .body))) (.refl _) rfl (rp_f hd1 rfl rfl) ?_
      refine d_val 16 rfl (by kernel_rfl) (by kernel_rfl) (by kernel_rfl) (.then (.then (.then .body))) (.refl _) rfl (r_move rfl) ?_
      refine t_cases_at (s := 21) rfl (fun hd2 => ?_) (fun hd2 => ?_)
      · skip
        refine dg_skip 17 hd2 rfl (by kernel_rfl) (by kernel_rfl) (by kernel_rfl) (.then (.then (.then .body))) (.refl _) rfl rfl rfl rfl ?_
        refine dg_skip 18 hd2 rfl (by kernel_rfl) (by kernel_rfl) (by kernel_rfl) (.then (.then (.then .body))) (.refl _) rfl rfl rfl rfl ?_
        refine dg_skip 19 hd2 rfl (by kernel_rfl) (by kernel_rfl) (by kernel_rfl) (.then (.then (.then .body))) (.refl _) rfl rfl rfl rfl ?_
        refine dg_skip 20 hd2 rfl (by kernel_rfl) (by kernel_rfl) (by kernel_rfl) (.then (.then (.then .body))) (.refl _) rfl rfl rfl rfl ?_
        refine d_val 21 rfl (by kernel_rfl) (by kernel_rfl) (by kernel_rfl) (.then (.then (.then .body))) (.refl _) rfl (rp_t hd2 rfl rfl) ?_
        refine d_end (by kernel_rfl) ?_
        exact t_thenK hK ⟨(by first | (simp [Env.get, hd1, hd2]; done) | exact absurd hd1 (by decide) | exact absurd hd2 (by decide) | (simp_all [Env.get]; done)), rfl, rfl, trivial⟩ (.refl _)
      · skip
        refine dg_val 17 hd2 rfl (by kernel_rfl) (by kernel_rfl) (by kernel_rfl) (.then (.then (.then .body))) (.refl _) rfl rfl rfl (r_fa fo_228_6 rfl) ?_
        refine dg_val 18 hd2 rfl (by kernel_rfl) (by kernel_rfl) (by kernel_rfl) (.then (.then (.then .body))) (.refl _) rfl rfl rfl (r_load ca_3 rfl (rd_m (.head _) rfl)) ?_
        refine dg_eff 19 hd2 rfl (by kernel_rfl) rfl rfl (e_pcall en_111 rfl rfl rfl rfl (wire_within_c _ _ _) ?_)
        refine d_held (.refl _) ?_
        refine dg_val 20 hd2 rfl (by kernel_rfl) (by kernel_rfl) (by kernel_rfl) (.then (.then (.then .body))) (.refl _) rfl rfl rfl (r_not rfl) ?_
        refine d_val 21 rfl (by kernel_rfl) (by kernel_rfl) (by kernel_rfl) (.then (.then (.then .body))) (.refl _) rfl (rp_f hd2 rfl rfl) ?_
        refine d_end (by kernel_rfl) ?_
        exact t_thenK hK ⟨(by first | (simp [Env.get, hd1, hd2]; done) | exact absurd hd1 (by decide) | exact absurd hd2 (by decide) | (simp_all [Env.get]; done)), rfl, rfl, trivial⟩ (.refl _)
  refine Tr.keep (env' := [(0, _), (3, _), (26, _)]) ⟨rfl, rfl, rfl, trivial⟩ ?_
  refine t_then ?_
  refine t_cond rfl (fun hv1 => ?_) (fun hv1 => ?_)
  · skip
    refine t_seq ?_
    refine t_region ?_
    refine t_val (r_assign rfl) rfl ?_
    refine t_nil ?_
    refine Tr.keep (env' := [(4, _)]) ⟨rfl, trivial⟩ ?_
    refine t_then ?_
    refine t_retc ?_
    refine t_then_ret ?_
    refine t_ret1 rfl rfl (fun w hw => ?_)
    refine ⟨?_, Ok.sub hw (List.sublist_cons_self _ _)⟩
    unfold WLog.rightB; rw [hv1]; rfl
  · skip
    refine t_skip ?_
    refine t_then ?_
    refine t_seq ?_
    refine t_seq ?_
    refine t_region ?_
    refine t_val (r_fa fo_228_2 rfl) rfl ?_
    refine t_val (r_load ca_226 rfl (rd_m (.head _) rfl)) rfl ?_
    refine t_val (r_eq rfl rfl) rfl ?_
    refine t_nil ?_
    refine Tr.keep (env' := [(0, _), (3, _), (29, _)]) ⟨rfl, rfl, rfl, trivial⟩ ?_
    refine t_then ?_
    refine t_cond rfl (fun hv2 => ?_) (fun hv2 => ?_)
    · skip
      refine t_seq ?_
      refine t_region ?_
      refine t_val (r_fa fo_228_3 rfl) rfl ?_
      refine t_val (r_load ca_3 rfl (rd_m (.head _) rfl)) rfl ?_
      refine t_val (r_fa fo_228_1 rfl) rfl ?_
      refine t_val (r_load ca_3 rfl (rd_m (.head _) rfl)) rfl ?_
      refine t_val (r_subi rfl rfl (by have h9 := hv1; simp [inB] at h9; omega)) rfl ?_
      refine t_eff rfl (e_pcall en_111 rfl rfl rfl rfl (wire_within_c _ _ _) ?_)
      refine t_val (r_move rfl) rfl ?_
      apply t_group_and 4 (s := 36) (d := 40) rfl
      · intro hg5 K hK
        refine g_val hg5 rfl rfl (r_fa fo_228_4 rfl) rfl ?_
        refine g_val hg5 rfl rfl (r_load ca_3 rfl (rd_m (.head _) rfl)) rfl ?_
        refine g_val hg5 rfl rfl (r_eq rfl rfl) rfl ?_
        refine t_val (rp_t hg5 rfl rfl) rfl ?_
        iterate 3 refine Tr.weak2 rfl ?_
        exact hK _ (and_t hg5)
      · intro hg5 K hK
        refine g_skip hg5 rfl rfl rfl rfl ?_
        refine g_skip hg5 rfl rfl rfl rfl ?_
        refine g_skip hg5 rfl rfl rfl rfl ?_
        refine t_val (rp_f hg5 rfl rfl) rfl ?_
        iterate 3 refine Tr.weak2 rfl ?_
        exact hK _ (and_f hg5)
      refine t_val (r_move rfl) rfl ?_
      apply t_group_and 4 (s := 41) (d := 45) rfl
      · intro hg6 K hK
        refine g_val hg6 rfl rfl (r_fa fo_228_5 rfl) rfl ?_
        refine g_val hg6 rfl rfl (r_load ca_3 rfl (rd_m (.head _) rfl)) rfl ?_
        refine g_val hg6 rfl rfl (r_eq rfl rfl) rfl ?_
        refine t_val (rp_t hg6 rfl rfl) rfl ?_
        iterate 3 refine Tr.weak2 rfl ?_
        exact hK _ (and_t hg6)
      · intro hg6 K hK
        refine g_skip hg6 rfl rfl rfl rfl ?_
        refine g_skip hg6 rfl rfl rfl rfl ?_
        refine g_skip hg6 rfl rfl rfl rfl ?_
        refine t_val (rp_f hg6 rfl rfl) rfl ?_
        iterate 3 refine Tr.weak2 rfl ?_
        exact hK _ (and_f hg6)
      refine t_val (r_assign rfl) rfl ?_
      refine t_nil ?_
      refine Tr.keep (env' := [(4, _)]) ⟨rfl, trivial⟩ ?_
      refine t_then ?_
      refine t_retc ?_
      refine t_then_ret ?_
      refine t_ret1 rfl rfl (fun w hw => ?_)
      refine ⟨?_, Ok.sub hw (List.sublist_cons_self _ _)⟩
      simp_all [WLog.rightB]
    · skip
      refine t_skip ?_
      refine t_then ?_
      refine t_seq ?_
      refine t_seq ?_
      refine Tr.keep (env' := [(0, _), (3, _)]) ⟨rfl, rfl, trivial⟩ ?_
      refine t_cutu [(66, .bool (!inB r.car 1 g.cars || !inB r.place 0 (g.places - 1)))] (fun K hK => ?_) ?_
      · skip
        refine d_begin mixed rfl ?_
        refine d_val 0 rfl (by kernel_rfl) (by kernel_rfl) (by kernel_rfl) (.then (.then (.then .body))) (.refl _) rfl (r_fa fo_228_3 rfl) ?_
        refine d_val 1 rfl (by kernel_rfl) (by kernel_rfl) (by kernel_rfl) (.then (.then (.then .body))) (.refl _) rfl (r_load ca_3 rfl (rd_m (.head _) rfl)) ?_
        refine d_val 2 rfl (by kernel_rfl) (by kernel_rfl) (by kernel_rfl) (.then (.then (.then .body))) (.refl _) rfl (r_move rfl) ?_
        refine d_val 3 rfl (by kernel_rfl) (by kernel_rfl) (by kernel_rfl) (.then (.then (.then .body))) (.refl _) rfl (r_nilCheck rfl) ?_
        refine d_val 4 rfl (by kernel_rfl) (by kernel_rfl) (by kernel_rfl) (.then (.then (.then .body))) (.refl _) rfl (r_fa fo_128_0 rfl) ?_
        refine d_val 5 rfl (by kernel_rfl) (by kernel_rfl) (by kernel_rfl) (.then (.then (.then .body))) (.refl _) rfl (r_fa fo_38_0 rfl) ?_
        refine d_val 6 rfl (by kernel_rfl) (by kernel_rfl) (by kernel_rfl) (.then (.then (.then .body))) (.refl _) rfl (r_load ca_3 rfl (rd_m (.tail _ hb) rfl)) ?_
        refine d_eff 7 rfl rfl (by kernel_rfl) (e_pcall en_111 rfl rfl rfl rfl (wire_within_c _ _ _) ?_)
        refine d_held (.refl _) ?_
        refine d_val 8 rfl (by kernel_rfl) (by kernel_rfl) (by kernel_rfl) (.then (.then (.then .body))) (.refl _) rfl (r_not rfl) ?_
        refine d_val 9 rfl (by kernel_rfl) (by kernel_rfl) (by kernel_rfl) (.then (.then (.then .body))) (.refl _) rfl (r_move rfl) ?_
        refine t_cases_at (s := 55) rfl (fun hd7 => ?_) (fun hd7 => ?_)
        · skip
          refine dg_skip 10 hd7 rfl (by kernel_rfl) (by kernel_rfl) (by kernel_rfl) (.then (.then (.then .body))) (.refl _) rfl rfl rfl rfl ?_
          refine dg_skip 11 hd7 rfl (by kernel_rfl) (by kernel_rfl) (by kernel_rfl) (.then (.then (.then .body))) (.refl _) rfl rfl rfl rfl ?_
          refine dg_skip 12 hd7 rfl (by kernel_rfl) (by kernel_rfl) (by kernel_rfl) (.then (.then (.then .body))) (.refl _) rfl rfl rfl rfl ?_
          refine dg_skip 13 hd7 rfl (by kernel_rfl) (by kernel_rfl) (by kernel_rfl) (.then (.then (.then .body))) (.refl _) rfl rfl rfl rfl ?_
          refine dg_skip 14 hd7 rfl (by kernel_rfl) (by kernel_rfl) (by kernel_rfl) (.then (.then (.then .body))) (.refl _) rfl rfl rfl rfl ?_
          refine dg_skip 15 hd7 rfl (by kernel_rfl) (by kernel_rfl) (by kernel_rfl) (.then (.then (.then .body))) (.refl _) rfl rfl rfl rfl ?_
          refine dg_skip 16 hd7 rfl (by kernel_rfl) (by kernel_rfl) (by kernel_rfl) (.then (.then (.then .body))) (.refl _) rfl rfl rfl rfl ?_
          refine dg_skip 17 hd7 rfl (by kernel_rfl) (by kernel_rfl) (by kernel_rfl) (.then (.then (.then .body))) (.refl _) rfl rfl rfl rfl ?_
          refine dg_skip 18 hd7 rfl (by kernel_rfl) (by kernel_rfl) (by kernel_rfl) (.then (.then (.then .body))) (.refl _) rfl rfl rfl rfl ?_
          refine dg_skip 19 hd7 rfl (by kernel_rfl) (by kernel_rfl) (by kernel_rfl) (.then (.then (.then .body))) (.refl _) rfl rfl rfl rfl ?_
          refine d_val 20 rfl (by kernel_rfl) (by kernel_rfl) (by kernel_rfl) (.then (.then (.then .body))) (.refl _) rfl (rp_t hd7 rfl rfl) ?_
          refine d_end (by kernel_rfl) ?_
          exact t_thenK hK ⟨(by first | (simp [Env.get, hd7]; done) | exact absurd hd7 (by decide) | (simp_all [Env.get]; done)), rfl, rfl, trivial⟩ (.refl _)
        · skip
          refine dg_val 10 hd7 rfl (by kernel_rfl) (by kernel_rfl) (by kernel_rfl) (.then (.then (.then .body))) (.refl _) rfl rfl rfl (r_fa fo_228_4 rfl) ?_
          refine dg_val 11 hd7 rfl (by kernel_rfl) (by kernel_rfl) (by kernel_rfl) (.then (.then (.then .body))) (.refl _) rfl rfl rfl (r_load ca_3 rfl (rd_m (.head _) rfl)) ?_
          refine dg_val 12 hd7 rfl (by kernel_rfl) (by kernel_rfl) (by kernel_rfl) (.then (.then (.then .body))) (.refl _) rfl rfl rfl (r_move rfl) ?_
          refine dg_val 13 hd7 rfl (by kernel_rfl) (by kernel_rfl) (by kernel_rfl) (.then (.then (.then .body))) (.refl _) rfl rfl rfl (r_nilCheck rfl) ?_
          refine dg_val 14 hd7 rfl (by kernel_rfl) (by kernel_rfl) (by kernel_rfl) (.then (.then (.then .body))) (.refl _) rfl rfl rfl (r_fa fo_128_0 rfl) ?_
          refine dg_val 15 hd7 rfl (by kernel_rfl) (by kernel_rfl) (by kernel_rfl) (.then (.then (.then .body))) (.refl _) rfl rfl rfl (r_fa fo_38_1 rfl) ?_
          refine dg_val 16 hd7 rfl (by kernel_rfl) (by kernel_rfl) (by kernel_rfl) (.then (.then (.then .body))) (.refl _) rfl rfl rfl (r_load ca_3 rfl (rd_m (.tail _ hb) rfl)) ?_
          refine dg_val 17 hd7 rfl (by kernel_rfl) (by kernel_rfl) (by kernel_rfl) (.then (.then (.then .body))) (.refl _) rfl rfl rfl (r_subi rfl rfl (by omega)) ?_
          refine dg_eff 18 hd7 rfl (by kernel_rfl) rfl rfl (e_pcall en_111 rfl rfl rfl rfl (wire_within_c _ _ _) ?_)
          refine d_held (.refl _) ?_
          refine dg_val 19 hd7 rfl (by kernel_rfl) (by kernel_rfl) (by kernel_rfl) (.then (.then (.then .body))) (.refl _) rfl rfl rfl (r_not rfl) ?_
          refine d_val 20 rfl (by kernel_rfl) (by kernel_rfl) (by kernel_rfl) (.then (.then (.then .body))) (.refl _) rfl (rp_f hd7 rfl rfl) ?_
          refine d_end (by kernel_rfl) ?_
          exact t_thenK hK ⟨(by first | (simp [Env.get, hd7]; done) | exact absurd hd7 (by decide) | (simp_all [Env.get]; done)), rfl, rfl, trivial⟩ (.refl _)
      refine Tr.keep (env' := [(3, _), (66, _)]) ⟨rfl, rfl, trivial⟩ ?_
      refine t_then ?_
      refine t_cond rfl (fun hv3 => ?_) (fun hv3 => ?_)
      · skip
        refine t_seq ?_
        refine t_region ?_
        refine t_val (r_assign rfl) rfl ?_
        refine t_nil ?_
        refine Tr.keep (env' := [(4, _)]) ⟨rfl, trivial⟩ ?_
        refine t_then ?_
        refine t_retc ?_
        refine t_then_ret ?_
        refine t_ret1 rfl rfl (fun w hw => ?_)
        refine ⟨?_, Ok.sub hw (List.sublist_cons_self _ _)⟩
        unfold WLog.rightB; rw [hv1, hv2, hv3]; rfl
      · skip
        refine t_skip ?_
        refine t_then ?_
        refine t_seq ?_
        refine t_seq ?_
        refine t_region ?_
        refine t_val (r_fa fo_228_2 rfl) rfl ?_
        refine t_val (r_load ca_226 rfl (rd_m (.head _) rfl)) rfl ?_
        refine t_nil ?_
        refine Tr.keep (env' := [(3, _), (68, _)]) ⟨rfl, rfl, trivial⟩ ?_
        refine t_then ?_
        refine t_block ?_
        refine t_seq ?_
        refine t_seq ?_
        refine t_region ?_
        refine t_val (r_eq rfl rfl) rfl ?_
        refine t_val (r_assign rfl) rfl ?_
        refine t_nil ?_
        refine Tr.keep (env' := [(3, _), (68, _), (69, _)]) ⟨rfl, rfl, rfl, trivial⟩ ?_
        refine t_then ?_
        refine t_cond rfl (fun hc9 => ?_) (fun hc9 => ?_)
        · skip
          refine t_skip ?_
          refine t_then ?_
          refine t_cond rfl (fun hc10 => ?_) (fun hc10 => ?_)
          · skip
            refine t_seq ?_
            refine t_region ?_
            refine t_val (r_fa fo_228_5 rfl) rfl ?_
            refine t_val (r_load ca_3 rfl (rd_m (.head _) rfl)) rfl ?_
            refine t_eff rfl (e_pcall en_111 rfl rfl rfl rfl (wire_within_c _ _ _) ?_)
            refine t_val (r_assign rfl) rfl ?_
            refine t_nil ?_
            refine Tr.keep (env' := [(4, _)]) ⟨rfl, trivial⟩ ?_
            refine t_then ?_
            refine t_retc ?_
            refine t_in_ret ?_
            refine t_then_ret ?_
            refine t_ret1 rfl rfl (fun w hw => ?_)
            refine ⟨?_, Ok.sub hw (List.sublist_cons_self _ _)⟩
            simp_all [WLog.rightB]
          · skip
            refine t_seq ?_
            refine t_region ?_
            refine t_val (r_eq rfl rfl) rfl ?_
            refine t_val (r_assign rfl) rfl ?_
            refine t_nil ?_
            refine Tr.keep (env' := [(3, _), (75, _)]) ⟨rfl, rfl, trivial⟩ ?_
            refine t_then ?_
            refine t_cond rfl (fun hc11 => ?_) (fun hc11 => ?_)
            · skip
              refine t_seq ?_
              refine t_region ?_
              refine t_val (r_fa fo_228_5 rfl) rfl ?_
              refine t_val (r_load ca_3 rfl (rd_m (.head _) rfl)) rfl ?_
              refine t_val (r_eq rfl rfl) rfl ?_
              refine t_val (r_assign rfl) rfl ?_
              refine t_nil ?_
              refine Tr.keep (env' := [(4, _)]) ⟨rfl, trivial⟩ ?_
              refine t_then ?_
              refine t_retc ?_
              refine t_in_ret ?_
              refine t_then_ret ?_
              refine t_ret1 rfl rfl (fun w hw => ?_)
              refine ⟨?_, Ok.sub hw (List.sublist_cons_self _ _)⟩
              simp_all [WLog.rightB]
            · skip
              refine t_skip ?_
              refine t_in ?_
              refine t_then ?_
              refine t_seq ?_
              refine t_region ?_
              refine t_val (r_assign rfl) rfl ?_
              refine t_nil ?_
              refine Tr.keep (env' := [(4, _)]) ⟨rfl, trivial⟩ ?_
              refine t_then ?_
              refine t_retc ?_
              refine t_ret1 rfl rfl (fun w hw => ?_)
              refine ⟨?_, Ok.sub hw (List.sublist_cons_self _ _)⟩
              simp_all [WLog.rightB]
        · skip
          refine t_region ?_
          refine t_val (r_eq rfl rfl) rfl ?_
          refine t_val (r_assign rfl) rfl ?_
          refine t_nil ?_
          refine Tr.keep (env' := [(3, _), (68, _), (69, _)]) ⟨rfl, rfl, rfl, trivial⟩ ?_
          refine t_then ?_
          refine t_cond rfl (fun hc12 => ?_) (fun hc12 => ?_)
          · skip
            refine t_seq ?_
            refine t_region ?_
            refine t_val (r_fa fo_228_5 rfl) rfl ?_
            refine t_val (r_load ca_3 rfl (rd_m (.head _) rfl)) rfl ?_
            refine t_eff rfl (e_pcall en_111 rfl rfl rfl rfl (wire_within_c _ _ _) ?_)
            refine t_val (r_assign rfl) rfl ?_
            refine t_nil ?_
            refine Tr.keep (env' := [(4, _)]) ⟨rfl, trivial⟩ ?_
            refine t_then ?_
            refine t_retc ?_
            refine t_in_ret ?_
            refine t_then_ret ?_
            refine t_ret1 rfl rfl (fun w hw => ?_)
            refine ⟨?_, Ok.sub hw (List.sublist_cons_self _ _)⟩
            simp_all [WLog.rightB]
          · skip
            refine t_seq ?_
            refine t_region ?_
            refine t_val (r_eq rfl rfl) rfl ?_
            refine t_val (r_assign rfl) rfl ?_
            refine t_nil ?_
            refine Tr.keep (env' := [(3, _), (75, _)]) ⟨rfl, rfl, trivial⟩ ?_
            refine t_then ?_
            refine t_cond rfl (fun hc13 => ?_) (fun hc13 => ?_)
            · skip
              refine t_seq ?_
              refine t_region ?_
              refine t_val (r_fa fo_228_5 rfl) rfl ?_
              refine t_val (r_load ca_3 rfl (rd_m (.head _) rfl)) rfl ?_
              refine t_val (r_eq rfl rfl) rfl ?_
              refine t_val (r_assign rfl) rfl ?_
              refine t_nil ?_
              refine Tr.keep (env' := [(4, _)]) ⟨rfl, trivial⟩ ?_
              refine t_then ?_
              refine t_retc ?_
              refine t_in_ret ?_
              refine t_then_ret ?_
              refine t_ret1 rfl rfl (fun w hw => ?_)
              refine ⟨?_, Ok.sub hw (List.sublist_cons_self _ _)⟩
              simp_all [WLog.rightB]
            · skip
              refine t_skip ?_
              refine t_in ?_
              refine t_then ?_
              refine t_seq ?_
              refine t_region ?_
              refine t_val (r_assign rfl) rfl ?_
              refine t_nil ?_
              refine Tr.keep (env' := [(4, _)]) ⟨rfl, trivial⟩ ?_
              refine t_then ?_
              refine t_retc ?_
              refine t_ret1 rfl rfl (fun w hw => ?_)
              refine ⟨?_, Ok.sub hw (List.sublist_cons_self _ _)⟩
              simp_all [WLog.rightB]
theorem plain_c (r : Rep) (a : Int) : ∀ w, Ok w0 M w → Calls Tryz.prog 276 #[.agg (r.cellsAt a).toArray] w (fun e w' => e = .returned (.agg (r.cellsAt 0).toArray) ∧ Ok w0 M w') := by
  refine enter (vs := [_]) Tryz.func276 rfl Tryz.ntmps276 rfl ?_
  refine t_seq ?_
  refine t_region ?_
  refine t_eff rfl (e_box rfl rfl fun b1 => ?_)
  refine t_eff rfl (e_alloc inf_228 (l := [.int .i64 0, .int .i64 0, .int .i64 0, .int .i64 0, .int .i64 0, .int .i64 0, .int .i64 0]) rfl rfl fun b2 => ?_)
  refine t_nil ?_
  refine Tr.keep (env' := [(1, _), (2, _)]) ⟨rfl, rfl, trivial⟩ ?_
  refine t_then ?_
  refine t_seq ?_
  refine t_region ?_
  refine t_val (r_fa fo_228_6 rfl) rfl ?_
  refine t_eff rfl (e_store iz_3 rfl rfl rfl (.succ (.succ (.succ (.succ (.succ (.succ .zero)))))) (.there .here) ?_)
  refine t_nil ?_
  refine Tr.keep (env' := [(1, _), (2, _)]) ⟨rfl, rfl, trivial⟩ ?_
  refine t_then ?_
  refine t_seq ?_
  refine t_region ?_
  refine t_val (r_loads ca_228 rfl (rds_m (n := 7) (vs := [_, _, _, _, _, _, _]) (.tail _ (.head _)) rfl) rfl) rfl ?_
  refine t_eff rfl (e_stores iz_228 rfl rfl (vs := [_, _, _, _, _, _, _]) rfl rfl (by simp [Value.oneCell']) (.cons .zero (.cons (.succ .zero) (.cons (.succ (.succ .zero)) (.cons (.succ (.succ (.succ .zero))) (.cons (.succ (.succ (.succ (.succ .zero)))) (.cons (.succ (.succ (.succ (.succ (.succ .zero))))) (.cons (.succ (.succ (.succ (.succ (.succ (.succ .zero)))))) .nil))))))) .here ?_)
  refine t_nil ?_
  refine Tr.keep (env' := [(2, _)]) ⟨rfl, trivial⟩ ?_
  refine t_then ?_
  refine t_retc ?_
  refine t_ret1c rfl ca_228 rfl (rds_m (n := 7) (vs := [_, _, _, _, _, _, _]) (.head _) rfl) rfl (fun w hw => ?_)
  exact ⟨rfl, Ok.sub hw (.cons _ (.cons _ (.refl _)))⟩
theorem wire_add1_c {g : WLog} {l : WAt} {pb : Nat} (r : Rep) (a : Int) (hb : g.eb l ∈ M) (hsv : Own 110 2 l.sv (g.srcs.map Src.cells) l.sE) (hf : g.Fine) (hp : cel pb 52 [.pointer (some ⟨l.b, 0, none⟩)] ∈ M) : ∀ w, Ok w0 M w → Calls Tryz.prog 273 #[.agg (r.cellsAt a).toArray, .pointer (some ⟨pb, 0, none⟩)] w (fun e w' => e = .returned (.bool (!g.rightB r a)) ∧ Ok w0 M w') := by
  refine enter (vs := [_, _]) Tryz.func273 rfl Tryz.ntmps273 rfl ?_
  refine t_seq ?_
  refine t_region ?_
  refine t_eff rfl (e_box rfl rfl fun b2 => ?_)
  refine t_val (r_assign rfl) rfl ?_
  refine t_nil ?_
  refine Tr.keep (env' := [(1, _), (2, _)]) ⟨rfl, rfl, trivial⟩ ?_
  refine t_then ?_
  refine t_seq ?_
  refine t_region ?_
  refine t_val (r_load ca_52 rfl (rd_m (.tail _ hp) rfl)) rfl ?_
  refine t_val (r_loads ca_228 rfl (rds_m (n := 7) (vs := [_, _, _, _, _, _, _]) (.head _) rfl) rfl) rfl ?_
  refine t_eff rfl (e_pcall en_274 rfl rfl rfl rfl (wire_right_c r a (.tail _ hb) hsv hf) ?_)
  refine t_val (r_not rfl) rfl ?_
  refine t_val (r_assign rfl) rfl ?_
  refine t_nil ?_
  refine Tr.keep (env' := [(3, _)]) ⟨rfl, trivial⟩ ?_
  refine t_then ?_
  refine t_retc ?_
  refine t_ret1 rfl rfl (fun w hw => ?_)
  exact ⟨rfl, Ok.sub hw (List.sublist_cons_self _ _)⟩
theorem wire_check_c {g : WLog} {l : WAt} (car place moment : Int) (hb : g.eb l ∈ M) (hf : g.Fine) : ∀ w, Ok w0 M w → Calls Tryz.prog 51 #[.pointer (some ⟨l.b, 0, none⟩), .int .i64 car, .int .i64 place, .int .i64 moment] w
   (fun e w' => e = .returned (.int .i64 (bif (!inB car 1 g.cars || !inB place 0 (g.places - 1)) || !inB moment 0 1000000000000 then 2 else 0)) ∧ Ok w0 M w') := by
  have h2 := hf.places
  refine enter (vs := [_, _, _, _]) Tryz.func51 rfl Tryz.ntmps51 rfl ?_
  refine t_seq ?_
  refine t_region ?_
  refine t_val (r_assign rfl) rfl ?_
  refine t_nil ?_
  refine Tr.keep (env' := [(0, _), (1, _), (2, _), (3, _)]) ⟨rfl, rfl, rfl, rfl, trivial⟩ ?_
  refine t_then ?_
  refine t_seq ?_
  refine t_seq ?_
  refine t_region ?_
  refine t_val (r_move rfl) rfl ?_
  refine t_eff rfl (e_pcall en_110 rfl rfl rfl rfl (wire_ready_c hb) ?_)
  refine t_val (r_not rfl) rfl ?_
  refine t_nil ?_
  refine Tr.keep (env' := [(0, _), (1, _), (2, _), (3, _), (11, _)]) ⟨rfl, rfl, rfl, rfl, rfl, trivial⟩ ?_
  refine t_then ?_
  refine t_cond rfl (fun hr => ?_) (fun hr => ?_)
  · exact absurd hr (by decide)
  · skip
    refine t_skip ?_
    refine t_then ?_
    refine t_seq ?_
    refine t_seq ?_
    refine t_region ?_
    refine t_val (r_move rfl) rfl ?_
    refine t_val (r_move rfl) rfl ?_
    refine t_val (r_nilCheck rfl) rfl ?_
    refine t_val (r_fa fo_128_0 rfl) rfl ?_
    refine t_val (r_fa fo_38_0 rfl) rfl ?_
    refine t_val (r_load ca_3 rfl (rd_m hb rfl)) rfl ?_
    refine t_eff rfl (e_pcall en_111 rfl rfl rfl rfl (wire_within_c _ _ _) ?_)
    refine t_val (r_not rfl) rfl ?_
    refine t_val (r_move rfl) rfl ?_
    apply t_group_or 10 (s := 20) (d := 30) rfl
    · intro hg2 K hK
      refine g_val hg2 rfl rfl (r_move rfl) rfl ?_
      refine g_val hg2 rfl rfl (r_move rfl) rfl ?_
      refine g_val hg2 rfl rfl (r_nilCheck rfl) rfl ?_
      refine g_val hg2 rfl rfl (r_fa fo_128_0 rfl) rfl ?_
      refine g_val hg2 rfl rfl (r_fa fo_38_1 rfl) rfl ?_
      refine g_val hg2 rfl rfl (r_load ca_3 rfl (rd_m hb rfl)) rfl ?_
      refine g_val hg2 rfl rfl (r_subi rfl rfl (by omega)) rfl ?_
      refine g_eff hg2 rfl rfl (e_pcall en_111 rfl rfl rfl rfl (wire_within_c _ _ _) ?_)
      refine g_val hg2 rfl rfl (r_not rfl) rfl ?_
      refine t_val (rp_f hg2 rfl rfl) rfl ?_
      iterate 9 refine Tr.weak2 rfl ?_
      exact hK _ (or_f hg2)
    · intro hg2 K hK
      refine g_skip hg2 rfl rfl rfl rfl ?_
      refine g_skip hg2 rfl rfl rfl rfl ?_
      refine g_skip hg2 rfl rfl rfl rfl ?_
      refine g_skip hg2 rfl rfl rfl rfl ?_
      refine g_skip hg2 rfl rfl rfl rfl ?_
      refine g_skip hg2 rfl rfl rfl rfl ?_
      refine g_skip hg2 rfl rfl rfl rfl ?_
      refine g_skip hg2 rfl rfl rfl rfl ?_
      refine g_skip hg2 rfl rfl rfl rfl ?_
      refine t_val (rp_t hg2 rfl rfl) rfl ?_
      iterate 9 refine Tr.weak2 rfl ?_
      exact hK _ (or_t hg2)
    refine t_val (r_move rfl) rfl ?_
    apply t_group_or 4 (s := 31) (d := 35) rfl
    · intro hg3 K hK
      refine g_val hg3 rfl rfl (r_move rfl) rfl ?_
      refine g_eff hg3 rfl rfl (e_pcall en_111 rfl rfl rfl rfl (wire_within_c _ _ _) ?_)
      refine g_val hg3 rfl rfl (r_not rfl) rfl ?_
      refine t_val (rp_f hg3 rfl rfl) rfl ?_
      iterate 3 refine Tr.weak2 rfl ?_
      exact hK _ (or_f hg3)
    · intro hg3 K hK
      refine g_skip hg3 rfl rfl rfl rfl ?_
      refine g_skip hg3 rfl rfl rfl rfl ?_
      refine g_skip hg3 rfl rfl rfl rfl ?_
      refine t_val (rp_t hg3 rfl rfl) rfl ?_
      iterate 3 refine Tr.weak2 rfl ?_
      exact hK _ (or_t hg3)
    refine t_nil ?_
    refine Tr.keep (env' := [(35, _)]) ⟨rfl, trivial⟩ ?_
    refine t_then ?_
    refine t_cond rfl (fun hv => ?_) (fun hv => ?_)
    · skip
      refine t_seq ?_
      refine t_region ?_
      refine t_val (r_assign rfl) rfl ?_
      refine t_nil ?_
      refine Tr.keep (env' := [(8, _)]) ⟨rfl, trivial⟩ ?_
      refine t_then ?_
      refine t_retc ?_
      refine t_then_ret ?_
      refine t_ret1 rfl rfl (fun w hw => ?_)
      refine ⟨?_, hw⟩
      rw [hv]; rfl
    · skip
      refine t_skip ?_
      refine t_then ?_
      refine t_seq ?_
      refine t_region ?_
      refine t_val (r_assign rfl) rfl ?_
      refine t_nil ?_
      refine Tr.keep (env' := [(8, _)]) ⟨rfl, trivial⟩ ?_
      refine t_then ?_
      refine t_retc ?_
      refine t_ret1 rfl rfl (fun w hw => ?_)
      refine ⟨?_, hw⟩
      rw [hv]; rfl
end
end Go.Proofs.W
set_option linter.unusedVariables false
set_option linter.unusedSimpArgs false
set_option linter.unusedSectionVars false
set_option maxRecDepth 100000
namespace Go.Proofs.W
open Go Go.Sl Go.RowKit Go.Proofs
theorem en_272 : Enters Tryz.prog 272 := enters_of Tryz.func272 (by kernel_rfl) (by kernel_rfl)
theorem en_273 : Enters Tryz.prog 273 := enters_of Tryz.func273 (by kernel_rfl) (by kernel_rfl)
theorem en_275 : Enters Tryz.prog 275 := enters_of Tryz.func275 (by kernel_rfl) (by kernel_rfl)
theorem en_276 : Enters Tryz.prog 276 := enters_of Tryz.func276 (by kernel_rfl) (by kernel_rfl)
theorem iz_126 : (Tryz.prog.info? 126).map (·.size) = some 1 := by kernel_rfl
theorem xt_306_mapsClone : IsExt Tryz.prog 306 Extern.MapsClone.clone := ⟨_, Tryz.func306, by kernel_rfl, by kernel_rfl, by kernel_rfl, by kernel_rfl⟩
def WLog.add (g : WLog) (r : Rep) (a : Int) : WLog :=
  { g with kv := match aget r g.kv with
    | none => aput r a g.kv
    | some t => if a < t then aput r a g.kv else g.kv }
section
variable {w0 : World} {M : List Ent}
def decRep : List Value → Rep × Int
  | [.int _ a, .int _ b, .int _ c, .int _ d, .int _ e, .int _ f, .int _ t] => (⟨a, b, c, d, e, f⟩, t)
  | _ => (⟨0, 0, 0, 0, 0, 0⟩, 0)
@[simp] theorem decRep_cells (r : Rep) (t : Int) : decRep (r.cellsAt t) = (r, t) := rfl
theorem mapsClone_c {b : Nat} {l : List (Rep × Value)} (hm : mpe b Rep.enc l ∈ M) : ∀ w, Ok w0 M w → Calls Tryz.prog 275 #[.map (some b)] w (fun e w' => ∃ b', e = .returned (.map (some b')) ∧ True ∧ Ok w0 (mpe b' Rep.enc l :: M) w') := by
  refine enter (vs := [_]) Tryz.func275 rfl Tryz.ntmps275 rfl ?_
  refine t_seq ?_
  refine t_region ?_
  refine t_val (r_assign rfl) rfl ?_
  refine t_nil ?_
  refine Tr.keep (env' := [(0, _)]) ⟨rfl, trivial⟩ ?_
  refine t_then ?_
  refine t_seq ?_
  refine t_seq ?_
  refine t_region ?_
  refine t_val (r_move rfl) rfl ?_
  refine t_val (r_eqnil_map Tryz.underlying126 rfl rfl) rfl ?_
  refine t_nil ?_
  refine Tr.keep (env' := [(0, _), (4, _)]) ⟨rfl, rfl, trivial⟩ ?_
  refine t_then ?_
  refine t_cond rfl (fun hn => ?_) (fun hn => ?_)
  · cases hn
  · skip
    refine t_skip ?_
    refine t_then ?_
    refine t_seq ?_
    refine t_region ?_
    refine t_val (r_move rfl) rfl ?_
    refine t_val (r_makeInterface Tryz.underlying126 (by simp) rfl) rfl ?_
    refine t_eff rfl ?_
    refine e_mapsCloneX (T := 126) (b := b) (enc := Rep.enc) (l := l) ?_ ?_ ?_ ?_ ?_
    · exact xt_306_mapsClone
    · rfl
    · exact hm
    · rfl
    intro b7
    refine t_val (r_typeAssert Tryz.underlying126 (by simp) rfl) rfl ?_
    refine t_val (r_assign rfl) rfl ?_
    refine t_nil ?_
    refine Tr.keep (env' := [(2, _)]) ⟨rfl, trivial⟩ ?_
    refine t_then ?_
    refine t_retc ?_
    refine t_ret1 rfl rfl (fun w hw => ?_)
    exact ⟨b7, rfl, trivial, hw⟩
theorem wire_add_new {g : WLog} {l : WAt} {Fr : List Ent} {rb : Nat} (r : Rep) (a : Int) (hsv : Own 110 2 l.sv (g.srcs.map Src.cells) l.sE) (hf : g.Fine) (hrb : cel rb 228 (r.cellsAt a) ∈ Fr) (hok : g.rightB r a = true) (hnew : aget r g.kv = none) (hl5 : g.kv.length < 5000) :
   ∀ w, Ok w0 (g.eb l :: g.em l :: Fr) w → Calls Tryz.prog 216 #[.pointer (some ⟨l.b, 0, none⟩), .slice (some ⟨rb, 0, none⟩) 1 1] w (fun e w' => ∃ mb, e = .returned (.int .i64 0) ∧ True ∧ Ok w0 ((g.add r a).eb { l with mb := mb } :: (g.add r a).em { l with mb := mb } :: Fr) w') := by
  have hlen : (g.kv.length : Int) + 1 ≤ 5000 := by omega
  have hput : ∀ v, mput r (encT v) (kvs g.kv) = kvs (g.kv ++ [(r, v)]) := fun v => by rw [mput_map encT, aput_new hnew]
  have hget : mget r (kvs g.kv) = none := by rw [mget_map encT, hnew]; rfl
  have hadd : g.add r a = { g with kv := g.kv ++ [(r, a)] } := by simp [WLog.add, hnew, aput_new hnew]
  refine enter (vs := [_, _]) Tryz.func216 rfl Tryz.ntmps216 rfl ?_
  refine t_seq ?_
  refine t_region ?_
  refine t_eff rfl (e_box1 rfl rfl rfl fun b2 => ?_)
  refine t_val (r_assign rfl) rfl ?_
  refine t_nil ?_
  refine Tr.keep (env' := [(1, _), (2, _)]) ⟨rfl, rfl, trivial⟩ ?_
  refine t_then ?_
  refine t_seq ?_
  refine t_seq ?_
  refine t_region ?_
  refine t_val (r_load ca_52 rfl (rd_m (.head _) rfl)) rfl ?_
  refine t_eff rfl (e_pcall en_110 rfl rfl rfl rfl (wire_ready_c (g := g) (l := l) (.tail _ (.head _))) ?_)
  refine t_val (r_not rfl) rfl ?_
  refine t_nil ?_
  refine Tr.keep (env' := [(1, _), (2, _), (13, _)]) ⟨rfl, rfl, rfl, trivial⟩ ?_
  refine t_then ?_
  refine t_cond rfl (fun hr => ?_) (fun hr => ?_)
  · exact absurd hr (by decide)
  · skip
    refine t_skip ?_
    refine t_then ?_
    refine t_seq ?_
    refine t_seq ?_
    refine t_region ?_
    refine t_val (r_move rfl) rfl ?_
    refine t_val (r_makeFunc rfl rfl) rfl ?_
    refine t_eff rfl (e_pcall en_272 rfl rfl rfl rfl (containsFunc_report_c (fun y => !g.rightB (decRep y).1 (decRep y).2) en_273 (SlRd.one (.tail _ (.tail _ (.tail _ hrb))) rfl) (by
          intro y hy; obtain rfl : y = r.cellsAt a := by simpa using hy
          exact wire_add1_c r a (.tail _ (.head _)) hsv hf (.head _))) ?_)
    refine t_nil ?_
    refine Tr.keep (env' := [(1, _), (2, _), (16, _)]) ⟨rfl, rfl, rfl, trivial⟩ ?_
    refine t_then ?_
    refine t_cond rfl (fun hv => ?_) (fun hv => ?_)
    · exact absurd (show (!g.rightB r a || false) = true from hv) (by rw [hok]; decide)
    · skip
      refine t_skip ?_
      refine t_then ?_
      refine t_seq ?_
      refine t_region ?_
      refine t_val (r_load ca_52 rfl (rd_m (.head _) rfl)) rfl ?_
      refine t_val (r_nilCheck rfl) rfl ?_
      refine t_val (r_fa fo_128_2 rfl) rfl ?_
      refine t_val (r_load ca_126 rfl (rd_m (.tail _ (.head _)) rfl)) rfl ?_
      refine t_eff rfl (e_call en_275 rfl rfl rfl rfl (mapsClone_c (.tail _ (.tail _ (.head _)))) fun b21 _ => ?_)
      refine t_val (r_assign rfl) rfl ?_
      refine t_nil ?_
      refine Tr.keep (env' := [(1, _), (2, _), (5, _)]) ⟨rfl, rfl, rfl, trivial⟩ ?_
      refine t_then ?_
      refine t_seq ?_
      refine t_seq ?_
      refine t_region ?_
      refine t_val (r_move rfl) rfl ?_
      refine t_val (r_len_slice Tryz.underlying221 rfl) rfl ?_
      refine t_val (r_move rfl) rfl ?_
      refine t_nil ?_
      refine Tr.keep (env' := [(2, _), (5, _), (22, _), (23, _), (24, _)]) ⟨rfl, rfl, rfl, rfl, rfl, trivial⟩ ?_
      refine t_then ?_
      refine t_block ?_
      refine t_loop (fun k : Nat => [(2, .pointer (some ⟨b2, 0, none⟩)), (5, .map (some b21)), (22, .slice (some ⟨rb, 0, none⟩) 1 1), (23, .int .i64 1), (24, .int .i64 (k : Int))]) (fun k : Nat => mpe b21 Rep.enc (kvs (if k = 0 then g.kv else g.kv ++ [(r, a)])) :: cel b2 52 [.pointer (some ⟨l.b, 0, none⟩)] :: g.eb l :: g.em l :: Fr) (fun k : Nat => k ≤ 1) (fun k : Nat => 1 - k) 0 (by omega) ⟨rfl, rfl, rfl, rfl, rfl, trivial⟩ (.refl _) ?_
      intro K k hk IH
      refine t_seq ?_
      refine t_region ?_
      refine t_val (r_lt rfl rfl) rfl ?_
      refine t_nil ?_
      refine Tr.keep (env' := [(2, _), (5, _), (22, _), (23, _), (24, _), (25, _)]) ⟨rfl, rfl, rfl, rfl, rfl, rfl, trivial⟩ ?_
      refine t_then ?_
      refine t_seq ?_
      refine t_cond rfl (fun hc1 => ?_) (fun hc1 => ?_)
      · have hlt : k < 1 := by have := of_decide_eq_true hc1; omega
        obtain rfl : k = 0 := by omega
        rw [if_pos rfl]
        refine t_skip ?_
        refine t_then ?_
        refine t_seq ?_
        refine t_block ?_
        refine t_seq ?_
        refine t_region ?_
        refine t_val (r_ia (j := 0) Tryz.underlying221 iz_228 rfl rfl rfl (by decide)) rfl ?_
        refine t_val (r_loads ca_228 rfl (rds_m (n := 7) (vs := [_, _, _, _, _, _, _]) (.tail _ (.tail _ (.tail _ (.tail _ hrb)))) rfl) rfl) rfl ?_
        refine t_eff rfl (e_alloc inf_228 (l := [.int .i64 0, .int .i64 0, .int .i64 0, .int .i64 0, .int .i64 0, .int .i64 0, .int .i64 0]) rfl rfl fun b7 => ?_)
        refine t_eff rfl (e_stores iz_228 rfl rfl (vs := [_, _, _, _, _, _, _]) rfl rfl (by simp [Value.oneCell']) (.cons .zero (.cons (.succ .zero) (.cons (.succ (.succ .zero)) (.cons (.succ (.succ (.succ .zero))) (.cons (.succ (.succ (.succ (.succ .zero)))) (.cons (.succ (.succ (.succ (.succ (.succ .zero))))) (.cons (.succ (.succ (.succ (.succ (.succ (.succ .zero)))))) .nil))))))) .here ?_)
        refine t_nil ?_
        refine Tr.keep (env' := [(2, _), (5, _), (7, _), (22, _), (23, _), (24, _)]) ⟨rfl, rfl, rfl, rfl, rfl, rfl, trivial⟩ ?_
        refine t_then ?_
        refine t_seq ?_
        refine t_region ?_
        refine t_val (r_loads ca_228 rfl (rds_m (n := 7) (vs := [_, _, _, _, _, _, _]) (.head _) rfl) rfl) rfl ?_
        refine t_eff rfl (e_pcall en_276 rfl rfl rfl rfl (plain_c r a) ?_)
        refine t_eff rfl (e_alloc inf_228 (l := [.int .i64 0, .int .i64 0, .int .i64 0, .int .i64 0, .int .i64 0, .int .i64 0, .int .i64 0]) rfl rfl fun b8 => ?_)
        refine t_eff rfl (e_stores iz_228 rfl rfl (vs := [_, _, _, _, _, _, _]) rfl rfl (by simp [Value.oneCell']) (.cons .zero (.cons (.succ .zero) (.cons (.succ (.succ .zero)) (.cons (.succ (.succ (.succ .zero))) (.cons (.succ (.succ (.succ (.succ .zero)))) (.cons (.succ (.succ (.succ (.succ (.succ .zero))))) (.cons (.succ (.succ (.succ (.succ (.succ (.succ .zero)))))) .nil))))))) .here ?_)
        refine t_nil ?_
        refine Tr.keep (env' := [(2, _), (5, _), (7, _), (8, _), (22, _), (23, _), (24, _)]) ⟨rfl, rfl, rfl, rfl, rfl, rfl, rfl, trivial⟩ ?_
        refine t_then ?_
        refine t_seq ?_
        refine t_region ?_
        refine t_val (r_move rfl) rfl ?_
        refine t_val (r_loads ca_228 rfl (rds_m (n := 7) (vs := [_, _, _, _, _, _, _]) (.head _) rfl) rfl) rfl ?_
        refine t_val (run_to (v' := .tuple #[.int .i64 0, .bool false]) (r_lookup2 r Tryz.underlying126 keyRep inf_3 rfl rfl (.tail _ (.tail _ (.head _)))) (by rw [hget]; rfl)) rfl ?_
        refine t_val (r_move rfl) rfl ?_
        refine t_val (r_extract rfl rfl) rfl ?_
        refine t_val (r_extract rfl rfl) rfl ?_
        refine t_val (r_assign rfl) rfl ?_
        refine t_val (r_assign rfl) rfl ?_
        refine t_nil ?_
        refine Tr.keep (env' := [(2, _), (5, _), (7, _), (8, _), (9, _), (10, _), (22, _), (23, _), (24, _)]) ⟨rfl, rfl, rfl, rfl, rfl, rfl, rfl, rfl, rfl, trivial⟩ ?_
        refine t_then ?_
        refine t_seq ?_
        refine t_region ?_
        refine t_val (r_move rfl) rfl ?_
        refine t_val (r_not rfl) rfl ?_
        refine t_val (r_move rfl) rfl ?_
        apply t_group_or 5 (s := 38) (d := 43) rfl
        · intro hg4 K hK
          refine g_val hg4 rfl rfl (r_fa fo_228_6 rfl) rfl ?_
          refine g_val hg4 rfl rfl (r_load ca_3 rfl (rd_m (.tail _ (.head _)) rfl)) rfl ?_
          refine g_val hg4 rfl rfl (r_move rfl) rfl ?_
          refine g_val hg4 rfl rfl (r_lt rfl rfl) rfl ?_
          refine t_val (rp_f hg4 rfl rfl) rfl ?_
          iterate 4 refine Tr.weak2 rfl ?_
          exact hK _ (or_f hg4)
        · intro hg4 K hK
          refine g_skip hg4 rfl rfl rfl rfl ?_
          refine g_skip hg4 rfl rfl rfl rfl ?_
          refine g_skip hg4 rfl rfl rfl rfl ?_
          refine g_skip hg4 rfl rfl rfl rfl ?_
          refine t_val (rp_t hg4 rfl rfl) rfl ?_
          iterate 4 refine Tr.weak2 rfl ?_
          exact hK _ (or_t hg4)
        refine t_nil ?_
        refine Tr.keep (env' := [(2, _), (5, _), (7, _), (8, _), (22, _), (23, _), (24, _), (43, _)]) ⟨rfl, rfl, rfl, rfl, rfl, rfl, rfl, rfl, trivial⟩ ?_
        refine t_then ?_
        refine t_cond rfl (fun hm => ?_) (fun hm => ?_)
        · skip
          refine t_region ?_
          refine t_val (r_move rfl) rfl ?_
          refine t_val (r_loads ca_228 rfl (rds_m (n := 7) (vs := [_, _, _, _, _, _, _]) (.head _) rfl) rfl) rfl ?_
          refine t_val (r_fa fo_228_6 rfl) rfl ?_
          refine t_val (r_load ca_3 rfl (rd_m (.tail _ (.head _)) rfl)) rfl ?_
          refine t_eff rfl (e_mapUpdate (a := r) Tryz.underlying126 keyRep rfl rfl rfl (.there (.there .here)) ?_)
          refine t_nil ?_
          refine Tr.keep (env' := [(2, _), (5, _), (22, _), (23, _), (24, _)]) ⟨rfl, rfl, rfl, rfl, rfl, trivial⟩ ?_
          refine t_in ?_
          refine t_then ?_
          refine t_region ?_
          refine t_val (r_addi rfl rfl (by omega)) rfl ?_
          refine t_val (r_move rfl) rfl ?_
          refine t_nil ?_
          refine Tr.keep (env' := [(2, _), (5, _), (22, _), (23, _), (24, _)]) ⟨rfl, rfl, rfl, rfl, rfl, trivial⟩ ?_
          refine t_then ?_
          refine t_K (IH 1 (by omega) (by omega)) ⟨rfl, rfl, rfl, rfl, rfl, trivial⟩ (by rw [if_neg (by decide), ← hput a]; exact (.cons _ (.cons _ (.refl _))))
        · exact absurd (show true = false from hm) (by decide)
      · have h9 : ¬ k < 1 := by have := of_decide_eq_false hc1; omega
        obtain rfl : k = 1 := by omega
        rw [if_neg (by decide)]
        refine t_exit ?_
        refine t_then_exit ?_
        refine t_then_exit ?_
        refine t_in_hit ?_
        refine t_then ?_
        refine t_seq ?_
        refine t_seq ?_
        refine t_region ?_
        refine t_val (r_move rfl) rfl ?_
        refine t_val (r_len_map Tryz.underlying126 rfl (.head _)) rfl ?_
        refine t_val (r_gt rfl rfl) rfl ?_
        refine t_nil ?_
        refine Tr.keep (env' := [(2, _), (5, _), (51, _)]) ⟨rfl, rfl, rfl, trivial⟩ ?_
        refine t_then ?_
        refine t_cond rfl (fun hl => ?_) (fun hl => ?_)
        · have := of_decide_eq_true hl
          simp at this
          omega
        · skip
          refine t_skip ?_
          refine t_then ?_
          refine t_seq ?_
          refine t_region ?_
          refine t_val (r_load ca_52 rfl (rd_m (.tail _ (.head _)) rfl)) rfl ?_
          refine t_val (r_move rfl) rfl ?_
          refine t_val (r_nilCheck rfl) rfl ?_
          refine t_val (r_fa fo_128_2 rfl) rfl ?_
          refine t_eff rfl (e_store iz_126 rfl rfl rfl (.succ (.succ (.succ (.succ .zero)))) (.there (.there .here)) ?_)
          refine t_nil ?_
          refine Tr.keep (env' := []) trivial ?_
          refine t_then ?_
          refine t_seq ?_
          refine t_region ?_
          refine t_val (r_assign rfl) rfl ?_
          refine t_nil ?_
          refine Tr.keep (env' := [(4, _)]) ⟨rfl, trivial⟩ ?_
          refine t_then ?_
          refine t_retc ?_
          refine t_ret1 rfl rfl (fun w hw => ?_)
          exact ⟨b21, rfl, trivial, by rw [hadd]; exact (hw.perm (pk (.there (.there .here)) (pk .here (.refl _)))).sub (.cons_cons _ (.cons_cons _ (.cons _ (.cons _ (.refl _)))))⟩
end
end Go.Proofs.W
set_option linter.unusedVariables false
set_option linter.unusedSimpArgs false
set_option linter.unusedSectionVars false
set_option maxRecDepth 100000
namespace Go.Proofs.W
open Go Go.Sl Go.RowKit Go.Proofs
theorem en_137 : Enters Tryz.prog 137 := enters_of Tryz.func137 (by kernel_rfl) (by kernel_rfl)
theorem en_230 : Enters Tryz.prog 230 := enters_of Tryz.func230 (by kernel_rfl) (by kernel_rfl)
theorem en_247 : Enters Tryz.prog 247 := enters_of Tryz.func247 (by kernel_rfl) (by kernel_rfl)
theorem en_295 : Enters Tryz.prog 295 := enters_of Tryz.func295 (by kernel_rfl) (by kernel_rfl)
theorem en_67 : Enters Tryz.prog 67 := enters_of Tryz.func67 (by kernel_rfl) (by kernel_rfl)
def cmpI (a b : Int) : Int := if a < b then -1 else if b < a then 1 else 0
def orI : List Int → Int
  | [] => 0
  | x :: xs => if x != 0 then x else orI xs
def ordR (r s : Rep) : Int := orI [cmpI r.source s.source, cmpI r.number s.number, cmpI r.kind s.kind, cmpI r.car s.car, cmpI r.place s.place, cmpI r.time s.time]
section
variable {w0 : World} {M : List Ent}
theorem isNaN_int_c (a : Int) : ∀ w, Ok w0 M w → Calls Tryz.prog 137 #[.int .i64 a] w (fun e w' => e = .returned (.bool false) ∧ Ok w0 M w') := by
  refine enter (vs := [_]) Tryz.func137 rfl Tryz.ntmps137 rfl ?_
  refine t_seq ?_
  refine t_region ?_
  refine t_val (r_assign rfl) rfl ?_
  refine t_nil ?_
  refine Tr.keep (env' := [(0, _)]) ⟨rfl, trivial⟩ ?_
  refine t_then ?_
  refine t_seq ?_
  refine t_region ?_
  refine t_val (r_move rfl) rfl ?_
  refine t_val (r_move rfl) rfl ?_
  refine t_val (r_ne rfl rfl) rfl ?_
  refine t_val (r_assign rfl) rfl ?_
  refine t_nil ?_
  refine Tr.keep (env' := [(2, _)]) ⟨rfl, trivial⟩ ?_
  refine t_then ?_
  refine t_retc ?_
  refine t_ret1 rfl rfl (fun w hw => ?_)
  exact ⟨by simp, hw⟩
theorem compare_int_c (a b : Int) : ∀ w, Ok w0 M w → Calls Tryz.prog 67 #[.int .i64 a, .int .i64 b] w (fun e w' => e = .returned (.int .i64 (cmpI a b)) ∧ Ok w0 M w') := by
  refine enter (vs := [_, _]) Tryz.func67 rfl Tryz.ntmps67 rfl ?_
  refine t_seq ?_
  refine t_region ?_
  refine t_val (r_assign rfl) rfl ?_
  refine t_nil ?_
  refine Tr.keep (env' := [(0, _), (1, _)]) ⟨rfl, rfl, trivial⟩ ?_
  refine t_then ?_
  refine t_seq ?_
  refine t_region ?_
  refine t_val (r_move rfl) rfl ?_
  refine t_eff rfl (e_pcall en_137 rfl rfl rfl rfl (isNaN_int_c _) ?_)
  refine t_val (r_assign rfl) rfl ?_
  refine t_nil ?_
  refine Tr.keep (env' := [(0, _), (1, _), (5, _)]) ⟨rfl, rfl, rfl, trivial⟩ ?_
  refine t_then ?_
  refine t_seq ?_
  refine t_region ?_
  refine t_val (r_move rfl) rfl ?_
  refine t_eff rfl (e_pcall en_137 rfl rfl rfl rfl (isNaN_int_c _) ?_)
  refine t_val (r_assign rfl) rfl ?_
  refine t_nil ?_
  refine Tr.keep (env' := [(0, _), (1, _), (5, _), (6, _)]) ⟨rfl, rfl, rfl, rfl, trivial⟩ ?_
  refine t_then ?_
  refine t_seq ?_
  refine t_seq ?_
  refine t_region ?_
  refine t_val (r_move rfl) rfl ?_
  refine t_nil ?_
  refine Tr.keep (env' := [(0, _), (1, _), (6, _), (11, _)]) ⟨rfl, rfl, rfl, rfl, trivial⟩ ?_
  refine t_then ?_
  refine t_cond rfl (fun hn1 => ?_) (fun hn1 => ?_)
  · cases hn1
  · skip
    refine t_skip ?_
    refine t_then ?_
    refine t_seq ?_
    refine t_seq ?_
    refine t_region ?_
    refine t_val (r_move rfl) rfl ?_
    refine t_nil ?_
    refine Tr.keep (env' := [(0, _), (1, _), (13, _)]) ⟨rfl, rfl, rfl, trivial⟩ ?_
    refine t_then ?_
    refine t_cond rfl (fun hn2 => ?_) (fun hn2 => ?_)
    · cases hn2
    · skip
      refine t_skip ?_
      refine t_then ?_
      refine t_seq ?_
      refine t_seq ?_
      refine t_region ?_
      refine t_val (r_move rfl) rfl ?_
      refine t_val (r_move rfl) rfl ?_
      refine t_val (r_lt rfl rfl) rfl ?_
      refine t_nil ?_
      refine Tr.keep (env' := [(0, _), (1, _), (16, _)]) ⟨rfl, rfl, rfl, trivial⟩ ?_
      refine t_then ?_
      refine t_cond rfl (fun hl => ?_) (fun hl => ?_)
      · skip
        refine t_seq ?_
        refine t_region ?_
        refine t_val (r_assign rfl) rfl ?_
        refine t_nil ?_
        refine Tr.keep (env' := [(4, _)]) ⟨rfl, trivial⟩ ?_
        refine t_then ?_
        refine t_retc ?_
        refine t_then_ret ?_
        refine t_ret1 rfl rfl (fun w hw => ?_)
        refine ⟨?_, hw⟩
        simp_all [cmpI]
      · skip
        refine t_skip ?_
        refine t_then ?_
        refine t_seq ?_
        refine t_seq ?_
        refine t_region ?_
        refine t_val (r_move rfl) rfl ?_
        refine t_val (r_move rfl) rfl ?_
        refine t_val (r_gt rfl rfl) rfl ?_
        refine t_nil ?_
        refine Tr.keep (env' := [(19, _)]) ⟨rfl, trivial⟩ ?_
        refine t_then ?_
        refine t_cond rfl (fun hg => ?_) (fun hg => ?_)
        · skip
          refine t_seq ?_
          refine t_region ?_
          refine t_val (r_assign rfl) rfl ?_
          refine t_nil ?_
          refine Tr.keep (env' := [(4, _)]) ⟨rfl, trivial⟩ ?_
          refine t_then ?_
          refine t_retc ?_
          refine t_then_ret ?_
          refine t_ret1 rfl rfl (fun w hw => ?_)
          refine ⟨?_, hw⟩
          simp_all [cmpI]
        · skip
          refine t_skip ?_
          refine t_then ?_
          refine t_seq ?_
          refine t_region ?_
          refine t_val (r_assign rfl) rfl ?_
          refine t_nil ?_
          refine Tr.keep (env' := [(4, _)]) ⟨rfl, trivial⟩ ?_
          refine t_then ?_
          refine t_retc ?_
          refine t_ret1 rfl rfl (fun w hw => ?_)
          refine ⟨?_, hw⟩
          have h1 : ¬ a < b := of_decide_eq_false hl
          have h2 : ¬ b < a := of_decide_eq_false hg
          simp [cmpI, h1, h2]
theorem isNaN_kind_c (a : Int) : ∀ w, Ok w0 M w → Calls Tryz.prog 295 #[.int .i64 a] w (fun e w' => e = .returned (.bool false) ∧ Ok w0 M w') := by
  refine enter (vs := [_]) Tryz.func295 rfl Tryz.ntmps295 rfl ?_
  refine t_seq ?_
  refine t_region ?_
  refine t_val (r_assign rfl) rfl ?_
  refine t_nil ?_
  refine Tr.keep (env' := [(0, _)]) ⟨rfl, trivial⟩ ?_
  refine t_then ?_
  refine t_seq ?_
  refine t_region ?_
  refine t_val (r_move rfl) rfl ?_
  refine t_val (r_move rfl) rfl ?_
  refine t_val (r_ne rfl rfl) rfl ?_
  refine t_val (r_assign rfl) rfl ?_
  refine t_nil ?_
  refine Tr.keep (env' := [(2, _)]) ⟨rfl, trivial⟩ ?_
  refine t_then ?_
  refine t_retc ?_
  refine t_ret1 rfl rfl (fun w hw => ?_)
  exact ⟨by simp, hw⟩
theorem compare_kind_c (a b : Int) : ∀ w, Ok w0 M w → Calls Tryz.prog 247 #[.int .i64 a, .int .i64 b] w (fun e w' => e = .returned (.int .i64 (cmpI a b)) ∧ Ok w0 M w') := by
  refine enter (vs := [_, _]) Tryz.func247 rfl Tryz.ntmps247 rfl ?_
  refine t_seq ?_
  refine t_region ?_
  refine t_val (r_assign rfl) rfl ?_
  refine t_nil ?_
  refine Tr.keep (env' := [(0, _), (1, _)]) ⟨rfl, rfl, trivial⟩ ?_
  refine t_then ?_
  refine t_seq ?_
  refine t_region ?_
  refine t_val (r_move rfl) rfl ?_
  refine t_eff rfl (e_pcall en_295 rfl rfl rfl rfl (isNaN_kind_c _) ?_)
  refine t_val (r_assign rfl) rfl ?_
  refine t_nil ?_
  refine Tr.keep (env' := [(0, _), (1, _), (5, _)]) ⟨rfl, rfl, rfl, trivial⟩ ?_
  refine t_then ?_
  refine t_seq ?_
  refine t_region ?_
  refine t_val (r_move rfl) rfl ?_
  refine t_eff rfl (e_pcall en_295 rfl rfl rfl rfl (isNaN_kind_c _) ?_)
  refine t_val (r_assign rfl) rfl ?_
  refine t_nil ?_
  refine Tr.keep (env' := [(0, _), (1, _), (5, _), (6, _)]) ⟨rfl, rfl, rfl, rfl, trivial⟩ ?_
  refine t_then ?_
  refine t_seq ?_
  refine t_seq ?_
  refine t_region ?_
  refine t_val (r_move rfl) rfl ?_
  refine t_nil ?_
  refine Tr.keep (env' := [(0, _), (1, _), (6, _), (11, _)]) ⟨rfl, rfl, rfl, rfl, trivial⟩ ?_
  refine t_then ?_
  refine t_cond rfl (fun hn1 => ?_) (fun hn1 => ?_)
  · cases hn1
  · skip
    refine t_skip ?_
    refine t_then ?_
    refine t_seq ?_
    refine t_seq ?_
    refine t_region ?_
    refine t_val (r_move rfl) rfl ?_
    refine t_nil ?_
    refine Tr.keep (env' := [(0, _), (1, _), (13, _)]) ⟨rfl, rfl, rfl, trivial⟩ ?_
    refine t_then ?_
    refine t_cond rfl (fun hn2 => ?_) (fun hn2 => ?_)
    · cases hn2
    · skip
      refine t_skip ?_
      refine t_then ?_
      refine t_seq ?_
      refine t_seq ?_
      refine t_region ?_
      refine t_val (r_move rfl) rfl ?_
      refine t_val (r_move rfl) rfl ?_
      refine t_val (r_lt rfl rfl) rfl ?_
      refine t_nil ?_
      refine Tr.keep (env' := [(0, _), (1, _), (16, _)]) ⟨rfl, rfl, rfl, trivial⟩ ?_
      refine t_then ?_
      refine t_cond rfl (fun hl => ?_) (fun hl => ?_)
      · skip
        refine t_seq ?_
        refine t_region ?_
        refine t_val (r_assign rfl) rfl ?_
        refine t_nil ?_
        refine Tr.keep (env' := [(4, _)]) ⟨rfl, trivial⟩ ?_
        refine t_then ?_
        refine t_retc ?_
        refine t_then_ret ?_
        refine t_ret1 rfl rfl (fun w hw => ?_)
        refine ⟨?_, hw⟩
        simp_all [cmpI]
      · skip
        refine t_skip ?_
        refine t_then ?_
        refine t_seq ?_
        refine t_seq ?_
        refine t_region ?_
        refine t_val (r_move rfl) rfl ?_
        refine t_val (r_move rfl) rfl ?_
        refine t_val (r_gt rfl rfl) rfl ?_
        refine t_nil ?_
        refine Tr.keep (env' := [(19, _)]) ⟨rfl, trivial⟩ ?_
        refine t_then ?_
        refine t_cond rfl (fun hg => ?_) (fun hg => ?_)
        · skip
          refine t_seq ?_
          refine t_region ?_
          refine t_val (r_assign rfl) rfl ?_
          refine t_nil ?_
          refine Tr.keep (env' := [(4, _)]) ⟨rfl, trivial⟩ ?_
          refine t_then ?_
          refine t_retc ?_
          refine t_then_ret ?_
          refine t_ret1 rfl rfl (fun w hw => ?_)
          refine ⟨?_, hw⟩
          simp_all [cmpI]
        · skip
          refine t_skip ?_
          refine t_then ?_
          refine t_seq ?_
          refine t_region ?_
          refine t_val (r_assign rfl) rfl ?_
          refine t_nil ?_
          refine Tr.keep (env' := [(4, _)]) ⟨rfl, trivial⟩ ?_
          refine t_then ?_
          refine t_retc ?_
          refine t_ret1 rfl rfl (fun w hw => ?_)
          refine ⟨?_, hw⟩
          have h1 : ¬ a < b := of_decide_eq_false hl
          have h2 : ¬ b < a := of_decide_eq_false hg
          simp [cmpI, h1, h2]
theorem or_int_c {A : Option Addr} {n c : Nat} {xs : List Int} (hs : SlRd w0 M 1 A n (xs.map encI)) : ∀ w, Ok w0 M w → Calls Tryz.prog 230 #[.slice A n c] w (fun e w' => e = .returned (.int .i64 (orI xs)) ∧ Ok w0 M w') := by
  have hn : xs.length = n := by simpa using hs.len
  have hbig := hs.big
  have key : ∀ k, k ≤ n → (∀ j, j < k → xs[j]? = some 0) → orI xs = orI (xs.drop k) := by
    intro k
    induction k with
    | zero => intro _ _; simp
    | succ k ih =>
      intro hk h
      rw [ih (by omega) (fun j hj => h j (by omega))]
      obtain ⟨h1, h2⟩ := List.getElem?_eq_some_iff.1 (h k (by omega))
      rw [List.drop_eq_getElem_cons h1, h2]
      simp [orI]
  refine enter (vs := [_]) Tryz.func230 rfl Tryz.ntmps230 rfl ?_
  refine t_seq ?_
  refine t_region ?_
  refine t_val (r_assign rfl) rfl ?_
  refine t_nil ?_
  refine Tr.keep (env' := [(0, _)]) ⟨rfl, trivial⟩ ?_
  refine t_then ?_
  refine t_seq ?_
  refine t_region ?_
  refine t_val (r_assign rfl) rfl ?_
  refine t_nil ?_
  refine Tr.keep (env' := [(0, _), (3, _)]) ⟨rfl, rfl, trivial⟩ ?_
  refine t_then ?_
  refine t_seq ?_
  refine t_seq ?_
  refine t_region ?_
  refine t_val (r_move rfl) rfl ?_
  refine t_val (r_len_slice Tryz.underlying36 rfl) rfl ?_
  refine t_val (r_move rfl) rfl ?_
  refine t_nil ?_
  refine Tr.keep (env' := [(3, _), (6, _), (7, _), (8, _)]) ⟨rfl, rfl, rfl, rfl, trivial⟩ ?_
  refine t_then ?_
  refine t_block ?_
  refine t_loop (fun k : Nat => [(3, .int .i64 0), (6, .slice A n c), (7, .int .i64 (n : Int)), (8, .int .i64 (k : Int))]) (fun k : Nat => M) (fun k : Nat => k ≤ n ∧ (∀ j, j < k → xs[j]? = some 0)) (fun k : Nat => n - k) 0 ⟨by omega, by omega⟩ ⟨rfl, rfl, rfl, rfl, trivial⟩ (.refl _) ?_
  intro K k ⟨hk, hp⟩ IH
  refine t_seq ?_
  refine t_region ?_
  refine t_val (r_lt rfl rfl) rfl ?_
  refine t_nil ?_
  refine Tr.keep (env' := [(3, _), (6, _), (7, _), (8, _), (9, _)]) ⟨rfl, rfl, rfl, rfl, rfl, trivial⟩ ?_
  refine t_then ?_
  refine t_seq ?_
  refine t_cond rfl (fun hc1 => ?_) (fun hc1 => ?_)
  · have hlt : k < n := by have := of_decide_eq_true hc1; omega
    obtain ⟨b, o, hA, hrd⟩ := hs.at' (by omega)
    obtain ⟨x, hx⟩ : ∃ x, xs[k]? = some x := ⟨_, List.getElem?_eq_getElem (by omega)⟩
    have hx' : (xs.map encI)[k]? = some (encI x) := by simp [hx]
    refine t_skip ?_
    refine t_then ?_
    refine t_seq ?_
    refine t_block ?_
    refine t_seq ?_
    refine t_region ?_
    refine t_val (r_ia_s k Tryz.underlying36 iz_3 hA rfl rfl rfl hlt) rfl ?_
    refine t_val (r_load ca_3 rfl (hrd k (encI x) hx' 0 _ rfl)) rfl ?_
    refine t_val (r_assign rfl) rfl ?_
    refine t_nil ?_
    refine Tr.keep (env' := [(3, _), (5, _), (6, _), (7, _), (8, _)]) ⟨rfl, rfl, rfl, rfl, rfl, trivial⟩ ?_
    refine t_then ?_
    refine t_seq ?_
    refine t_region ?_
    refine t_val (r_move rfl) rfl ?_
    refine t_val (r_move rfl) rfl ?_
    refine t_val (r_ne rfl rfl) rfl ?_
    refine t_nil ?_
    refine Tr.keep (env' := [(3, _), (5, _), (6, _), (7, _), (8, _), (14, _)]) ⟨rfl, rfl, rfl, rfl, rfl, rfl, trivial⟩ ?_
    refine t_then ?_
    refine t_cond rfl (fun hc2 => ?_) (fun hc2 => ?_)
    · skip
      refine t_seq ?_
      refine t_region ?_
      refine t_val (r_move rfl) rfl ?_
      refine t_val (r_assign rfl) rfl ?_
      refine t_nil ?_
      refine Tr.keep (env' := [(2, _)]) ⟨rfl, trivial⟩ ?_
      refine t_then ?_
      refine t_retc ?_
      refine t_in_ret ?_
      refine t_then_ret ?_
      refine t_then_ret ?_
      refine t_in_ret ?_
      refine t_then_ret ?_
      refine t_ret1 rfl rfl (fun w hw => ?_)
      refine ⟨?_, hw⟩
      rw [key k (by omega) hp]
      obtain ⟨h1, h2⟩ := List.getElem?_eq_some_iff.1 hx
      rw [List.drop_eq_getElem_cons h1, h2, orI, if_pos hc2]
    · skip
      refine t_skip ?_
      refine t_in ?_
      refine t_then ?_
      refine t_region ?_
      refine t_val (r_addi rfl rfl (by omega)) rfl ?_
      refine t_val (r_move rfl) rfl ?_
      refine t_nil ?_
      refine Tr.keep (env' := [(3, _), (6, _), (7, _), (8, _)]) ⟨rfl, rfl, rfl, rfl, trivial⟩ ?_
      refine t_then ?_
      refine t_K (IH (k + 1) ⟨by omega, fun j hj => ?_⟩ (by omega)) ⟨rfl, rfl, rfl, rfl, trivial⟩ (.refl _)
      rcases Nat.lt_or_ge j k with h | h
      · exact hp j h
      · obtain rfl : j = k := by omega
        rw [hx]; simpa using hc2
  · have h9 : ¬ k < n := by have := of_decide_eq_false hc1; omega
    obtain rfl : k = n := by omega
    refine t_exit ?_
    refine t_then_exit ?_
    refine t_then_exit ?_
    refine t_in_hit ?_
    refine t_then ?_
    refine t_seq ?_
    refine t_region ?_
    refine t_val (r_move rfl) rfl ?_
    refine t_val (r_assign rfl) rfl ?_
    refine t_nil ?_
    refine Tr.keep (env' := [(2, _)]) ⟨rfl, trivial⟩ ?_
    refine t_then ?_
    refine t_retc ?_
    refine t_ret1 rfl rfl (fun w hw => ?_)
    refine ⟨?_, hw⟩
    rw [key k (by omega) hp, List.drop_eq_nil_of_le (by omega)]
    rfl
theorem order_c (r s : Rep) (a b : Int) : ∀ w, Ok w0 M w → Calls Tryz.prog 187 #[.agg (r.cellsAt a).toArray, .agg (s.cellsAt b).toArray] w (fun e w' => e = .returned (.int .i64 (ordR r s)) ∧ Ok w0 M w') := by
  refine enter (vs := [_, _]) Tryz.func187 rfl Tryz.ntmps187 rfl ?_
  refine t_seq ?_
  refine t_region ?_
  refine t_eff rfl (e_box rfl rfl fun b2 => ?_)
  refine t_eff rfl (e_box rfl rfl fun b3 => ?_)
  refine t_val (r_assign rfl) rfl ?_
  refine t_nil ?_
  refine Tr.keep (env' := [(2, _), (3, _)]) ⟨rfl, rfl, trivial⟩ ?_
  refine t_then ?_
  refine t_seq ?_
  refine d_begin mixed rfl ?_
  refine d_val 0 rfl (by kernel_rfl) (by kernel_rfl) (by kernel_rfl) (.then .body) (.refl _) rfl (r_fa fo_228_0 rfl) ?_
  refine d_val 1 rfl (by kernel_rfl) (by kernel_rfl) (by kernel_rfl) (.then .body) (.refl _) rfl (r_load ca_3 rfl (rd_m (.tail _ (.head _)) rfl)) ?_
  refine d_val 2 rfl (by kernel_rfl) (by kernel_rfl) (by kernel_rfl) (.then .body) (.refl _) rfl (r_fa fo_228_0 rfl) ?_
  refine d_val 3 rfl (by kernel_rfl) (by kernel_rfl) (by kernel_rfl) (.then .body) (.refl _) rfl (r_load ca_3 rfl (rd_m (.head _) rfl)) ?_
  refine d_val 5 rfl (by kernel_rfl) (by kernel_rfl) (by kernel_rfl) (.then .body) (.refl _) rfl (r_fa fo_228_1 rfl) ?_
  refine d_val 6 rfl (by kernel_rfl) (by kernel_rfl) (by kernel_rfl) (.then .body) (.refl _) rfl (r_load ca_3 rfl (rd_m (.tail _ (.head _)) rfl)) ?_
  refine d_val 7 rfl (by kernel_rfl) (by kernel_rfl) (by kernel_rfl) (.then .body) (.refl _) rfl (r_fa fo_228_1 rfl) ?_
  refine d_val 8 rfl (by kernel_rfl) (by kernel_rfl) (by kernel_rfl) (.then .body) (.refl _) rfl (r_load ca_3 rfl (rd_m (.head _) rfl)) ?_
  refine d_val 10 rfl (by kernel_rfl) (by kernel_rfl) (by kernel_rfl) (.then .body) (.refl _) rfl (r_fa fo_228_2 rfl) ?_
  refine d_val 11 rfl (by kernel_rfl) (by kernel_rfl) (by kernel_rfl) (.then .body) (.refl _) rfl (r_load ca_226 rfl (rd_m (.tail _ (.head _)) rfl)) ?_
  refine d_val 12 rfl (by kernel_rfl) (by kernel_rfl) (by kernel_rfl) (.then .body) (.refl _) rfl (r_fa fo_228_2 rfl) ?_
  refine d_val 13 rfl (by kernel_rfl) (by kernel_rfl) (by kernel_rfl) (.then .body) (.refl _) rfl (r_load ca_226 rfl (rd_m (.head _) rfl)) ?_
  refine d_val 15 rfl (by kernel_rfl) (by kernel_rfl) (by kernel_rfl) (.then .body) (.refl _) rfl (r_fa fo_228_3 rfl) ?_
  refine d_val 16 rfl (by kernel_rfl) (by kernel_rfl) (by kernel_rfl) (.then .body) (.refl _) rfl (r_load ca_3 rfl (rd_m (.tail _ (.head _)) rfl)) ?_
  refine d_val 17 rfl (by kernel_rfl) (by kernel_rfl) (by kernel_rfl) (.then .body) (.refl _) rfl (r_fa fo_228_3 rfl) ?_
  refine d_val 18 rfl (by kernel_rfl) (by kernel_rfl) (by kernel_rfl) (.then .body) (.refl _) rfl (r_load ca_3 rfl (rd_m (.head _) rfl)) ?_
  refine d_val 20 rfl (by kernel_rfl) (by kernel_rfl) (by kernel_rfl) (.then .body) (.refl _) rfl (r_fa fo_228_4 rfl) ?_
  refine d_val 21 rfl (by kernel_rfl) (by kernel_rfl) (by kernel_rfl) (.then .body) (.refl _) rfl (r_load ca_3 rfl (rd_m (.tail _ (.head _)) rfl)) ?_
  refine d_val 22 rfl (by kernel_rfl) (by kernel_rfl) (by kernel_rfl) (.then .body) (.refl _) rfl (r_fa fo_228_4 rfl) ?_
  refine d_val 23 rfl (by kernel_rfl) (by kernel_rfl) (by kernel_rfl) (.then .body) (.refl _) rfl (r_load ca_3 rfl (rd_m (.head _) rfl)) ?_
  refine d_val 25 rfl (by kernel_rfl) (by kernel_rfl) (by kernel_rfl) (.then .body) (.refl _) rfl (r_fa fo_228_5 rfl) ?_
  refine d_val 26 rfl (by kernel_rfl) (by kernel_rfl) (by kernel_rfl) (.then .body) (.refl _) rfl (r_load ca_3 rfl (rd_m (.tail _ (.head _)) rfl)) ?_
  refine d_val 27 rfl (by kernel_rfl) (by kernel_rfl) (by kernel_rfl) (.then .body) (.refl _) rfl (r_fa fo_228_5 rfl) ?_
  refine d_val 28 rfl (by kernel_rfl) (by kernel_rfl) (by kernel_rfl) (.then .body) (.refl _) rfl (r_load ca_3 rfl (rd_m (.head _) rfl)) ?_
  refine d_eff 4 rfl rfl (by kernel_rfl) (e_pcall en_67 rfl rfl rfl rfl (compare_int_c _ _) ?_)
  refine d_held (.refl _) ?_
  refine d_eff 9 rfl rfl (by kernel_rfl) (e_pcall en_67 rfl rfl rfl rfl (compare_int_c _ _) ?_)
  refine d_held (.refl _) ?_
  refine d_eff 14 rfl rfl (by kernel_rfl) (e_pcall en_247 rfl rfl rfl rfl (compare_kind_c _ _) ?_)
  refine d_held (.refl _) ?_
  refine d_eff 19 rfl rfl (by kernel_rfl) (e_pcall en_67 rfl rfl rfl rfl (compare_int_c _ _) ?_)
  refine d_held (.refl _) ?_
  refine d_eff 24 rfl rfl (by kernel_rfl) (e_pcall en_67 rfl rfl rfl rfl (compare_int_c _ _) ?_)
  refine d_held (.refl _) ?_
  refine d_eff 29 rfl rfl (by kernel_rfl) (e_pcall en_67 rfl rfl rfl rfl (compare_int_c _ _) ?_)
  refine d_held (.refl _) ?_
  refine d_eff 30 rfl rfl (by kernel_rfl) (e_buildSlice (E := 3) (l := flat ([cmpI r.source s.source, cmpI r.number s.number, cmpI r.kind s.kind, cmpI r.car s.car, cmpI r.place s.place, cmpI r.time s.time].map encI)) rfl (fun w => by kernel_rfl) rfl fun b35 => ?_)
  refine d_held (.cons _ (.refl _)) ?_
  refine d_eff 31 rfl rfl (by kernel_rfl) (e_pcall en_230 rfl rfl rfl rfl (or_int_c (xs := [cmpI r.source s.source, cmpI r.number s.number, cmpI r.kind s.kind, cmpI r.car s.car, cmpI r.place s.place, cmpI r.time s.time]) (SlRd.of_list encI encI_len (.head _) rfl (by decide))) ?_)
  refine d_held (.cons _ (.refl _)) ?_
  refine d_val 32 rfl (by kernel_rfl) (by kernel_rfl) (by kernel_rfl) (.then .body) (.cons _ (.refl _)) rfl (r_assign rfl) ?_
  refine d_end (by kernel_rfl) ?_
  refine Tr.keep (env' := [(4, _)]) ⟨rfl, trivial⟩ ?_
  refine t_then ?_
  refine t_retc ?_
  refine t_ret1 rfl rfl (fun w hw => ?_)
  exact ⟨rfl, Ok.sub hw (.cons _ (.cons _ (.cons _ (.refl _))))⟩
end
end Go.Proofs.W
