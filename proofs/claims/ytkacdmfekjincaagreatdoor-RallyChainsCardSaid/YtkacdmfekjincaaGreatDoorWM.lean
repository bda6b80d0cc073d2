/-
  What functions of the program that RallyChains reaches do, one contract each, part 13.
-/
import Derived.Test.YtkacdmfekjincaaGreatDoorWL
import Derived.Test.YtkacdmfekjincaaGreatDoorSlB
set_option linter.unusedVariables false
set_option linter.unusedSimpArgs false
set_option linter.unusedSectionVars false
set_option maxRecDepth 100000
namespace Go.Proofs.W
open Go Go.Sl Go.RowKit Go.Proofs
attribute [local irreducible] Go.Sl.Eff
theorem ca_27 : cellsAs Tryz.prog 27 = some (some 2) := by kernel_rfl
def shortB (most : Int) (ls : List ByteArray) : Bool := ls.all (fun s => decide (s.size ≤ 300)) && decide ((ls.length : Int) ≤ most)
theorem shortB_no {most : Int} {ls : List ByteArray} {k : Nat} {s : ByteArray} (hk : ls[k]? = some s) (h : 300 < s.size) : shortB most ls = false := by
  have : ls.all (fun s => decide (s.size ≤ 300)) = false := by
    rw [List.all_eq_false]
    exact ⟨s, List.mem_of_getElem? hk, by simp; omega⟩
  simp [shortB, this]
theorem shortB_all {most : Int} {ls : List ByteArray} (h : ∀ s ∈ ls, s.size ≤ 300) : shortB most ls = decide ((ls.length : Int) ≤ most) := by
  have : ls.all (fun s => decide (s.size ≤ 300)) = true := by rw [List.all_eq_true]; intro s hs; simpa using h s hs
  simp [shortB, this]
theorem take_all {α : Type} {p : α → Prop} {l : List α} {k : Nat} {x : α} (h : ∀ y ∈ l.take k, p y) (hk : l[k]? = some x) (hx : p x) : ∀ y ∈ l.take (k + 1), p y := by
  intro y hy
  rw [List.take_add_one, hk] at hy
  rcases List.mem_append.1 hy with hy | hy
  · exact h y hy
  · simp at hy; subst hy; exact hx
def chainsF : Nat → List ByteArray → List ByteArray
  | _, [] => []
  | b, s :: r => digitsV (chainN (b : Int) s) :: chainsF (chainN (b : Int) s) r
def cnF (b : Nat) (ls : List ByteArray) : Nat := ls.foldl (fun (n : Nat) s => chainN (n : Int) s) b
theorem cnF_add (b : Nat) (l : List ByteArray) (s : ByteArray) : cnF b (l ++ [s]) = chainN (cnF b l : Int) s := by simp [cnF]
theorem chainsF_add : ∀ (b : Nat) (l : List ByteArray) (s : ByteArray), chainsF b (l ++ [s]) = chainsF b l ++ [digitsV (chainN (cnF b l : Int) s)]
  | _, [], _ => rfl
  | b, x :: l, s => by
    have := chainsF_add (chainN (b : Int) x) l s
    simp only [List.cons_append, chainsF, this]
    rfl
@[simp] theorem chainsF_len : ∀ (b : Nat) (l : List ByteArray), (chainsF b l).length = l.length
  | _, [] => rfl
  | b, x :: l => by simp [chainsF, chainsF_len]
def chainsV (ls : List ByteArray) : List ByteArray := chainsF 14695981039346656037 ls
@[simp] theorem chainsV_len (l : List ByteArray) : (chainsV l).length = l.length := chainsF_len _ _
def dn {α : Type} (p : α → Bool) (init : Int) : List α → Int → Int
  | [], _ => init
  | x :: r, i => if p x then i else dn p init r (i + 1)
theorem dn_at {α : Type} {p : α → Bool} {init : Int} : ∀ {l : List α} {k : Nat} {x : α} (i : Int), (∀ y ∈ l.take k, p y = false) → l[k]? = some x → p x = true → dn p init l i = i + k
  | y :: r, 0, x, i, _, hk, hp => by simp at hk; subst hk; simp [dn, hp]
  | y :: r, k + 1, x, i, h, hk, hp => by
    have := dn_at (l := r) (k := k) (init := init) (i + 1) (fun z hz => h z (by simp [hz])) (by simpa using hk) hp
    simp [dn, h y (by simp), this]; omega
theorem dn_no {α : Type} {p : α → Bool} {init : Int} : ∀ {l : List α} (i : Int), (∀ y ∈ l, p y = false) → dn p init l i = init
  | [], _, _ => rfl
  | y :: r, i, h => by simp [dn, h y (by simp), dn_no (l := r) (i + 1) (fun z hz => h z (by simp [hz]))]
theorem dn_step {α : Type} {p : α → Bool} {init : Int} {l : List α} {k : Nat} {x : α} (i : Int) (hk : l[k]? = some x) : dn p init (l.drop k) i = if p x then i else dn p init (l.drop (k + 1)) (i + 1) := by
  have h := (List.getElem?_eq_some_iff.1 hk)
  rw [List.drop_eq_getElem_cons h.1, h.2]; rfl
section
variable {w0 : World} {N : Nat} {ds : List Deferred} {env : Env} {M : List Ent}
theorem short_c {A : Option Addr} {n c : Nat} {ls : List ByteArray} (hs : SlRd w0 M 1 A n (ls.map encS)) (most : Int) : ∀ w, Ok w0 M w → Calls Tryz.prog 5 #[.slice A n c, .int .i64 most] w (fun e w' => e = .returned (.bool (shortB most ls)) ∧ Ok w0 M w') := by
  have hbig := hs.big
  have hlen : ls.length = n := by have := hs.len; simpa using this
  refine enter (vs := [_, _]) Tryz.func5 rfl Tryz.ntmps5 rfl ?_
  refine t_seq ?_
  refine t_region ?_
  refine t_val (r_assign rfl) rfl ?_
  refine t_nil ?_
  refine Tr.keep (env' := [(0, _), (1, _)]) ⟨rfl, rfl, trivial⟩ ?_
  refine t_then ?_
  refine t_seq ?_
  refine t_seq ?_
  refine t_region ?_
  refine t_val (r_assign rfl) rfl ?_
  refine t_nil ?_
  refine Tr.keep (env' := [(0, _), (1, _), (5, _)]) ⟨rfl, rfl, rfl, trivial⟩ ?_
  refine t_then ?_
  refine t_block ?_
  refine t_loop (fun k : Nat => [(0, .slice A n c), (1, .int .i64 most), (5, .int .i64 (k : Int))]) (fun k : Nat => M) (fun k : Nat => k ≤ n ∧ ∀ s ∈ ls.take k, s.size ≤ 300) (fun k : Nat => n - k) 0 ⟨Nat.zero_le _, by simp⟩ ⟨rfl, rfl, rfl, trivial⟩ (.refl _) ?_
  intro K k ⟨hk, hall⟩ IH
  refine t_seq ?_
  refine t_seq ?_
  refine t_region ?_
  refine t_val (r_move rfl) rfl ?_
  refine t_val (r_move rfl) rfl ?_
  refine t_val (r_len_slice Tryz.underlying22 rfl) rfl ?_
  refine t_val (r_lt rfl rfl) rfl ?_
  refine t_nil ?_
  refine Tr.keep (env' := [(0, _), (1, _), (5, _), (9, _)]) ⟨rfl, rfl, rfl, rfl, trivial⟩ ?_
  refine t_then ?_
  refine t_cond rfl (fun hc1 => ?_) (fun hc1 => ?_)
  · have hlt : k < n := by simpa using hc1
    obtain ⟨b, o, hA, hrd⟩ := hs.at' (by omega)
    obtain ⟨s, hsk⟩ : ∃ s, ls[k]? = some s := ⟨_, List.getElem?_eq_getElem (by omega)⟩
    have hx : (ls.map encS)[k]? = some (encS s) := by rw [List.getElem?_map, hsk]; rfl
    refine t_skip ?_
    refine t_then ?_
    refine t_seq ?_
    refine t_block ?_
    refine t_seq ?_
    refine t_region ?_
    refine t_val (r_move rfl) rfl ?_
    refine t_val (r_move rfl) rfl ?_
    refine t_val (r_ia_s k Tryz.underlying22 iz_9 hA rfl rfl rfl hlt) rfl ?_
    refine t_val (r_load ca_9 rfl ((hrd k (encS s) hx 0 (.string s) rfl).sub (.refl _))) rfl ?_
    refine t_val (r_len_str Tryz.underlying9 rfl) rfl ?_
    refine t_val (r_gt rfl rfl) rfl ?_
    refine t_nil ?_
    refine Tr.keep (env' := [(0, _), (1, _), (5, _), (17, _)]) ⟨rfl, rfl, rfl, rfl, trivial⟩ ?_
    refine t_then ?_
    refine t_cond rfl (fun hc2 => ?_) (fun hc2 => ?_)
    · have h3 : 300 < s.size := by have := of_decide_eq_true hc2; omega
      refine t_seq ?_
      refine t_region ?_
      refine t_val (r_assign rfl) rfl ?_
      refine t_nil ?_
      refine Tr.keep (env' := [(4, _)]) ⟨rfl, trivial⟩ ?_
      refine t_then ?_
      refine t_retc ?_
      refine t_in_ret ?_
      refine t_then_ret ?_
      refine t_then_ret ?_
      refine t_in_ret ?_
      refine t_then_ret ?_
      refine t_ret1 rfl rfl (fun w hw => ?_)
      exact ⟨by rw [shortB_no hsk h3], hw⟩
    · have h3 : ¬ 300 < s.size := by have := of_decide_eq_false hc2; omega
      refine t_skip ?_
      refine t_in ?_
      refine t_then ?_
      refine t_region ?_
      refine t_val (r_move rfl) rfl ?_
      refine t_val (r_addi rfl rfl (by omega)) rfl ?_
      refine t_val (r_assign rfl) rfl ?_
      refine t_nil ?_
      refine Tr.keep (env' := [(0, _), (1, _), (5, _)]) ⟨rfl, rfl, rfl, trivial⟩ ?_
      refine t_then ?_
      refine t_K (IH (k + 1) ⟨by omega, take_all hall hsk (by omega)⟩ (by omega)) ⟨rfl, rfl, rfl, trivial⟩ (.refl _)
  · have hge : ¬ k < n := by simpa using hc1
    refine t_exit ?_
    refine t_then_exit ?_
    refine t_then_exit ?_
    refine t_in_hit ?_
    refine t_then ?_
    refine t_seq ?_
    refine t_region ?_
    refine t_val (r_move rfl) rfl ?_
    refine t_val (r_len_slice Tryz.underlying22 rfl) rfl ?_
    refine t_val (r_move rfl) rfl ?_
    refine t_val (r_le rfl rfl) rfl ?_
    refine t_val (r_assign rfl) rfl ?_
    refine t_nil ?_
    refine Tr.keep (env' := [(4, _)]) ⟨rfl, trivial⟩ ?_
    refine t_then ?_
    refine t_retc ?_
    refine t_ret1 rfl rfl (fun w hw => ?_)
    have hk2 : k = n := by omega
    subst hk2
    rw [List.take_of_length_le (by omega)] at hall
    exact ⟨by rw [shortB_all hall, hlen], hw⟩
theorem texts_same {A B : Option Addr} {n c d : Nat} {ls : List ByteArray} (hs : SlRd w0 M 1 A n (ls.map encS)) (hs2 : SlRd w0 M 1 B n (ls.map encS)) : ∀ w, Ok w0 M w → Calls Tryz.prog 7 #[.slice A n c, .slice B n d] w (fun e w' => e = .returned (.bool true) ∧ Ok w0 M w') := by
  have hbig := hs.big
  have hlen : ls.length = n := by have := hs.len; simpa using this
  refine enter (vs := [_, _]) Tryz.func7 rfl Tryz.ntmps7 rfl ?_
  refine t_seq ?_
  refine t_region ?_
  refine t_val (r_assign rfl) rfl ?_
  refine t_nil ?_
  refine Tr.keep (env' := [(0, _), (1, _)]) ⟨rfl, rfl, trivial⟩ ?_
  refine t_then ?_
  refine t_seq ?_
  refine t_seq ?_
  refine t_region ?_
  refine t_val (r_move rfl) rfl ?_
  refine t_val (r_len_slice Tryz.underlying22 rfl) rfl ?_
  refine t_val (r_move rfl) rfl ?_
  refine t_val (r_len_slice Tryz.underlying22 rfl) rfl ?_
  refine t_val (r_ne rfl rfl) rfl ?_
  refine t_nil ?_
  refine Tr.keep (env' := [(0, _), (1, _), (10, _)]) ⟨rfl, rfl, rfl, trivial⟩ ?_
  refine t_then ?_
  refine t_cond_f (b_of (by simp)) ?_
  refine t_skip ?_
  refine t_then ?_
  refine t_seq ?_
  refine t_seq ?_
  refine t_region ?_
  refine t_val (r_assign rfl) rfl ?_
  refine t_nil ?_
  refine Tr.keep (env' := [(0, _), (1, _), (5, _)]) ⟨rfl, rfl, rfl, trivial⟩ ?_
  refine t_then ?_
  refine t_block ?_
  refine t_loop (fun k : Nat => [(0, .slice A n c), (1, .slice B n d), (5, .int .i64 (k : Int))]) (fun k : Nat => M) (fun k : Nat => k ≤ n) (fun k : Nat => n - k) 0 (Nat.zero_le _) ⟨rfl, rfl, rfl, trivial⟩ (.refl _) ?_
  intro K k hk IH
  refine t_seq ?_
  refine t_seq ?_
  refine t_region ?_
  refine t_val (r_move rfl) rfl ?_
  refine t_val (r_move rfl) rfl ?_
  refine t_val (r_len_slice Tryz.underlying22 rfl) rfl ?_
  refine t_val (r_lt rfl rfl) rfl ?_
  refine t_nil ?_
  refine Tr.keep (env' := [(0, _), (1, _), (5, _), (14, _)]) ⟨rfl, rfl, rfl, rfl, trivial⟩ ?_
  refine t_then ?_
  refine t_cond rfl (fun hc1 => ?_) (fun hc1 => ?_)
  · have hlt : k < n := by simpa using hc1
    obtain ⟨b, o, hA, hrd⟩ := hs.at' (by omega)
    obtain ⟨s, hsk⟩ : ∃ s, ls[k]? = some s := ⟨_, List.getElem?_eq_getElem (by omega)⟩
    have hx : (ls.map encS)[k]? = some (encS s) := by rw [List.getElem?_map, hsk]; rfl
    obtain ⟨b2, o2, hB, hrd2⟩ := hs2.at' (by omega)
    refine t_skip ?_
    refine t_then ?_
    refine t_seq ?_
    refine t_block ?_
    refine t_seq ?_
    refine d_begin mixed rfl ?_
    refine d_val 0 rfl (by kernel_rfl) (by kernel_rfl) (by kernel_rfl) (.then (.inBlock (.then (.then (.inBlock (.then .body)))))) (.refl _) rfl (r_move rfl) ?_
    refine d_val 1 rfl (by kernel_rfl) (by kernel_rfl) (by kernel_rfl) (.then (.inBlock (.then (.then (.inBlock (.then .body)))))) (.refl _) rfl (r_move rfl) ?_
    refine d_val 2 rfl (by kernel_rfl) (by kernel_rfl) (by kernel_rfl) (.then (.inBlock (.then (.then (.inBlock (.then .body)))))) (.refl _) rfl (r_ia_s k Tryz.underlying22 iz_9 hA rfl rfl rfl hlt) ?_
    refine d_val 3 rfl (by kernel_rfl) (by kernel_rfl) (by kernel_rfl) (.then (.inBlock (.then (.then (.inBlock (.then .body)))))) (.refl _) rfl (r_load ca_9 rfl ((hrd k (encS s) hx 0 (.string s) rfl).sub (.refl _))) ?_
    refine d_val 4 rfl (by kernel_rfl) (by kernel_rfl) (by kernel_rfl) (.then (.inBlock (.then (.then (.inBlock (.then .body)))))) (.refl _) rfl (r_move rfl) ?_
    refine d_val 5 rfl (by kernel_rfl) (by kernel_rfl) (by kernel_rfl) (.then (.inBlock (.then (.then (.inBlock (.then .body)))))) (.refl _) rfl (r_move rfl) ?_
    refine d_val 6 rfl (by kernel_rfl) (by kernel_rfl) (by kernel_rfl) (.then (.inBlock (.then (.then (.inBlock (.then .body)))))) (.refl _) rfl (r_ia_s k Tryz.underlying22 iz_9 hB rfl rfl rfl hlt) ?_
    refine d_val 7 rfl (by kernel_rfl) (by kernel_rfl) (by kernel_rfl) (.then (.inBlock (.then (.then (.inBlock (.then .body)))))) (.refl _) rfl (r_load ca_9 rfl ((hrd2 k (encS s) hx 0 (.string s) rfl).sub (.refl _))) ?_
    refine d_val 8 rfl (by kernel_rfl) (by kernel_rfl) (by kernel_rfl) (.then (.inBlock (.then (.then (.inBlock (.then .body)))))) (.refl _) rfl (r_nes rfl rfl) ?_
    refine d_end (by kernel_rfl) ?_
    refine Tr.keep (env' := [(0, _), (1, _), (5, _), (25, _)]) ⟨rfl, rfl, rfl, rfl, trivial⟩ ?_
    refine t_then ?_
    refine t_cond_f (b_of (by simp)) ?_
    refine t_skip ?_
    refine t_in ?_
    refine t_then ?_
    refine t_region ?_
    refine t_val (r_move rfl) rfl ?_
    refine t_val (r_addi rfl rfl (by omega)) rfl ?_
    refine t_val (r_assign rfl) rfl ?_
    refine t_nil ?_
    refine Tr.keep (env' := [(0, _), (1, _), (5, _)]) ⟨rfl, rfl, rfl, trivial⟩ ?_
    refine t_then ?_
    refine t_K (IH (k + 1) (by omega) (by omega)) ⟨rfl, rfl, rfl, trivial⟩ (.refl _)
  · skip
    refine t_exit ?_
    refine t_then_exit ?_
    refine t_then_exit ?_
    refine t_in_hit ?_
    refine t_then ?_
    refine t_seq ?_
    refine t_region ?_
    refine t_val (r_assign rfl) rfl ?_
    refine t_nil ?_
    refine Tr.keep (env' := [(4, _)]) ⟨rfl, trivial⟩ ?_
    refine t_then ?_
    refine t_retc ?_
    refine t_ret1 rfl rfl (fun w hw => ?_)
    exact ⟨rfl, hw⟩
theorem chain_c (hT : Tab w0) {A : Option Addr} {n c : Nat} {ls : List ByteArray} (hs : SlRd w0 M 1 A n (ls.map encS)) (hsz : ∀ s ∈ ls, s.size ≤ 4611686018427387904) (hn : n ≤ 100000) : ∀ w, Ok w0 M w → Calls Tryz.prog 8 #[.slice A n c] w (fun e w' => ∃ x : Value × List Ent, e = .returned x.1 ∧ Own 9 1 x.1 ((chainsV ls).map encS) x.2 ∧ Ok w0 (x.2 ++ M) w') := by
  have hbig := hs.big
  have hlen : ls.length = n := by have := hs.len; simpa using this
  refine enter (vs := [_]) Tryz.func8 rfl Tryz.ntmps8 rfl ?_
  refine t_seq ?_
  refine t_region ?_
  refine t_val (r_assign rfl) rfl ?_
  refine t_nil ?_
  refine Tr.keep (env' := [(0, _)]) ⟨rfl, trivial⟩ ?_
  refine t_then ?_
  refine t_seq ?_
  refine t_region ?_
  refine t_val (r_assign rfl) rfl ?_
  refine t_nil ?_
  refine Tr.keep (env' := [(0, _), (3, _)]) ⟨rfl, rfl, trivial⟩ ?_
  refine t_then ?_
  refine t_seq ?_
  refine t_region ?_
  refine t_val (r_assign rfl) rfl ?_
  refine t_nil ?_
  refine Tr.keep (env' := [(0, _), (3, _), (4, _)]) ⟨rfl, rfl, rfl, trivial⟩ ?_
  refine t_then ?_
  refine t_seq ?_
  refine t_seq ?_
  refine t_region ?_
  refine t_val (r_move rfl) rfl ?_
  refine t_val (r_len_slice Tryz.underlying22 rfl) rfl ?_
  refine t_val (r_move rfl) rfl ?_
  refine t_nil ?_
  refine Tr.keep (env' := [(3, _), (4, _), (7, _), (8, _), (9, _)]) ⟨rfl, rfl, rfl, rfl, rfl, trivial⟩ ?_
  refine t_then ?_
  refine t_block ?_
  refine t_loop (fun z : Nat × Nat × Value × List Ent => [(3, .int .u64 (z.2.1 : Int)), (4, z.2.2.1), (7, .slice A n c), (8, .int .i64 n), (9, .int .i64 z.1)]) (fun z : Nat × Nat × Value × List Ent => z.2.2.2 ++ M) (fun z : Nat × Nat × Value × List Ent => z.1 ≤ n ∧ z.2.1 = cnF 14695981039346656037 (ls.take z.1) ∧ Own 9 1 z.2.2.1 ((chainsV (ls.take z.1)).map encS) z.2.2.2) (fun z : Nat × Nat × Value × List Ent => n - z.1) (0, 14695981039346656037, .slice none 0 0, []) ⟨Nat.zero_le _, rfl, Own.nil _ _⟩ ⟨rfl, rfl, rfl, rfl, rfl, trivial⟩ (.refl _) ?_
  intro K ⟨k, h, v, E⟩ ⟨hk, hh, hO⟩ IH
  dsimp only at hk hh hO IH ⊢
  refine t_seq ?_
  refine t_region ?_
  refine t_val (r_lt rfl rfl) rfl ?_
  refine t_nil ?_
  refine Tr.keep (env' := [(3, _), (4, _), (7, _), (8, _), (9, _), (10, _)]) ⟨rfl, rfl, rfl, rfl, rfl, rfl, trivial⟩ ?_
  refine t_then ?_
  refine t_seq ?_
  refine t_cond rfl (fun hc1 => ?_) (fun hc1 => ?_)
  · have hlt : k < n := by simpa using hc1
    obtain ⟨b, o, hA, hrd⟩ := hs.at' (by omega)
    obtain ⟨s, hsk⟩ : ∃ s, ls[k]? = some s := ⟨_, List.getElem?_eq_getElem (by omega)⟩
    have hx : (ls.map encS)[k]? = some (encS s) := by rw [List.getElem?_map, hsk]; rfl
    refine t_skip ?_
    refine t_then ?_
    refine t_seq ?_
    refine t_block ?_
    refine t_seq ?_
    refine t_region ?_
    refine t_val (r_ia_s k Tryz.underlying22 iz_9 hA rfl rfl rfl hlt) rfl ?_
    refine t_val (r_load ca_9 rfl ((hrd k (encS s) hx 0 (.string s) rfl).sub (List.sublist_append_right _ _))) rfl ?_
    refine t_val (r_assign rfl) rfl ?_
    refine t_nil ?_
    refine Tr.keep (env' := [(3, _), (4, _), (6, _), (7, _), (8, _), (9, _)]) ⟨rfl, rfl, rfl, rfl, rfl, rfl, trivial⟩ ?_
    refine t_then ?_
    refine t_seq ?_
    refine t_region ?_
    refine t_val (r_move rfl) rfl ?_
    refine t_val (r_move rfl) rfl ?_
    refine t_eff rfl (e_pcall en_21 rfl rfl rfl rfl (chainOfN_c _ s (hsz s (List.mem_of_getElem? hsk))) ?_)
    refine t_val (r_assign rfl) rfl ?_
    refine t_nil ?_
    refine Tr.keep (env' := [(3, _), (4, _), (7, _), (8, _), (9, _)]) ⟨rfl, rfl, rfl, rfl, rfl, trivial⟩ ?_
    refine t_then ?_
    refine t_region ?_
    refine t_val (r_move rfl) rfl ?_
    refine t_val (r_move rfl) rfl ?_
    refine t_eff rfl (e_pcall en_22 rfl rfl rfl rfl (digits_c hT _ (chainN_lt _ _)) ?_)
    refine t_eff rfl (e_buildSlice (E := 9) (l := encS (digitsV (chainN (h : Int) s))) rfl (fun w => by kernel_rfl) rfl fun b19 => ?_)
    refine t_eff rfl (e_append Tryz.underlying22 inf_9 rfl (by decide) rfl rfl hO (pk .here (pkb .here (.refl _))) rfl (by simp [encS, Value.oneCell']) (by simp [chainsV]; omega) (by simp [maxLen, chainsV]; omega) rfl fun v1 E1 hO1 => ?_)
    refine t_val (r_assign rfl) rfl ?_
    refine t_nil ?_
    refine Tr.keep (env' := [(3, _), (4, _), (7, _), (8, _), (9, _)]) ⟨rfl, rfl, rfl, rfl, rfl, trivial⟩ ?_
    refine t_in ?_
    refine t_then ?_
    refine t_region ?_
    refine t_val (r_addi rfl rfl (by omega)) rfl ?_
    refine t_val (r_move rfl) rfl ?_
    refine t_nil ?_
    refine Tr.keep (env' := [(3, _), (4, _), (7, _), (8, _), (9, _)]) ⟨rfl, rfl, rfl, rfl, rfl, trivial⟩ ?_
    refine t_then ?_
    refine t_K (IH (k + 1, chainN (h : Int) s, v1, E1) ⟨by omega, by rw [List.take_add_one, hsk, hh]; exact (cnF_add _ _ _).symm, by rw [List.take_add_one, hsk]; simp only [Option.toList_some, chainsV, chainsF_add, List.map_append]; rw [← hh]; exact hO1⟩ (by simp; omega)) ⟨rfl, rfl, rfl, rfl, rfl, trivial⟩ (.refl _)
  · have hge : ¬ k < n := by simpa using hc1
    refine t_exit ?_
    refine t_then_exit ?_
    refine t_then_exit ?_
    refine t_in_hit ?_
    refine t_then ?_
    refine t_seq ?_
    refine t_region ?_
    refine t_val (r_move rfl) rfl ?_
    refine t_val (r_assign rfl) rfl ?_
    refine t_nil ?_
    refine Tr.keep (env' := [(2, _)]) ⟨rfl, trivial⟩ ?_
    refine t_then ?_
    refine t_retc ?_
    refine t_ret1 rfl rfl (fun w hw => ?_)
    have hk2 : k = n := by omega
    subst hk2
    rw [List.take_of_length_le (by omega)] at hO
    exact ⟨(v, E), rfl, hO, hw⟩
end
end Go.Proofs.W
set_option linter.unusedVariables false
set_option linter.unusedSimpArgs false
set_option linter.unusedSectionVars false
set_option maxRecDepth 100000
namespace Go.Proofs.W
open Go Go.Sl Go.RowKit Go.Proofs
attribute [local irreducible] Go.Sl.Eff
theorem en_23 : Enters Tryz.prog 23 := enters_of Tryz.func23 (by kernel_rfl) (by kernel_rfl)
theorem en_8 : Enters Tryz.prog 8 := enters_of Tryz.func8 (by kernel_rfl) (by kernel_rfl)
theorem fo_27_0 : fieldOff Tryz.prog 27 0 = some 0 := by kernel_rfl
abbrev badF (p : ByteArray × ByteArray) : Bool := !decide (p.1 = p.2)
def hzip (es : List (ByteArray × ByteArray)) : List (ByteArray × ByteArray) := (es.map Prod.snd).zip (chainsV (es.map Prod.fst))
theorem hzip_at {es : List (ByteArray × ByteArray)} {k : Nat} {e : ByteArray × ByteArray} {s : ByteArray} (h1 : es[k]? = some e) (h2 : (chainsV (es.map Prod.fst))[k]? = some s) : (hzip es)[k]? = some (e.2, s) := by
  unfold hzip
  rw [List.getElem?_zip_eq_some]
  exact ⟨by rw [List.getElem?_map, h1]; rfl, h2⟩
theorem hzip_len (es : List (ByteArray × ByteArray)) : (hzip es).length = es.length := by simp [hzip]
def honestV (es : List (ByteArray × ByteArray)) : Int := dn badF (-1) (hzip es) 0
abbrev neE (q : (ByteArray × ByteArray) × (ByteArray × ByteArray)) : Bool := !(decide (q.1.1 = q.2.1) && decide (q.1.2 = q.2.2))
def partsV (a b : List (ByteArray × ByteArray)) : Int := dn neE (if a.length = b.length then -1 else ((min a.length b.length : Nat) : Int)) (a.zip b) 0
theorem zipE_at {a b : List (ByteArray × ByteArray)} {k : Nat} {x y : ByteArray × ByteArray} (h1 : a[k]? = some x) (h2 : b[k]? = some y) : (a.zip b)[k]? = some (x, y) := by
  rw [List.getElem?_zip_eq_some]; exact ⟨h1, h2⟩
section
variable {w0 : World} {N : Nat} {ds : List Deferred} {env : Env} {M : List Ent} {t : TypeId}
theorem r_neE {yT : TypeId} {x y : Operand} {a b c d : ByteArray} (hx : env.op x = some (.agg #[.string a, .string b])) (hy : env.op y = some (.agg #[.string c, .string d])) :
    Run Tryz.prog w0 N ds env M (.binOp .neq 27 x y yT) t (.bool (!(decide (a = c) && decide (b = d)))) :=
  r_neSS (f0 := { name := "Line", type := 9, offset := 0, embedded := false, tag := "", pkgPath := "", byteOffset := 0 }) (f1 := { name := "Chain", type := 9, offset := 1, embedded := false, tag := "", pkgPath := "", byteOffset := 16 })
    (by kernel_rfl) (by kernel_rfl) (by kernel_rfl) (by kernel_rfl) ⟨by decide, rfl, Tryz.underlying9, by kernel_rfl⟩ ⟨by decide, rfl, Tryz.underlying9, by kernel_rfl⟩ hx hy
end
section
variable {w0 : World} {N : Nat} {ds : List Deferred} {env : Env} {M : List Ent}
theorem lines_c {A : Option Addr} {n c : Nat} {es : List (ByteArray × ByteArray)} (hs : SlRd w0 M 2 A n (es.map encE)) (hn : n ≤ 100000) : ∀ w, Ok w0 M w → Calls Tryz.prog 23 #[.slice A n c] w (fun r w' => ∃ x : Value × List Ent, r = .returned x.1 ∧ Own 9 1 x.1 ((es.map Prod.fst).map encS) x.2 ∧ Ok w0 (x.2 ++ M) w') := by
  have hbig := hs.big
  have hlen : es.length = n := by have := hs.len; simpa using this
  refine enter (vs := [_]) Tryz.func23 rfl Tryz.ntmps23 rfl ?_
  refine t_seq ?_
  refine t_region ?_
  refine t_val (r_assign rfl) rfl ?_
  refine t_nil ?_
  refine Tr.keep (env' := [(0, _)]) ⟨rfl, trivial⟩ ?_
  refine t_then ?_
  refine t_seq ?_
  refine t_region ?_
  refine t_val (r_assign rfl) rfl ?_
  refine t_nil ?_
  refine Tr.keep (env' := [(0, _), (3, _)]) ⟨rfl, rfl, trivial⟩ ?_
  refine t_then ?_
  refine t_seq ?_
  refine t_seq ?_
  refine t_region ?_
  refine t_val (r_move rfl) rfl ?_
  refine t_val (r_len_slice Tryz.underlying23 rfl) rfl ?_
  refine t_val (r_move rfl) rfl ?_
  refine t_nil ?_
  refine Tr.keep (env' := [(3, _), (6, _), (7, _), (8, _)]) ⟨rfl, rfl, rfl, rfl, trivial⟩ ?_
  refine t_then ?_
  refine t_block ?_
  refine t_loop (fun z : Nat × Value × List Ent => [(3, z.2.1), (6, .slice A n c), (7, .int .i64 n), (8, .int .i64 z.1)]) (fun z : Nat × Value × List Ent => z.2.2 ++ M) (fun z : Nat × Value × List Ent => z.1 ≤ n ∧ Own 9 1 z.2.1 (((es.map Prod.fst).take z.1).map encS) z.2.2) (fun z : Nat × Value × List Ent => n - z.1) (0, .slice none 0 0, []) ⟨Nat.zero_le _, Own.nil _ _⟩ ⟨rfl, rfl, rfl, rfl, trivial⟩ (.refl _) ?_
  intro K ⟨k, v, E⟩ ⟨hk, hO⟩ IH
  dsimp only at hk hO IH ⊢
  refine t_seq ?_
  refine t_region ?_
  refine t_val (r_lt rfl rfl) rfl ?_
  refine t_nil ?_
  refine Tr.keep (env' := [(3, _), (6, _), (7, _), (8, _), (9, _)]) ⟨rfl, rfl, rfl, rfl, rfl, trivial⟩ ?_
  refine t_then ?_
  refine t_seq ?_
  refine t_cond rfl (fun hc1 => ?_) (fun hc1 => ?_)
  · have hlt : k < n := by simpa using hc1
    obtain ⟨b, o, hA, hrd⟩ := hs.at' (by omega)
    obtain ⟨e, hek⟩ : ∃ e, es[k]? = some e := ⟨_, List.getElem?_eq_getElem (by omega)⟩
    have hx : (es.map encE)[k]? = some (encE e) := by rw [List.getElem?_map, hek]; rfl
    refine t_skip ?_
    refine t_then ?_
    refine t_seq ?_
    refine t_block ?_
    refine t_seq ?_
    refine t_region ?_
    refine t_val (r_ia_s k Tryz.underlying23 iz_27 hA rfl rfl rfl hlt) rfl ?_
    refine t_val (r_to (v2 := .agg #[.string e.1, .string e.2]) (r_loads (vs := encE e) ca_27 rfl (fun j v hv => (hrd k (encE e) hx j v hv).sub (List.sublist_append_right _ _)) rfl) rfl) rfl ?_
    refine t_eff rfl (e_alloc inf_27 (l := [.string ⟨#[]⟩, .string ⟨#[]⟩]) rfl rfl fun b5 => ?_)
    refine t_eff rfl (e_stores iz_27 rfl rfl (vs := [_, _]) rfl rfl (by simp [Value.oneCell']) (.cons .zero (.cons (.succ .zero) .nil)) .here ?_)
    refine t_nil ?_
    refine Tr.keep (env' := [(3, _), (5, _), (6, _), (7, _), (8, _)]) ⟨rfl, rfl, rfl, rfl, rfl, trivial⟩ ?_
    refine t_then ?_
    refine t_region ?_
    refine t_val (r_move rfl) rfl ?_
    refine t_val (r_fa fo_27_0 rfl) rfl ?_
    refine t_val (r_load ca_9 rfl (rd_m (.head _) rfl)) rfl ?_
    refine t_eff rfl (e_buildSlice (E := 9) (l := encS e.1) rfl (fun w => by kernel_rfl) rfl fun b15 => ?_)
    refine t_eff rfl (e_append Tryz.underlying22 inf_9 rfl (by decide) rfl rfl hO (pk .here (pkb (.there .here) (.refl _))) rfl (by simp [encS, Value.oneCell']) (by simp; omega) (by simp [maxLen]; omega) rfl fun v1 E1 hO1 => ?_)
    refine t_val (r_assign rfl) rfl ?_
    refine t_nil ?_
    refine Tr.keep (env' := [(3, _), (6, _), (7, _), (8, _)]) ⟨rfl, rfl, rfl, rfl, trivial⟩ ?_
    refine t_in ?_
    refine t_then ?_
    refine t_region ?_
    refine t_val (r_addi rfl rfl (by omega)) rfl ?_
    refine t_val (r_move rfl) rfl ?_
    refine t_nil ?_
    refine Tr.keep (env' := [(3, _), (6, _), (7, _), (8, _)]) ⟨rfl, rfl, rfl, rfl, trivial⟩ ?_
    refine t_then ?_
    refine t_K (IH (k + 1, v1, E1) ⟨by omega, by rw [List.take_add_one, List.getElem?_map, hek]; simpa using hO1⟩ (by simp; omega)) ⟨rfl, rfl, rfl, rfl, trivial⟩ (List.Sublist.append (.refl _) (.cons _ (.refl _)))
  · have hge : ¬ k < n := by simpa using hc1
    refine t_exit ?_
    refine t_then_exit ?_
    refine t_then_exit ?_
    refine t_in_hit ?_
    refine t_then ?_
    refine t_seq ?_
    refine t_region ?_
    refine t_val (r_move rfl) rfl ?_
    refine t_val (r_assign rfl) rfl ?_
    refine t_nil ?_
    refine Tr.keep (env' := [(2, _)]) ⟨rfl, trivial⟩ ?_
    refine t_then ?_
    refine t_retc ?_
    refine t_ret1 rfl rfl (fun w hw => ?_)
    have hk2 : k = n := by omega
    subst hk2
    rw [List.take_of_length_le (by simp; omega)] at hO
    exact ⟨(v, E), rfl, hO, hw⟩
theorem honest_c (hT : Tab w0) {A : Option Addr} {n c : Nat} {es : List (ByteArray × ByteArray)} (hs : SlRd w0 M 2 A n (es.map encE)) (hsz : ∀ e ∈ es, e.1.size ≤ 4611686018427387904) (hn : n ≤ 100000) : ∀ w, Ok w0 M w → Calls Tryz.prog 10 #[.slice A n c] w (fun r w' => r = .returned (.int .i64 (honestV es)) ∧ Ok w0 M w') := by
  have hbig := hs.big
  have hlen : es.length = n := by have := hs.len; simpa using this
  have hsz' : ∀ s ∈ es.map Prod.fst, s.size ≤ 4611686018427387904 := by
    intro s h
    obtain ⟨e, he, rfl⟩ := List.mem_map.1 h
    exact hsz e he
  refine enter (vs := [_]) Tryz.func10 rfl Tryz.ntmps10 rfl ?_
  refine t_seq ?_
  refine t_region ?_
  refine t_val (r_assign rfl) rfl ?_
  refine t_nil ?_
  refine Tr.keep (env' := [(0, _)]) ⟨rfl, trivial⟩ ?_
  refine t_then ?_
  refine t_seq ?_
  refine t_seq ?_
  refine t_region ?_
  refine t_val (r_move rfl) rfl ?_
  refine t_eff rfl (e_call en_23 rfl rfl rfl rfl (lines_c hs hn) fun x hO1 => ?_)
  obtain ⟨v1, E1⟩ := x
  obtain ⟨A1, c1, hv1, _, _, hrd1⟩ := hO1.rd (by simp; omega)
  dsimp only at hv1 ⊢
  subst hv1
  simp only [List.length_map] at hrd1 hO1 ⊢
  refine t_eff rfl (e_call en_8 rfl rfl rfl rfl (chain_c hT (hrd1 w0 _ (fun z hz => List.mem_append_left _ hz)) hsz' (by omega)) fun x hO2 => ?_)
  obtain ⟨v2, E2⟩ := x
  obtain ⟨A2, c2, hv2, _, _, hrd2'⟩ := hO2.rd (by simp; omega)
  dsimp only at hv2 ⊢
  subst hv2
  have hs2 := hrd2' w0 (E2 ++ (E1 ++ M)) (fun z hz => List.mem_append_left _ hz)
  simp only [List.length_map, chainsV_len] at hs2 hO2 ⊢
  rw [hlen] at hs2 ⊢
  refine t_val (r_len_slice Tryz.underlying22 rfl) rfl ?_
  refine t_val (r_move rfl) rfl ?_
  refine t_nil ?_
  refine Tr.keep (env' := [(0, _), (7, _), (8, _), (9, _)]) ⟨rfl, rfl, rfl, rfl, trivial⟩ ?_
  refine t_then ?_
  refine t_block ?_
  refine t_loop (fun k : Nat => [(0, .slice A n c), (7, .slice A2 n c2), (8, .int .i64 n), (9, .int .i64 (k : Int))]) (fun k : Nat => E2 ++ (E1 ++ M)) (fun k : Nat => k ≤ n ∧ ∀ y ∈ (hzip es).take k, badF y = false) (fun k : Nat => n - k) 0 ⟨Nat.zero_le _, by simp⟩ ⟨rfl, rfl, rfl, rfl, trivial⟩ (.refl _) ?_
  intro K k ⟨hk, hall⟩ IH
  refine t_seq ?_
  refine t_region ?_
  refine t_val (r_lt rfl rfl) rfl ?_
  refine t_nil ?_
  refine Tr.keep (env' := [(0, _), (7, _), (8, _), (9, _), (10, _)]) ⟨rfl, rfl, rfl, rfl, rfl, trivial⟩ ?_
  refine t_then ?_
  refine t_seq ?_
  refine t_cond rfl (fun hc1 => ?_) (fun hc1 => ?_)
  · have hlt : k < n := by simpa using hc1
    obtain ⟨b, o, hA, hrd⟩ := hs.at' (by omega)
    obtain ⟨e, hek⟩ : ∃ e, es[k]? = some e := ⟨_, List.getElem?_eq_getElem (by omega)⟩
    have hx : (es.map encE)[k]? = some (encE e) := by rw [List.getElem?_map, hek]; rfl
    obtain ⟨b2, o2, hA2, hrd2⟩ := hs2.at' (by omega)
    obtain ⟨s, hsk⟩ : ∃ s, (chainsV (es.map Prod.fst))[k]? = some s := ⟨_, List.getElem?_eq_getElem (by simp; omega)⟩
    have hx2 : ((chainsV (es.map Prod.fst)).map encS)[k]? = some (encS s) := by rw [List.getElem?_map, hsk]; rfl
    refine t_skip ?_
    refine t_then ?_
    refine t_seq ?_
    refine t_block ?_
    refine t_seq ?_
    refine t_region ?_
    refine t_val (r_move rfl) rfl ?_
    refine t_val (r_ia_s k Tryz.underlying22 iz_9 hA2 rfl rfl rfl hlt) rfl ?_
    refine t_val (r_load ca_9 rfl (hrd2 k (encS s) hx2 0 (.string s) rfl)) rfl ?_
    refine t_val (r_assign rfl) rfl ?_
    refine t_val (r_assign rfl) rfl ?_
    refine t_nil ?_
    refine Tr.keep (env' := [(0, _), (3, _), (4, _), (7, _), (8, _), (9, _)]) ⟨rfl, rfl, rfl, rfl, rfl, rfl, trivial⟩ ?_
    refine t_then ?_
    refine t_seq ?_
    refine t_region ?_
    refine t_val (r_move rfl) rfl ?_
    refine t_val (r_move rfl) rfl ?_
    refine t_val (r_ia_s k Tryz.underlying23 iz_27 hA rfl rfl rfl hlt) rfl ?_
    refine t_val (r_fa fo_27_1 rfl) rfl ?_
    refine t_val (r_load ca_9 rfl ((hrd k (encE e) hx 1 (.string e.2) rfl).sub (((List.sublist_append_right E1 M).trans (List.sublist_append_right E2 (E1 ++ M)))))) rfl ?_
    refine t_val (r_move rfl) rfl ?_
    refine t_val (r_nes rfl rfl) rfl ?_
    refine t_nil ?_
    refine Tr.keep (env' := [(0, _), (3, _), (7, _), (8, _), (9, _), (20, _)]) ⟨rfl, rfl, rfl, rfl, rfl, rfl, trivial⟩ ?_
    refine t_then ?_
    refine t_cond rfl (fun hc2 => ?_) (fun hc2 => ?_)
    · skip
      refine t_seq ?_
      refine t_region ?_
      refine t_val (r_move rfl) rfl ?_
      refine t_val (r_assign rfl) rfl ?_
      refine t_nil ?_
      refine Tr.keep (env' := [(2, _)]) ⟨rfl, trivial⟩ ?_
      refine t_then ?_
      refine t_retc ?_
      refine t_in_ret ?_
      refine t_then_ret ?_
      refine t_then_ret ?_
      refine t_in_ret ?_
      refine t_then_ret ?_
      refine t_ret1 rfl rfl (fun w hw => ?_)
      have := dn_at (init := -1) 0 hall (hzip_at hek hsk) hc2
      exact ⟨by rw [honestV, this]; simp, hw.sub ((List.sublist_append_right E1 M).trans (List.sublist_append_right E2 (E1 ++ M)))⟩
    · skip
      refine t_skip ?_
      refine t_in ?_
      refine t_then ?_
      refine t_region ?_
      refine t_val (r_addi rfl rfl (by omega)) rfl ?_
      refine t_val (r_move rfl) rfl ?_
      refine t_nil ?_
      refine Tr.keep (env' := [(0, _), (7, _), (8, _), (9, _)]) ⟨rfl, rfl, rfl, rfl, trivial⟩ ?_
      refine t_then ?_
      refine t_K (IH (k + 1) ⟨by omega, take_all hall (hzip_at hek hsk) hc2⟩ (by omega)) ⟨rfl, rfl, rfl, rfl, trivial⟩ (.refl _)
  · have hge : ¬ k < n := by simpa using hc1
    refine t_exit ?_
    refine t_then_exit ?_
    refine t_then_exit ?_
    refine t_in_hit ?_
    refine t_then ?_
    refine t_seq ?_
    refine t_region ?_
    refine t_val (r_assign rfl) rfl ?_
    refine t_nil ?_
    refine Tr.keep (env' := [(2, _)]) ⟨rfl, trivial⟩ ?_
    refine t_then ?_
    refine t_retc ?_
    refine t_ret1 rfl rfl (fun w hw => ?_)
    have hk2 : k = n := by omega
    subst hk2
    rw [List.take_of_length_le (by rw [hzip_len]; omega)] at hall
    exact ⟨by rw [honestV, dn_no 0 hall], hw.sub ((List.sublist_append_right E1 M).trans (List.sublist_append_right E2 (E1 ++ M)))⟩
theorem parts_c {A B : Option Addr} {n c m d : Nat} {es fs : List (ByteArray × ByteArray)} (hs : SlRd w0 M 2 A n (es.map encE)) (hs2 : SlRd w0 M 2 B m (fs.map encE)) : ∀ w, Ok w0 M w → Calls Tryz.prog 11 #[.slice A n c, .slice B m d] w (fun r w' => r = .returned (.int .i64 (partsV es fs)) ∧ Ok w0 M w') := by
  have hbig := hs.big
  have hlen : es.length = n := by have := hs.len; simpa using this
  have hbig2 := hs2.big
  have hlen2 : fs.length = m := by have := hs2.len; simpa using this
  refine enter (vs := [_, _]) Tryz.func11 rfl Tryz.ntmps11 rfl ?_
  refine t_seq ?_
  refine t_region ?_
  refine t_val (r_assign rfl) rfl ?_
  refine t_nil ?_
  refine Tr.keep (env' := [(0, _), (1, _)]) ⟨rfl, rfl, trivial⟩ ?_
  refine t_then ?_
  refine t_seq ?_
  refine t_region ?_
  refine t_val (r_move rfl) rfl ?_
  refine t_val (r_len_slice Tryz.underlying23 rfl) rfl ?_
  refine t_val (r_move rfl) rfl ?_
  refine t_val (r_len_slice Tryz.underlying23 rfl) rfl ?_
  refine t_val (r_min rfl rfl) rfl ?_
  refine t_val (r_assign rfl) rfl ?_
  refine t_nil ?_
  refine Tr.keep (env' := [(0, _), (1, _), (5, _)]) ⟨rfl, rfl, rfl, trivial⟩ ?_
  refine t_then ?_
  refine t_seq ?_
  refine t_seq ?_
  refine t_region ?_
  refine t_val (r_move rfl) rfl ?_
  refine t_val (r_move rfl) rfl ?_
  refine t_nil ?_
  refine Tr.keep (env' := [(0, _), (1, _), (5, _), (12, _), (13, _)]) ⟨rfl, rfl, rfl, rfl, rfl, trivial⟩ ?_
  refine t_then ?_
  refine t_block ?_
  refine t_loop (fun k : Nat => [(0, .slice A n c), (1, .slice B m d), (5, .int .i64 (min (n : Int) (m : Int))), (12, .int .i64 (min (n : Int) (m : Int))), (13, .int .i64 (k : Int))]) (fun k : Nat => M) (fun k : Nat => (k ≤ n ∧ k ≤ m) ∧ ∀ y ∈ (es.zip fs).take k, neE y = false) (fun k : Nat => n - k) 0 ⟨⟨Nat.zero_le _, Nat.zero_le _⟩, by simp⟩ ⟨rfl, rfl, rfl, rfl, rfl, trivial⟩ (.refl _) ?_
  intro K k ⟨hk, hall⟩ IH
  refine t_seq ?_
  refine t_region ?_
  refine t_val (r_lt rfl rfl) rfl ?_
  refine t_nil ?_
  refine Tr.keep (env' := [(0, _), (1, _), (5, _), (12, _), (13, _), (14, _)]) ⟨rfl, rfl, rfl, rfl, rfl, rfl, trivial⟩ ?_
  refine t_then ?_
  refine t_seq ?_
  refine t_cond rfl (fun hc1 => ?_) (fun hc1 => ?_)
  · have hlt : k < n ∧ k < m := by have := of_decide_eq_true hc1; omega
    obtain ⟨b, o, hA, hrd⟩ := hs.at' (by omega)
    obtain ⟨e, hek⟩ : ∃ e, es[k]? = some e := ⟨_, List.getElem?_eq_getElem (by omega)⟩
    have hx : (es.map encE)[k]? = some (encE e) := by rw [List.getElem?_map, hek]; rfl
    obtain ⟨b2, o2, hB, hrd2⟩ := hs2.at' (by omega)
    obtain ⟨f, hfk⟩ : ∃ f, fs[k]? = some f := ⟨_, List.getElem?_eq_getElem (by omega)⟩
    have hx2 : (fs.map encE)[k]? = some (encE f) := by rw [List.getElem?_map, hfk]; rfl
    refine t_skip ?_
    refine t_then ?_
    refine t_seq ?_
    refine t_block ?_
    refine t_seq ?_
    refine t_region ?_
    refine t_val (r_move rfl) rfl ?_
    refine t_val (r_assign rfl) rfl ?_
    refine t_nil ?_
    refine Tr.keep (env' := [(0, _), (1, _), (5, _), (6, _), (12, _), (13, _)]) ⟨rfl, rfl, rfl, rfl, rfl, rfl, trivial⟩ ?_
    refine t_then ?_
    refine t_seq ?_
    refine d_begin mixed rfl ?_
    refine d_val 0 rfl (by kernel_rfl) (by kernel_rfl) (by kernel_rfl) (.then (.inBlock (.then (.then (.inBlock (.then .body)))))) (.refl _) rfl (r_move rfl) ?_
    refine d_val 1 rfl (by kernel_rfl) (by kernel_rfl) (by kernel_rfl) (.then (.inBlock (.then (.then (.inBlock (.then .body)))))) (.refl _) rfl (r_move rfl) ?_
    refine d_val 2 rfl (by kernel_rfl) (by kernel_rfl) (by kernel_rfl) (.then (.inBlock (.then (.then (.inBlock (.then .body)))))) (.refl _) rfl (r_ia_s k Tryz.underlying23 iz_27 hA rfl rfl rfl hlt.1) ?_
    refine d_val 3 rfl (by kernel_rfl) (by kernel_rfl) (by kernel_rfl) (.then (.inBlock (.then (.then (.inBlock (.then .body)))))) (.refl _) rfl (r_to (v2 := .agg #[.string e.1, .string e.2]) (r_loads (vs := encE e) ca_27 rfl (fun j v hv => (hrd k (encE e) hx j v hv).sub (.refl _)) rfl) rfl) ?_
    refine d_val 4 rfl (by kernel_rfl) (by kernel_rfl) (by kernel_rfl) (.then (.inBlock (.then (.then (.inBlock (.then .body)))))) (.refl _) rfl (r_move rfl) ?_
    refine d_val 5 rfl (by kernel_rfl) (by kernel_rfl) (by kernel_rfl) (.then (.inBlock (.then (.then (.inBlock (.then .body)))))) (.refl _) rfl (r_move rfl) ?_
    refine d_val 6 rfl (by kernel_rfl) (by kernel_rfl) (by kernel_rfl) (.then (.inBlock (.then (.then (.inBlock (.then .body)))))) (.refl _) rfl (r_ia_s k Tryz.underlying23 iz_27 hB rfl rfl rfl hlt.2) ?_
    refine d_val 7 rfl (by kernel_rfl) (by kernel_rfl) (by kernel_rfl) (.then (.inBlock (.then (.then (.inBlock (.then .body)))))) (.refl _) rfl (r_to (v2 := .agg #[.string f.1, .string f.2]) (r_loads (vs := encE f) ca_27 rfl (fun j v hv => (hrd2 k (encE f) hx2 j v hv).sub (.refl _)) rfl) rfl) ?_
    refine d_val 8 rfl (by kernel_rfl) (by kernel_rfl) (by kernel_rfl) (.then (.inBlock (.then (.then (.inBlock (.then .body)))))) (.refl _) rfl (r_neE rfl rfl) ?_
    refine d_end (by kernel_rfl) ?_
    refine Tr.keep (env' := [(0, _), (1, _), (5, _), (6, _), (12, _), (13, _), (24, _)]) ⟨rfl, rfl, rfl, rfl, rfl, rfl, rfl, trivial⟩ ?_
    refine t_then ?_
    refine t_cond rfl (fun hc2 => ?_) (fun hc2 => ?_)
    · skip
      refine t_seq ?_
      refine t_region ?_
      refine t_val (r_move rfl) rfl ?_
      refine t_val (r_assign rfl) rfl ?_
      refine t_nil ?_
      refine Tr.keep (env' := [(4, _)]) ⟨rfl, trivial⟩ ?_
      refine t_then ?_
      refine t_retc ?_
      refine t_in_ret ?_
      refine t_then_ret ?_
      refine t_then_ret ?_
      refine t_in_ret ?_
      refine t_then_ret ?_
      refine t_ret1 rfl rfl (fun w hw => ?_)
      have := dn_at (init := if es.length = fs.length then -1 else ((min es.length fs.length : Nat) : Int)) 0 hall (zipE_at hek hfk) hc2
      exact ⟨by rw [partsV, this]; simp, hw⟩
    · skip
      refine t_skip ?_
      refine t_in ?_
      refine t_then ?_
      refine t_region ?_
      refine t_val (r_addi rfl rfl (by omega)) rfl ?_
      refine t_val (r_move rfl) rfl ?_
      refine t_nil ?_
      refine Tr.keep (env' := [(0, _), (1, _), (5, _), (12, _), (13, _)]) ⟨rfl, rfl, rfl, rfl, rfl, trivial⟩ ?_
      refine t_then ?_
      refine t_K (IH (k + 1) ⟨by omega, take_all hall (zipE_at hek hfk) hc2⟩ (by omega)) ⟨rfl, rfl, rfl, rfl, rfl, trivial⟩ (.refl _)
  · have hge : ¬ (k < n ∧ k < m) := by have := of_decide_eq_false hc1; omega
    have hno := hall
    rw [List.take_of_length_le (by simp; omega)] at hno
    refine t_exit ?_
    refine t_then_exit ?_
    refine t_then_exit ?_
    refine t_in_hit ?_
    refine t_then ?_
    refine t_seq ?_
    refine t_seq ?_
    refine t_region ?_
    refine t_val (r_move rfl) rfl ?_
    refine t_val (r_len_slice Tryz.underlying23 rfl) rfl ?_
    refine t_val (r_move rfl) rfl ?_
    refine t_val (r_len_slice Tryz.underlying23 rfl) rfl ?_
    refine t_val (r_eq rfl rfl) rfl ?_
    refine t_nil ?_
    refine Tr.keep (env' := [(5, _), (31, _)]) ⟨rfl, rfl, trivial⟩ ?_
    refine t_then ?_
    refine t_cond rfl (fun hc3 => ?_) (fun hc3 => ?_)
    · skip
      refine t_seq ?_
      refine t_region ?_
      refine t_val (r_assign rfl) rfl ?_
      refine t_nil ?_
      refine Tr.keep (env' := [(4, _)]) ⟨rfl, trivial⟩ ?_
      refine t_then ?_
      refine t_retc ?_
      refine t_then_ret ?_
      refine t_ret1 rfl rfl (fun w hw => ?_)
      have h3 : n = m := by have h4 := hc3; simp at h4; omega
      exact ⟨by rw [partsV, dn_no 0 hno, if_pos (by omega)], hw⟩
    · skip
      refine t_skip ?_
      refine t_then ?_
      refine t_seq ?_
      refine t_region ?_
      refine t_val (r_move rfl) rfl ?_
      refine t_val (r_assign rfl) rfl ?_
      refine t_nil ?_
      refine Tr.keep (env' := [(4, _)]) ⟨rfl, trivial⟩ ?_
      refine t_then ?_
      refine t_retc ?_
      refine t_ret1 rfl rfl (fun w hw => ?_)
      have h3 : n ≠ m := by have h4 := hc3; simp at h4; omega
      exact ⟨by rw [partsV, dn_no 0 hno, if_neg (by omega), hlen, hlen2, show ((min n m : Nat) : Int) = min (n : Int) m by omega], hw⟩
end
end Go.Proofs.W
set_option linter.unusedVariables false
set_option linter.unusedSimpArgs false
set_option linter.unusedSectionVars false
set_option maxRecDepth 100000
namespace Go.Proofs.W
open Go Go.Sl Go.RowKit Go.Proofs
attribute [local irreducible] Go.Sl.Eff
def lowD (h : Nat) : Nat → List UInt8
  | 0 => []
  | j + 1 => hexd (h / 16 ^ j % 16) :: lowD h j
@[simp] theorem lowD_len (h : Nat) : ∀ j, (lowD h j).length = j
  | 0 => rfl
  | j + 1 => by simp [lowD, lowD_len h j]
theorem div_next (h j : Nat) : h / 16 ^ j / 16 = h / 16 ^ (j + 1) := by rw [Nat.div_div_eq_div_mul, Nat.pow_succ]
theorem hexA_low (h : Nat) : ∀ f j, h / 16 ^ j < 16 ^ (f + 1) → ∃ L, h / 16 ^ L = 0 ∧ hexA (f + 1) (h / 16 ^ j) (lowD h j) = lowD h L
  | f, j, hb => by
    by_cases hn : h / 16 ^ j < 16
    · refine ⟨j + 1, by rw [← div_next]; exact Nat.div_eq_of_lt hn, ?_⟩
      rw [hexA_lt hn, lowD, Nat.mod_eq_of_lt hn]
    · rw [hexA_ge hn]
      cases f with
      | zero => simp at hb; omega
      | succ f =>
        obtain ⟨L, h1, h2⟩ := hexA_low h f (j + 1) (by rw [← div_next, Nat.div_lt_iff_lt_mul (by decide), ← Nat.pow_succ]; exact hb)
        refine ⟨L, h1, ?_⟩
        rw [← h2, div_next, lowD]
theorem low_high (h L : Nat) (h0 : h / 16 ^ L = 0) : ∀ m, lowD h (L + m) = List.replicate m 48 ++ lowD h L
  | 0 => rfl
  | m + 1 => by
    have : h / 16 ^ (L + m) = 0 := by rw [Nat.pow_add, ← Nat.div_div_eq_div_mul, h0]; simp
    rw [show L + (m + 1) = L + m + 1 by omega, lowD, this, low_high h L h0 m]
    rfl
theorem digits_low {h : Nat} (hh : h < 18446744073709551616) : (⟨(lowD h 16).toArray⟩ : ByteArray) = digitsV h := by
  obtain ⟨L, h1, h2⟩ := hexA_low h 16 0 (by simp; omega)
  rw [show h / 16 ^ 0 = h by simp] at h2
  have e : hexS h = lowD h L := h2
  have hl := hexS_len hh
  rw [e, lowD_len] at hl
  have := low_high h L h1 (16 - L)
  rw [show L + (16 - L) = 16 by omega] at this
  refine ByteArray.ext (Array.toList_inj.1 ?_)
  rw [digitsV_list, e, lowD_len, ← this]
theorem rem16 (n : Nat) : ((n : Int)).tmod 16 = ((n % 16 : Nat) : Int) := rfl
theorem quo16 {n : Nat} (h : n < 18446744073709551616) : IntKind.u64.wrap (((n : Int)).tdiv 16) = ((n / 16 : Nat) : Int) := by
  rw [show ((n : Int)).tdiv 16 = ((n / 16 : Nat) : Int) from rfl, IntKind.wrap_u64]
  omega
theorem conv16 {n : Nat} (h : n < 16) : IntKind.i64.wrap ((n : Nat) : Int) = (n : Int) := wrap_i64_in (by omega)
abbrev hex16 : ByteArray := ⟨#[48, 49, 50, 51, 52, 53, 54, 55, 56, 57, 97, 98, 99, 100, 101, 102]⟩
theorem hex16_cut {d : Nat} (h : d < 16) (l : List UInt8) : hex16.extract d (d + 1) ++ (⟨l.toArray⟩ : ByteArray) = ⟨(hexd d :: l).toArray⟩ := by
  have : ∀ d : Fin 16, hex16.extract d.val (d.val + 1) = ⟨#[hexd d.val]⟩ := by decide
  rw [show hex16.extract d (d + 1) = ⟨#[hexd d]⟩ from this ⟨d, h⟩]
  refine ByteArray.ext (Array.toList_inj.1 ?_)
  rw [ByteArray.data_append]
  simp
theorem cut_fits (h r j : Nat) (hj : j ≤ 16) : (hex16.extract r (r + 1)).size + (⟨(lowD h j).toArray⟩ : ByteArray).size ≤ maxLen := by
  have h1 : (hex16.extract r (r + 1)).size ≤ 16 := by
    rw [ByteArray.size_extract]
    show min _ 16 - _ ≤ 16
    omega
  have h2 : (⟨(lowD h j).toArray⟩ : ByteArray).size = j := by
    show (lowD h j).toArray.size = j
    simp
  rw [h2]; unfold maxLen; omega
section
variable {w0 : World} {N : Nat} {ds : List Deferred} {env : Env} {M : List Ent}
theorem refChain_c {A : Option Addr} {n c : Nat} {ls : List ByteArray} (hs : SlRd w0 M 1 A n (ls.map encS)) (hsz : ∀ s ∈ ls, s.size ≤ 4611686018427387904) (hn : n ≤ 100000) : ∀ w, Ok w0 M w → Calls Tryz.prog 9 #[.slice A n c] w (fun e w' => ∃ x : Value × List Ent, e = .returned x.1 ∧ Own 9 1 x.1 ((chainsV ls).map encS) x.2 ∧ Ok w0 (x.2 ++ M) w') := by
  have hbig := hs.big
  have hlen : ls.length = n := by have := hs.len; simpa using this
  refine enter (vs := [_]) Tryz.func9 rfl Tryz.ntmps9 rfl ?_
  refine t_seq ?_
  refine t_region ?_
  refine t_val (r_assign rfl) rfl ?_
  refine t_nil ?_
  refine Tr.keep (env' := [(0, _)]) ⟨rfl, trivial⟩ ?_
  refine t_then ?_
  refine t_seq ?_
  refine t_region ?_
  refine t_val (r_assign rfl) rfl ?_
  refine t_nil ?_
  refine Tr.keep (env' := [(0, _), (3, _)]) ⟨rfl, rfl, trivial⟩ ?_
  refine t_then ?_
  refine t_seq ?_
  refine t_region ?_
  refine t_val (r_assign rfl) rfl ?_
  refine t_nil ?_
  refine Tr.keep (env' := [(0, _), (3, _), (4, _)]) ⟨rfl, rfl, rfl, trivial⟩ ?_
  refine t_then ?_
  refine t_seq ?_
  refine t_region ?_
  refine t_val (r_assign rfl) rfl ?_
  refine t_nil ?_
  refine Tr.keep (env' := [(0, _), (3, _), (4, _), (5, _)]) ⟨rfl, rfl, rfl, rfl, trivial⟩ ?_
  refine t_then ?_
  refine t_seq ?_
  refine t_seq ?_
  refine t_region ?_
  refine t_val (r_assign rfl) rfl ?_
  refine t_nil ?_
  refine Tr.keep (env' := [(0, _), (3, _), (4, _), (5, _), (6, _)]) ⟨rfl, rfl, rfl, rfl, rfl, trivial⟩ ?_
  refine t_then ?_
  refine t_block ?_
  refine t_loop (fun z : Nat × Nat × Value × List Ent => [(0, .slice A n c), (3, .string hex16), (4, .int .u64 (z.2.1 : Int)), (5, z.2.2.1), (6, .int .i64 z.1)]) (fun z : Nat × Nat × Value × List Ent => z.2.2.2 ++ M) (fun z : Nat × Nat × Value × List Ent => z.1 ≤ n ∧ z.2.1 = cnF 14695981039346656037 (ls.take z.1) ∧ Own 9 1 z.2.2.1 ((chainsV (ls.take z.1)).map encS) z.2.2.2) (fun z : Nat × Nat × Value × List Ent => n - z.1) (0, 14695981039346656037, .slice none 0 0, []) ⟨Nat.zero_le _, rfl, Own.nil _ _⟩ ⟨rfl, rfl, rfl, rfl, rfl, trivial⟩ (.refl _) ?_
  intro K ⟨k, h, v, E⟩ ⟨hk, hh, hO⟩ IH
  dsimp only at hk hh hO IH ⊢
  refine t_seq ?_
  refine t_seq ?_
  refine t_region ?_
  refine t_val (r_move rfl) rfl ?_
  refine t_val (r_move rfl) rfl ?_
  refine t_val (r_len_slice Tryz.underlying22 rfl) rfl ?_
  refine t_val (r_lt rfl rfl) rfl ?_
  refine t_nil ?_
  refine Tr.keep (env' := [(0, _), (3, _), (4, _), (5, _), (6, _), (15, _)]) ⟨rfl, rfl, rfl, rfl, rfl, rfl, trivial⟩ ?_
  refine t_then ?_
  refine t_cond rfl (fun hc1 => ?_) (fun hc1 => ?_)
  · have hlt : k < n := by have := of_decide_eq_true hc1; omega
    obtain ⟨b, o, hA, hrd⟩ := hs.at' (by omega)
    obtain ⟨s, hsk⟩ : ∃ s, ls[k]? = some s := ⟨_, List.getElem?_eq_getElem (by omega)⟩
    have hx : (ls.map encS)[k]? = some (encS s) := by rw [List.getElem?_map, hsk]; rfl
    have hss := hsz s (List.mem_of_getElem? hsk)
    refine t_skip ?_
    refine t_then ?_
    refine t_seq ?_
    refine t_block ?_
    refine t_seq ?_
    refine t_seq ?_
    refine t_region ?_
    refine t_val (r_assign rfl) rfl ?_
    refine t_nil ?_
    refine Tr.keep (env' := [(0, _), (3, _), (4, _), (5, _), (6, _), (7, _)]) ⟨rfl, rfl, rfl, rfl, rfl, rfl, trivial⟩ ?_
    refine t_then ?_
    refine t_block ?_
    refine t_loop (fun p : Nat => [(0, .slice A n c), (3, .string hex16), (4, .int .u64 (chF (h : Int) s p)), (5, v), (6, .int .i64 k), (7, .int .i64 (p : Int))]) (fun p : Nat => E ++ M) (fun p : Nat => p ≤ s.size) (fun p : Nat => s.size - p) 0 (Nat.zero_le _) ⟨rfl, rfl, rfl, rfl, rfl, rfl, trivial⟩ (.refl _) ?_
    intro K2 p hp IH2
    refine t_seq ?_
    refine t_seq ?_
    refine t_region ?_
    refine t_val (r_move rfl) rfl ?_
    refine t_val (r_move rfl) rfl ?_
    refine t_val (r_move rfl) rfl ?_
    refine t_val (r_ia_s k Tryz.underlying22 iz_9 hA rfl rfl rfl hlt) rfl ?_
    refine t_val (r_load ca_9 rfl ((hrd k (encS s) hx 0 (.string s) rfl).sub (List.sublist_append_right _ _))) rfl ?_
    refine t_val (r_len_str Tryz.underlying9 rfl) rfl ?_
    refine t_val (r_lt rfl rfl) rfl ?_
    refine t_nil ?_
    refine Tr.keep (env' := [(0, _), (3, _), (4, _), (5, _), (6, _), (7, _), (24, _)]) ⟨rfl, rfl, rfl, rfl, rfl, rfl, rfl, trivial⟩ ?_
    refine t_then ?_
    refine t_cond rfl (fun hc2 => ?_) (fun hc2 => ?_)
    · have hpt : p < s.size := by have := of_decide_eq_true hc2; omega
      refine t_skip ?_
      refine t_then ?_
      refine t_seq ?_
      refine t_block ?_
      refine t_region ?_
      refine t_val (r_move rfl) rfl ?_
      refine t_val (r_move rfl) rfl ?_
      refine t_val (r_move rfl) rfl ?_
      refine t_val (r_ia_s k Tryz.underlying22 iz_9 hA rfl rfl rfl hlt) rfl ?_
      refine t_val (r_load ca_9 rfl ((hrd k (encS s) hx 0 (.string s) rfl).sub (List.sublist_append_right _ _))) rfl ?_
      refine t_val (r_move rfl) rfl ?_
      refine t_val (r_sidx (b := s.get! p) p Tryz.underlying9 rfl rfl rfl (getq hpt)) rfl ?_
      refine t_val (r_to (v2 := .int .u64 ((s.get! p).toNat : Int)) (r_conv Tryz.underlying5 Tryz.underlying82 rfl) (congrArg (Value.int .u64) (by rw [IntKind.wrap_u64]; have := (s.get! p).toNat_lt; omega))) rfl ?_
      refine t_val (r_xor rfl rfl) rfl ?_
      refine t_val (r_mul rfl rfl) rfl ?_
      refine t_val (r_assign rfl) rfl ?_
      refine t_nil ?_
      refine Tr.keep (env' := [(0, _), (3, _), (4, _), (5, _), (6, _), (7, _)]) ⟨rfl, rfl, rfl, rfl, rfl, rfl, trivial⟩ ?_
      refine t_in ?_
      refine t_then ?_
      refine t_region ?_
      refine t_val (r_move rfl) rfl ?_
      refine t_val (r_addi rfl rfl (by omega)) rfl ?_
      refine t_val (r_assign rfl) rfl ?_
      refine t_nil ?_
      refine Tr.keep (env' := [(0, _), (3, _), (4, _), (5, _), (6, _), (7, _)]) ⟨rfl, rfl, rfl, rfl, rfl, rfl, trivial⟩ ?_
      refine t_then ?_
      refine t_K (IH2 (p + 1) (by omega) (by omega)) ⟨rfl, rfl, rfl, rfl, rfl, rfl, trivial⟩ (.refl _)
    · have hpg : ¬ p < s.size := by have := of_decide_eq_false hc2; omega
      obtain rfl : p = s.size := by omega
      refine t_exit ?_
      refine t_then_exit ?_
      refine t_then_exit ?_
      refine t_in_hit ?_
      refine t_then ?_
      refine t_seq ?_
      refine t_region ?_
      refine t_val (r_move rfl) rfl ?_
      refine t_val (r_to (v2 := .int .u64 (chainN (h : Int) s : Int)) (r_mul rfl rfl) (congrArg (Value.int .u64) (chainN_eq _ _).symm)) rfl ?_
      refine t_val (r_assign rfl) rfl ?_
      refine t_nil ?_
      refine Tr.keep (env' := [(0, _), (3, _), (4, _), (5, _), (6, _)]) ⟨rfl, rfl, rfl, rfl, rfl, trivial⟩ ?_
      refine t_then ?_
      refine t_seq ?_
      refine t_region ?_
      refine t_val (r_assign rfl) rfl ?_
      refine t_nil ?_
      refine Tr.keep (env' := [(0, _), (3, _), (4, _), (5, _), (6, _), (8, _)]) ⟨rfl, rfl, rfl, rfl, rfl, rfl, trivial⟩ ?_
      refine t_then ?_
      refine t_seq ?_
      refine t_region ?_
      refine t_val (r_move rfl) rfl ?_
      refine t_val (r_assign rfl) rfl ?_
      refine t_nil ?_
      refine Tr.keep (env' := [(0, _), (3, _), (4, _), (5, _), (6, _), (8, _), (9, _)]) ⟨rfl, rfl, rfl, rfl, rfl, rfl, rfl, trivial⟩ ?_
      refine t_then ?_
      refine t_seq ?_
      refine t_seq ?_
      refine t_region ?_
      refine t_val (r_assign rfl) rfl ?_
      refine t_nil ?_
      refine Tr.keep (env' := [(0, _), (3, _), (4, _), (5, _), (6, _), (8, _), (9, _), (10, _)]) ⟨rfl, rfl, rfl, rfl, rfl, rfl, rfl, rfl, trivial⟩ ?_
      refine t_then ?_
      refine t_block ?_
      refine t_loop (fun y : Nat × Nat => [(0, .slice A n c), (3, .string hex16), (4, .int .u64 (chainN (h : Int) s : Int)), (5, v), (6, .int .i64 k), (8, .string ⟨(lowD (chainN (h : Int) s) y.1).toArray⟩), (9, .int .u64 (y.2 : Int)), (10, .int .i64 (y.1 : Int))]) (fun y : Nat × Nat => E ++ M) (fun y : Nat × Nat => y.1 ≤ 16 ∧ y.2 = chainN (h : Int) s / 16 ^ y.1) (fun y : Nat × Nat => 16 - y.1) (0, chainN (h : Int) s) ⟨Nat.zero_le _, by simp⟩ ⟨rfl, rfl, rfl, rfl, rfl, rfl, rfl, rfl, trivial⟩ (.refl _) ?_
      intro K3 ⟨j, r⟩ ⟨hj, hr⟩ IH3
      dsimp only at hj hr IH3 ⊢
      have hr64 : r < 18446744073709551616 := by rw [hr]; exact Nat.lt_of_le_of_lt (Nat.div_le_self _ _) (chainN_lt _ _)
      refine t_seq ?_
      refine t_seq ?_
      refine t_region ?_
      refine t_val (r_move rfl) rfl ?_
      refine t_val (r_lt rfl rfl) rfl ?_
      refine t_nil ?_
      refine Tr.keep (env' := [(0, _), (3, _), (4, _), (5, _), (6, _), (8, _), (9, _), (10, _), (41, _)]) ⟨rfl, rfl, rfl, rfl, rfl, rfl, rfl, rfl, rfl, trivial⟩ ?_
      refine t_then ?_
      refine t_cond rfl (fun hc3 => ?_) (fun hc3 => ?_)
      · have hjt : j < 16 := by have := of_decide_eq_true hc3; omega
        refine t_skip ?_
        refine t_then ?_
        refine t_seq ?_
        refine t_block ?_
        refine t_seq ?_
        refine t_region ?_
        refine t_val (r_move rfl) rfl ?_
        refine t_val (r_to (v2 := .int .u64 ((r % 16 : Nat) : Int)) (r_rem rfl rfl (by decide)) (congrArg (Value.int .u64) (rem16 r))) rfl ?_
        refine t_val (r_convI Tryz.underlying82 Tryz.underlying3 rfl (i' := ((r % 16 : Nat) : Int)) (conv16 (Nat.mod_lt _ (by decide)))) rfl ?_
        refine t_val (r_assign rfl) rfl ?_
        refine t_nil ?_
        refine Tr.keep (env' := [(0, _), (3, _), (4, _), (5, _), (6, _), (8, _), (9, _), (10, _), (11, _)]) ⟨rfl, rfl, rfl, rfl, rfl, rfl, rfl, rfl, rfl, trivial⟩ ?_
        refine t_then ?_
        refine t_seq ?_
        refine t_region ?_
        refine t_val (r_move rfl) rfl ?_
        refine t_val (r_move rfl) rfl ?_
        refine t_val (r_move rfl) rfl ?_
        refine t_val (r_addi rfl rfl (by omega)) rfl ?_
        refine t_val (r_ss_lh (r % 16) (r % 16 + 1) Tryz.underlying9 rfl rfl rfl rfl (by omega) (by omega) (by show r % 16 + 1 ≤ 16; omega)) rfl ?_
        refine t_val (r_move rfl) rfl ?_
        refine t_val (r_to (v2 := .string ⟨(lowD (chainN (h : Int) s) (j + 1)).toArray⟩) (r_adds rfl rfl (cut_fits _ _ _ (by omega))) (congrArg Value.string (by rw [hex16_cut (Nat.mod_lt _ (by decide)), lowD, ← hr]))) rfl ?_
        refine t_val (r_assign rfl) rfl ?_
        refine t_nil ?_
        refine Tr.keep (env' := [(0, _), (3, _), (4, _), (5, _), (6, _), (8, _), (9, _), (10, _)]) ⟨rfl, rfl, rfl, rfl, rfl, rfl, rfl, rfl, trivial⟩ ?_
        refine t_then ?_
        refine t_region ?_
        refine t_val (r_move rfl) rfl ?_
        refine t_val (r_to (v2 := .int .u64 ((r / 16 : Nat) : Int)) (r_quo rfl rfl (by decide)) (congrArg (Value.int .u64) (quo16 hr64))) rfl ?_
        refine t_val (r_assign rfl) rfl ?_
        refine t_nil ?_
        refine Tr.keep (env' := [(0, _), (3, _), (4, _), (5, _), (6, _), (8, _), (9, _), (10, _)]) ⟨rfl, rfl, rfl, rfl, rfl, rfl, rfl, rfl, trivial⟩ ?_
        refine t_in ?_
        refine t_then ?_
        refine t_region ?_
        refine t_val (r_move rfl) rfl ?_
        refine t_val (r_addi rfl rfl (by omega)) rfl ?_
        refine t_val (r_assign rfl) rfl ?_
        refine t_nil ?_
        refine Tr.keep (env' := [(0, _), (3, _), (4, _), (5, _), (6, _), (8, _), (9, _), (10, _)]) ⟨rfl, rfl, rfl, rfl, rfl, rfl, rfl, rfl, trivial⟩ ?_
        refine t_then ?_
        refine t_K (IH3 (j + 1, r / 16) ⟨by omega, by rw [hr, div_next]⟩ (by simp; omega)) ⟨rfl, rfl, rfl, rfl, rfl, rfl, rfl, rfl, trivial⟩ (.refl _)
      · have hjg : ¬ j < 16 := by have := of_decide_eq_false hc3; omega
        obtain rfl : j = 16 := by omega
        refine t_exit ?_
        refine t_then_exit ?_
        refine t_then_exit ?_
        refine t_in_hit ?_
        refine t_then ?_
        refine t_region ?_
        refine t_val (r_move rfl) rfl ?_
        refine t_val (r_to (v2 := .string (digitsV (chainN (h : Int) s))) (r_move rfl) (congrArg Value.string (digits_low (chainN_lt _ _)))) rfl ?_
        refine t_eff rfl (e_buildSlice (E := 9) (l := encS (digitsV (chainN (h : Int) s))) rfl (fun w => by kernel_rfl) rfl fun b58 => ?_)
        refine t_eff rfl (e_append Tryz.underlying22 inf_9 rfl (by decide) rfl rfl hO (pk .here (pkb .here (.refl _))) rfl (by simp [encS, Value.oneCell']) (by simp [chainsV]; omega) (by simp [maxLen, chainsV]; omega) rfl fun v1 E1 hO1 => ?_)
        refine t_val (r_assign rfl) rfl ?_
        refine t_nil ?_
        refine Tr.keep (env' := [(0, _), (3, _), (4, _), (5, _), (6, _)]) ⟨rfl, rfl, rfl, rfl, rfl, trivial⟩ ?_
        refine t_in ?_
        refine t_then ?_
        refine t_region ?_
        refine t_val (r_move rfl) rfl ?_
        refine t_val (r_addi rfl rfl (by omega)) rfl ?_
        refine t_val (r_assign rfl) rfl ?_
        refine t_nil ?_
        refine Tr.keep (env' := [(0, _), (3, _), (4, _), (5, _), (6, _)]) ⟨rfl, rfl, rfl, rfl, rfl, trivial⟩ ?_
        refine t_then ?_
        refine t_K (IH (k + 1, chainN (h : Int) s, v1, E1) ⟨by omega, by rw [List.take_add_one, hsk, hh]; exact (cnF_add _ _ _).symm, by rw [List.take_add_one, hsk]; simp only [Option.toList_some, chainsV, chainsF_add, List.map_append]; rw [← hh]; exact hO1⟩ (by simp; omega)) ⟨rfl, rfl, rfl, rfl, rfl, trivial⟩ (.refl _)
  · have hge : ¬ k < n := by have := of_decide_eq_false hc1; omega
    refine t_exit ?_
    refine t_then_exit ?_
    refine t_then_exit ?_
    refine t_in_hit ?_
    refine t_then ?_
    refine t_seq ?_
    refine t_region ?_
    refine t_val (r_move rfl) rfl ?_
    refine t_val (r_assign rfl) rfl ?_
    refine t_nil ?_
    refine Tr.keep (env' := [(2, _)]) ⟨rfl, trivial⟩ ?_
    refine t_then ?_
    refine t_retc ?_
    refine t_ret1 rfl rfl (fun w hw => ?_)
    have hk2 : k = n := by omega
    subst hk2
    rw [List.take_of_length_le (by omega)] at hO
    exact ⟨(v, E), rfl, hO, hw⟩
end
end Go.Proofs.W
set_option linter.unusedVariables false
set_option linter.unusedSimpArgs false
set_option linter.unusedSectionVars false
set_option maxRecDepth 100000
namespace Go.Proofs.W
open Go Go.Sl Go.RowKit Go.Proofs
attribute [local irreducible] Go.Sl.Eff
theorem en_10 : Enters Tryz.prog 10 := enters_of Tryz.func10 (by kernel_rfl) (by kernel_rfl)
theorem en_11 : Enters Tryz.prog 11 := enters_of Tryz.func11 (by kernel_rfl) (by kernel_rfl)
theorem en_5 : Enters Tryz.prog 5 := enters_of Tryz.func5 (by kernel_rfl) (by kernel_rfl)
theorem en_7 : Enters Tryz.prog 7 := enters_of Tryz.func7 (by kernel_rfl) (by kernel_rfl)
theorem en_9 : Enters Tryz.prog 9 := enters_of Tryz.func9 (by kernel_rfl) (by kernel_rfl)
theorem dn_sym : ∀ (a b : List (ByteArray × ByteArray)) (i0 i : Int), dn neE i0 (a.zip b) i = dn neE i0 (b.zip a) i
  | [], b, i0, i => by simp
  | x :: a, [], i0, i => by simp
  | x :: a, y :: b, i0, i => by
    have e : neE (x, y) = neE (y, x) := by
      simp only [neE]
      by_cases h1 : x.1 = y.1 <;> by_cases h2 : x.2 = y.2 <;> simp [h1, h2, eq_comm]
    simp [dn, e, dn_sym a b i0 (i + 1)]
theorem parts_sym (a b : List (ByteArray × ByteArray)) : partsV a b = partsV b a := by
  unfold partsV
  rw [dn_sym]
  congr 1
  rw [Nat.min_comm]
  by_cases h : a.length = b.length
  · rw [if_pos h, if_pos h.symm]
  · rw [if_neg h, if_neg (fun e => h e.symm)]
theorem shortB_ok {most : Int} {ls : List ByteArray} (h : shortB most ls = true) : (∀ s ∈ ls, s.size ≤ 4611686018427387904) ∧ (ls.length : Int) ≤ most := by
  simp only [shortB, Bool.and_eq_true, List.all_eq_true, decide_eq_true_eq] at h
  exact ⟨fun s hs => Nat.le_trans (h.1 s hs) (by decide), h.2⟩
abbrev partsI (a b : List (ByteArray × ByteArray)) : Int := if a.length = b.length then -1 else ((min a.length b.length : Nat) : Int)
section
variable {w0 : World} {N : Nat} {ds : List Deferred} {env : Env} {M : List Ent}
theorem rallyChains_c (hT : Tab w0) {A B C : Option Addr} {nl na nb cl ca cb : Nat} {ls : List ByteArray} {es fs : List (ByteArray × ByteArray)} (hl : SlRd w0 M 1 A nl (ls.map encS)) (ha : SlRd w0 M 2 B na (es.map encE)) (hb : SlRd w0 M 2 C nb (fs.map encE)) : ∀ w, Ok w0 M w → Calls Tryz.prog 3 #[.slice A nl cl, .slice B na ca, .slice C nb cb] w (fun e w' => e = .returned (.bool true) ∧ Ok w0 M w') := by
  have hbig := hl.big
  have hlen : ls.length = nl := by have := hl.len; simpa using this
  have hbigA := ha.big
  have hlenA : es.length = na := by have := ha.len; simpa using this
  have hbigB := hb.big
  have hlenB : fs.length = nb := by have := hb.len; simpa using this
  refine enter (vs := [_, _, _]) Tryz.func3 rfl Tryz.ntmps3 rfl ?_
  refine t_seq ?_
  refine t_region ?_
  refine t_val (r_assign rfl) rfl ?_
  refine t_nil ?_
  refine Tr.keep (env' := [(0, _), (1, _), (2, _)]) ⟨rfl, rfl, rfl, trivial⟩ ?_
  refine t_then ?_
  refine t_seq ?_
  refine t_seq ?_
  refine t_region ?_
  refine t_val (r_move rfl) rfl ?_
  refine t_eff rfl (e_pcall en_5 rfl rfl rfl rfl (short_c (hl.sub (.refl _)) 30) ?_)
  refine t_val (r_not rfl) rfl ?_
  refine t_val (r_move rfl) rfl ?_
  apply t_group_or 4 (s := 17) (d := 21) rfl
  · intro hg1 K hK
    refine g_val hg1 rfl rfl (r_move rfl) rfl ?_
    refine g_val hg1 rfl rfl (r_len_slice Tryz.underlying23 rfl) rfl ?_
    refine g_val hg1 rfl rfl (r_gt rfl rfl) rfl ?_
    refine t_val (rp_f hg1 rfl rfl) rfl ?_
    iterate 3 refine Tr.weak2 rfl ?_
    exact hK _ (or_f hg1)
  · intro hg1 K hK
    refine g_skip hg1 rfl rfl rfl rfl ?_
    refine g_skip hg1 rfl rfl rfl rfl ?_
    refine g_skip hg1 rfl rfl rfl rfl ?_
    refine t_val (rp_t hg1 rfl rfl) rfl ?_
    iterate 3 refine Tr.weak2 rfl ?_
    exact hK _ (or_t hg1)
  refine t_val (r_move rfl) rfl ?_
  apply t_group_or 4 (s := 22) (d := 26) rfl
  · intro hg2 K hK
    refine g_val hg2 rfl rfl (r_move rfl) rfl ?_
    refine g_val hg2 rfl rfl (r_len_slice Tryz.underlying23 rfl) rfl ?_
    refine g_val hg2 rfl rfl (r_gt rfl rfl) rfl ?_
    refine t_val (rp_f hg2 rfl rfl) rfl ?_
    iterate 3 refine Tr.weak2 rfl ?_
    exact hK _ (or_f hg2)
  · intro hg2 K hK
    refine g_skip hg2 rfl rfl rfl rfl ?_
    refine g_skip hg2 rfl rfl rfl rfl ?_
    refine g_skip hg2 rfl rfl rfl rfl ?_
    refine t_val (rp_t hg2 rfl rfl) rfl ?_
    iterate 3 refine Tr.weak2 rfl ?_
    exact hK _ (or_t hg2)
  refine t_nil ?_
  refine Tr.keep (env' := [(0, _), (1, _), (2, _), (26, _)]) ⟨rfl, rfl, rfl, rfl, trivial⟩ ?_
  refine t_then ?_
  refine t_cond rfl (fun hc0 => ?_) (fun hc0 => ?_)
  · skip
    refine t_seq ?_
    refine t_region ?_
    refine t_eff rfl (e_pcall en_6 rfl rfl rfl rfl (known_c hT) ?_)
    refine t_val (r_assign rfl) rfl ?_
    refine t_nil ?_
    refine Tr.keep (env' := [(6, _)]) ⟨rfl, trivial⟩ ?_
    refine t_then ?_
    refine t_retc ?_
    refine t_then_ret ?_
    refine t_ret1 rfl rfl (fun w hw => ?_)
    exact ⟨rfl, hw.sub (.refl _)⟩
  · have h00 : (shortB 30 ls = true ∧ (na : Int) ≤ 30) ∧ (nb : Int) ≤ 30 := by simpa using hc0
    have hna : na ≤ 30 := by omega
    have hnb : nb ≤ 30 := by omega
    obtain ⟨hszL, hnl0⟩ := shortB_ok h00.1.1
    have hnl : nl ≤ 30 := by omega
    refine t_skip ?_
    refine t_then ?_
    refine t_seq ?_
    refine t_region ?_
    refine t_val (r_assign rfl) rfl ?_
    refine t_nil ?_
    refine Tr.keep (env' := [(0, _), (1, _), (2, _), (7, _)]) ⟨rfl, rfl, rfl, rfl, trivial⟩ ?_
    refine t_then ?_
    refine t_seq ?_
    refine t_seq ?_
    refine t_region ?_
    refine t_val (r_assign rfl) rfl ?_
    refine t_nil ?_
    refine Tr.keep (env' := [(0, _), (1, _), (2, _), (7, _), (8, _)]) ⟨rfl, rfl, rfl, rfl, rfl, trivial⟩ ?_
    refine t_then ?_
    refine t_block ?_
    refine t_loop (fun z : Nat × Value × List Ent => [(0, .slice A nl cl), (1, .slice B na ca), (2, .slice C nb cb), (7, z.2.1), (8, .int .i64 z.1)]) (fun z : Nat × Value × List Ent => z.2.2 ++ M) (fun z : Nat × Value × List Ent => z.1 ≤ na ∧ Own 9 1 z.2.1 (((es.map Prod.fst).take z.1).map encS) z.2.2) (fun z : Nat × Value × List Ent => na - z.1) (0, .slice none 0 0, []) ⟨Nat.zero_le _, Own.nil _ _⟩ ⟨rfl, rfl, rfl, rfl, rfl, trivial⟩ (.refl _) ?_
    intro K ⟨k, v, E⟩ ⟨hk, hO⟩ IH
    dsimp only at hk hO IH ⊢
    refine t_seq ?_
    refine t_seq ?_
    refine t_region ?_
    refine t_val (r_move rfl) rfl ?_
    refine t_val (r_move rfl) rfl ?_
    refine t_val (r_len_slice Tryz.underlying23 rfl) rfl ?_
    refine t_val (r_lt rfl rfl) rfl ?_
    refine t_nil ?_
    refine Tr.keep (env' := [(0, _), (1, _), (2, _), (7, _), (8, _), (31, _)]) ⟨rfl, rfl, rfl, rfl, rfl, rfl, trivial⟩ ?_
    refine t_then ?_
    refine t_cond rfl (fun hc1 => ?_) (fun hc1 => ?_)
    · have hlt : k < na := by have := of_decide_eq_true hc1; omega
      obtain ⟨b, o, hA, hrd⟩ := ha.at' (by omega)
      obtain ⟨e, hek⟩ : ∃ e, es[k]? = some e := ⟨_, List.getElem?_eq_getElem (by omega)⟩
      have hx : (es.map encE)[k]? = some (encE e) := by rw [List.getElem?_map, hek]; rfl
      refine t_skip ?_
      refine t_then ?_
      refine t_seq ?_
      refine t_block ?_
      refine t_region ?_
      refine t_val (r_move rfl) rfl ?_
      refine t_val (r_move rfl) rfl ?_
      refine t_val (r_move rfl) rfl ?_
      refine t_val (r_ia_s k Tryz.underlying23 iz_27 hA rfl rfl rfl hlt) rfl ?_
      refine t_val (r_fa fo_27_0 rfl) rfl ?_
      refine t_val (r_load ca_9 rfl ((hrd k (encE e) hx 0 (.string e.1) rfl).sub (List.sublist_append_right _ _))) rfl ?_
      refine t_eff rfl (e_buildSlice (E := 9) (l := encS e.1) rfl (fun w => by kernel_rfl) rfl fun b40 => ?_)
      refine t_eff rfl (e_append Tryz.underlying22 inf_9 rfl (by decide) rfl rfl hO (pk .here (pkb .here (.refl _))) rfl (by simp [encS, Value.oneCell']) (by simp; omega) (by simp [maxLen]; omega) rfl fun v1 E1 hO1 => ?_)
      refine t_val (r_assign rfl) rfl ?_
      refine t_nil ?_
      refine Tr.keep (env' := [(0, _), (1, _), (2, _), (7, _), (8, _)]) ⟨rfl, rfl, rfl, rfl, rfl, trivial⟩ ?_
      refine t_in ?_
      refine t_then ?_
      refine t_region ?_
      refine t_val (r_move rfl) rfl ?_
      refine t_val (r_addi rfl rfl (by omega)) rfl ?_
      refine t_val (r_assign rfl) rfl ?_
      refine t_nil ?_
      refine Tr.keep (env' := [(0, _), (1, _), (2, _), (7, _), (8, _)]) ⟨rfl, rfl, rfl, rfl, rfl, trivial⟩ ?_
      refine t_then ?_
      refine t_K (IH (k + 1, v1, E1) ⟨by omega, by rw [List.take_add_one, List.getElem?_map, hek]; simpa using hO1⟩ (by simp; omega)) ⟨rfl, rfl, rfl, rfl, rfl, trivial⟩ (.refl _)
    · have hge : ¬ k < na := by have := of_decide_eq_false hc1; omega
      have hk2 : na = k := by omega
      subst hk2
      rw [List.take_of_length_le (by simp; omega)] at hO
      obtain ⟨A1, c1, hv1, _, _, hrd1⟩ := hO.rd (by simp; omega)
      subst hv1
      simp only [List.length_map] at hrd1 hO ⊢
      rw [hlenA] at hrd1 ⊢
      have hs1 := hrd1 w0 (E ++ M) (fun z hz => List.mem_append_left _ hz)
      refine t_exit ?_
      refine t_then_exit ?_
      refine t_then_exit ?_
      refine t_in_hit ?_
      refine t_then ?_
      refine t_seq ?_
      refine t_seq ?_
      refine t_region ?_
      refine t_val (r_move rfl) rfl ?_
      refine t_eff rfl (e_pcall en_5 rfl rfl rfl rfl (short_c hs1 30) ?_)
      refine t_val (r_not rfl) rfl ?_
      refine t_nil ?_
      refine Tr.keep (env' := [(0, _), (1, _), (2, _), (7, _), (44, _)]) ⟨rfl, rfl, rfl, rfl, rfl, trivial⟩ ?_
      refine t_then ?_
      refine t_cond rfl (fun hc2 => ?_) (fun hc2 => ?_)
      · skip
        refine t_seq ?_
        refine t_region ?_
        refine t_eff rfl (e_pcall en_6 rfl rfl rfl rfl (known_c hT) ?_)
        refine t_val (r_assign rfl) rfl ?_
        refine t_nil ?_
        refine Tr.keep (env' := [(6, _)]) ⟨rfl, trivial⟩ ?_
        refine t_then ?_
        refine t_retc ?_
        refine t_then_ret ?_
        refine t_ret1 rfl rfl (fun w hw => ?_)
        exact ⟨rfl, hw.sub (List.Sublist.trans (.refl _) (List.sublist_append_right _ _))⟩
      · have h44 : shortB 30 (es.map Prod.fst) = true := by simpa using hc2
        obtain ⟨hszA, _⟩ := shortB_ok h44
        have hszE : ∀ e ∈ es, e.1.size ≤ 4611686018427387904 := fun e he => hszA _ (List.mem_map_of_mem he)
        refine t_skip ?_
        refine t_then ?_
        refine t_seq ?_
        refine t_seq ?_
        refine t_region ?_
        refine t_val (r_move rfl) rfl ?_
        refine t_eff rfl (e_call en_8 rfl rfl rfl rfl (chain_c hT (hl.sub (List.Sublist.trans (.refl _) (List.sublist_append_right _ _))) hszL (by omega)) fun x hO2 => ?_)
        obtain ⟨v2, E2⟩ := x
        obtain ⟨A2, c2, hv2, _, _, hrd2⟩ := hO2.rd (by simp; omega)
        dsimp only at hv2 ⊢
        subst hv2
        simp only [List.length_map, chainsV_len] at hrd2 hO2 ⊢
        rw [hlen] at hrd2 ⊢
        refine t_val (r_move rfl) rfl ?_
        refine t_eff rfl (e_call en_9 rfl rfl rfl rfl (refChain_c (hl.sub (List.Sublist.trans (List.Sublist.trans (.refl _) (List.sublist_append_right _ _)) (List.sublist_append_right _ _))) hszL (by omega)) fun x hO3 => ?_)
        obtain ⟨v3, E3⟩ := x
        obtain ⟨A3, c3, hv3, _, _, hrd3⟩ := hO3.rd (by simp; omega)
        dsimp only at hv3 ⊢
        subst hv3
        simp only [List.length_map, chainsV_len] at hrd3 hO3 ⊢
        rw [hlen] at hrd3 ⊢
        refine t_eff rfl (e_pcall en_7 rfl rfl rfl rfl (texts_same (hrd2 w0 _ (fun z hz => (List.mem_append_right _ (List.mem_append_left _ hz)))) (hrd3 w0 _ (fun z hz => (List.mem_append_left _ hz)))) ?_)
        refine t_val (r_not rfl) rfl ?_
        refine t_nil ?_
        refine Tr.keep (env' := [(1, _), (2, _), (7, _), (51, _)]) ⟨rfl, rfl, rfl, rfl, trivial⟩ ?_
        refine t_then ?_
        refine t_cond_f rfl ?_
        refine t_skip ?_
        refine t_then ?_
        refine t_seq ?_
        refine t_region ?_
        refine t_val (r_move rfl) rfl ?_
        refine t_eff rfl (e_call en_9 rfl rfl rfl rfl (refChain_c (hrd1 w0 _ (fun z hz => (List.mem_append_right _ (List.mem_append_right _ (List.mem_append_left _ hz))))) hszA (by omega)) fun x hO4 => ?_)
        obtain ⟨v4, E4⟩ := x
        obtain ⟨A4, c4, hv4, _, _, hrd4⟩ := hO4.rd (by simp; omega)
        dsimp only at hv4 ⊢
        subst hv4
        simp only [List.length_map, chainsV_len] at hrd4 hO4 ⊢
        rw [hlenA] at hrd4 ⊢
        refine t_val (r_assign rfl) rfl ?_
        refine t_nil ?_
        refine Tr.keep (env' := [(1, _), (2, _), (9, _)]) ⟨rfl, rfl, rfl, trivial⟩ ?_
        refine t_then ?_
        refine t_seq ?_
        refine t_region ?_
        refine t_val (r_assign rfl) rfl ?_
        refine t_nil ?_
        refine Tr.keep (env' := [(1, _), (2, _), (9, _), (10, _)]) ⟨rfl, rfl, rfl, rfl, trivial⟩ ?_
        refine t_then ?_
        refine t_seq ?_
        refine t_seq ?_
        refine t_region ?_
        refine t_val (r_move rfl) rfl ?_
        refine t_val (r_len_slice Tryz.underlying23 rfl) rfl ?_
        refine t_val (r_subi rfl rfl (by omega)) rfl ?_
        refine t_val (r_assign rfl) rfl ?_
        refine t_nil ?_
        refine Tr.keep (env' := [(1, _), (2, _), (9, _), (10, _), (11, _)]) ⟨rfl, rfl, rfl, rfl, rfl, trivial⟩ ?_
        refine t_then ?_
        refine t_block ?_
        refine t_loop (fun z : Nat × Int => [(1, .slice B na ca), (2, .slice C nb cb), (9, .slice A4 na c4), (10, .int .i64 z.2), (11, .int .i64 ((z.1 : Int) - 1))]) (fun z : Nat × Int => E4 ++ (E3 ++ (E2 ++ (E ++ M)))) (fun z : Nat × Int => z.1 ≤ na ∧ z.2 = dn badF (-1) ((hzip es).drop z.1) (z.1 : Int)) (fun z : Nat × Int => z.1) (na, -1) ⟨Nat.le_refl _, by rw [List.drop_of_length_le (by rw [hzip_len]; omega)]; rfl⟩ ⟨rfl, rfl, rfl, rfl, rfl, trivial⟩ (.refl _) ?_
        intro K1 ⟨k1, f1⟩ ⟨hk1, hf⟩ IH1
        dsimp only at hk1 hf IH1 ⊢
        have hs4 := hrd4 w0 (E4 ++ (E3 ++ (E2 ++ (E ++ M)))) (fun z hz => List.mem_append_left _ hz)
        refine t_seq ?_
        refine t_seq ?_
        refine t_region ?_
        refine t_val (r_move rfl) rfl ?_
        refine t_val (r_ge rfl rfl) rfl ?_
        refine t_nil ?_
        refine Tr.keep (env' := [(1, _), (2, _), (9, _), (10, _), (11, _), (58, _)]) ⟨rfl, rfl, rfl, rfl, rfl, rfl, trivial⟩ ?_
        refine t_then ?_
        refine t_cond rfl (fun hc4 => ?_) (fun hc4 => ?_)
        · have hk0 : 0 < k1 := by have := of_decide_eq_true hc4; omega
          obtain ⟨j, rfl⟩ : ∃ j, k1 = j + 1 := ⟨k1 - 1, by omega⟩
          obtain ⟨b, o, hA, hrd⟩ := ha.at' (by omega)
          obtain ⟨e, hek⟩ : ∃ e, es[j]? = some e := ⟨_, List.getElem?_eq_getElem (by omega)⟩
          have hx : (es.map encE)[j]? = some (encE e) := by rw [List.getElem?_map, hek]; rfl
          obtain ⟨b4, o4, hA4, hrd4'⟩ := hs4.at' (by omega)
          obtain ⟨s, hsk⟩ : ∃ s, (chainsV (es.map Prod.fst))[j]? = some s := ⟨_, List.getElem?_eq_getElem (by simp; omega)⟩
          have hx4 : ((chainsV (es.map Prod.fst)).map encS)[j]? = some (encS s) := by rw [List.getElem?_map, hsk]; rfl
          refine t_skip ?_
          refine t_then ?_
          refine t_seq ?_
          refine t_block ?_
          refine t_seq ?_
          refine d_begin mixed rfl ?_
          refine d_val 0 rfl (by kernel_rfl) (by kernel_rfl) (by kernel_rfl) (.then (.inBlock (.then (.then (.inBlock (.then .body)))))) (.refl _) rfl (r_move rfl) ?_
          refine d_val 1 rfl (by kernel_rfl) (by kernel_rfl) (by kernel_rfl) (.then (.inBlock (.then (.then (.inBlock (.then .body)))))) (.refl _) rfl (r_move rfl) ?_
          refine d_val 2 rfl (by kernel_rfl) (by kernel_rfl) (by kernel_rfl) (.then (.inBlock (.then (.then (.inBlock (.then .body)))))) (.refl _) rfl (r_ia_s j Tryz.underlying23 iz_27 hA rfl rfl (by omega) (by omega)) ?_
          refine d_val 3 rfl (by kernel_rfl) (by kernel_rfl) (by kernel_rfl) (.then (.inBlock (.then (.then (.inBlock (.then .body)))))) (.refl _) rfl (r_fa fo_27_1 rfl) ?_
          refine d_val 4 rfl (by kernel_rfl) (by kernel_rfl) (by kernel_rfl) (.then (.inBlock (.then (.then (.inBlock (.then .body)))))) (.refl _) rfl (r_load ca_9 rfl ((hrd j (encE e) hx 1 (.string e.2) rfl).sub (List.Sublist.trans (List.Sublist.trans (List.Sublist.trans (List.Sublist.trans (.refl _) (List.sublist_append_right _ _)) (List.sublist_append_right _ _)) (List.sublist_append_right _ _)) (List.sublist_append_right _ _)))) ?_
          refine d_val 5 rfl (by kernel_rfl) (by kernel_rfl) (by kernel_rfl) (.then (.inBlock (.then (.then (.inBlock (.then .body)))))) (.refl _) rfl (r_move rfl) ?_
          refine d_val 6 rfl (by kernel_rfl) (by kernel_rfl) (by kernel_rfl) (.then (.inBlock (.then (.then (.inBlock (.then .body)))))) (.refl _) rfl (r_move rfl) ?_
          refine d_val 7 rfl (by kernel_rfl) (by kernel_rfl) (by kernel_rfl) (.then (.inBlock (.then (.then (.inBlock (.then .body)))))) (.refl _) rfl (r_ia_s j Tryz.underlying22 iz_9 hA4 rfl rfl (by omega) (by omega)) ?_
          refine d_val 8 rfl (by kernel_rfl) (by kernel_rfl) (by kernel_rfl) (.then (.inBlock (.then (.then (.inBlock (.then .body)))))) (.refl _) rfl (r_load ca_9 rfl (hrd4' j (encS s) hx4 0 (.string s) rfl)) ?_
          refine d_val 9 rfl (by kernel_rfl) (by kernel_rfl) (by kernel_rfl) (.then (.inBlock (.then (.then (.inBlock (.then .body)))))) (.refl _) rfl (r_nes rfl rfl) ?_
          refine d_end (by kernel_rfl) ?_
          refine Tr.keep (env' := [(1, _), (2, _), (9, _), (10, _), (11, _), (70, _)]) ⟨rfl, rfl, rfl, rfl, rfl, rfl, trivial⟩ ?_
          refine t_then ?_
          refine t_cond rfl (fun hc6 => ?_) (fun hc6 => ?_)
          · skip
            refine t_region ?_
            refine t_val (r_to (v2 := .int .i64 (j : Int)) (r_move rfl) (congrArg (Value.int .i64) (by omega))) rfl ?_
            refine t_val (r_assign rfl) rfl ?_
            refine t_nil ?_
            refine Tr.keep (env' := [(1, _), (2, _), (9, _), (10, _), (11, _)]) ⟨rfl, rfl, rfl, rfl, rfl, trivial⟩ ?_
            refine t_in ?_
            refine t_then ?_
            refine t_region ?_
            refine t_val (r_move rfl) rfl ?_
            refine t_val (r_to (v2 := .int .i64 ((j : Int) - 1)) (r_subi rfl rfl (by omega)) (congrArg (Value.int .i64) (by omega))) rfl ?_
            refine t_val (r_assign rfl) rfl ?_
            refine t_nil ?_
            refine Tr.keep (env' := [(1, _), (2, _), (9, _), (10, _), (11, _)]) ⟨rfl, rfl, rfl, rfl, rfl, trivial⟩ ?_
            refine t_then ?_
            refine t_K (IH1 (j, (j : Int)) ⟨by omega, by rw [dn_step _ (hzip_at hek hsk), if_pos hc6]⟩ (by simp)) ⟨rfl, rfl, rfl, rfl, rfl, trivial⟩ (.refl _)
          · skip
            refine t_skip ?_
            refine t_in ?_
            refine t_then ?_
            refine t_region ?_
            refine t_val (r_move rfl) rfl ?_
            refine t_val (r_to (v2 := .int .i64 ((j : Int) - 1)) (r_subi rfl rfl (by omega)) (congrArg (Value.int .i64) (by omega))) rfl ?_
            refine t_val (r_assign rfl) rfl ?_
            refine t_nil ?_
            refine Tr.keep (env' := [(1, _), (2, _), (9, _), (10, _), (11, _)]) ⟨rfl, rfl, rfl, rfl, rfl, trivial⟩ ?_
            refine t_then ?_
            refine t_K (IH1 (j, f1) ⟨by omega, by rw [dn_step _ (hzip_at hek hsk), if_neg (fun e9 => Bool.noConfusion (e9.symm.trans hc6))]; exact hf⟩ (by simp)) ⟨rfl, rfl, rfl, rfl, rfl, trivial⟩ (.refl _)
        · have hk0 : k1 = 0 := by have := of_decide_eq_false hc4; omega
          subst hk0
          have hf1 : f1 = honestV es := hf
          refine t_exit ?_
          refine t_then_exit ?_
          refine t_then_exit ?_
          refine t_in_hit ?_
          refine t_then ?_
          refine t_seq ?_
          refine t_region ?_
          refine t_val (r_assign rfl) rfl ?_
          refine t_nil ?_
          refine Tr.keep (env' := [(1, _), (2, _), (10, _), (12, _)]) ⟨rfl, rfl, rfl, rfl, trivial⟩ ?_
          refine t_then ?_
          refine t_seq ?_
          refine t_seq ?_
          refine t_region ?_
          refine t_val (r_move rfl) rfl ?_
          refine t_val (r_len_slice Tryz.underlying23 rfl) rfl ?_
          refine t_val (r_move rfl) rfl ?_
          refine t_val (r_len_slice Tryz.underlying23 rfl) rfl ?_
          refine t_val (r_ne rfl rfl) rfl ?_
          refine t_nil ?_
          refine Tr.keep (env' := [(1, _), (2, _), (10, _), (12, _), (76, _)]) ⟨rfl, rfl, rfl, rfl, rfl, trivial⟩ ?_
          refine t_then ?_
          refine t_cond rfl (fun hc7 => ?_) (fun hc7 => ?_)
          · skip
            refine t_region ?_
            refine t_val (r_move rfl) rfl ?_
            refine t_val (r_len_slice Tryz.underlying23 rfl) rfl ?_
            refine t_val (r_move rfl) rfl ?_
            refine t_val (r_len_slice Tryz.underlying23 rfl) rfl ?_
            refine t_val (r_to (v2 := .int .i64 (partsI es fs)) (r_min rfl rfl) (congrArg (Value.int .i64) (by have h7 : es.length ≠ fs.length := (by have h4 := hc7; simp at h4; omega); rw [partsI, if_neg h7]; omega))) rfl ?_
            refine t_val (r_assign rfl) rfl ?_
            refine t_nil ?_
            refine Tr.keep (env' := [(1, _), (2, _), (10, _), (12, _)]) ⟨rfl, rfl, rfl, rfl, trivial⟩ ?_
            refine t_then ?_
            refine t_seq ?_
            refine t_seq ?_
            refine t_region ?_
            refine t_val (r_move rfl) rfl ?_
            refine t_val (r_len_slice Tryz.underlying23 rfl) rfl ?_
            refine t_val (r_move rfl) rfl ?_
            refine t_val (r_len_slice Tryz.underlying23 rfl) rfl ?_
            refine t_val (r_to (v2 := .int .i64 ((min na nb : Nat) : Int)) (r_min rfl rfl) (congrArg (Value.int .i64) (by omega))) rfl ?_
            refine t_val (r_subi rfl rfl (by omega)) rfl ?_
            refine t_val (r_assign rfl) rfl ?_
            refine t_nil ?_
            refine Tr.keep (env' := [(1, _), (2, _), (10, _), (12, _), (13, _)]) ⟨rfl, rfl, rfl, rfl, rfl, trivial⟩ ?_
            refine t_then ?_
            refine t_block ?_
            refine t_loop (fun z : Nat × Int => [(1, .slice B na ca), (2, .slice C nb cb), (10, .int .i64 f1), (12, .int .i64 z.2), (13, .int .i64 ((z.1 : Int) - 1))]) (fun z : Nat × Int => E4 ++ (E3 ++ (E2 ++ (E ++ M)))) (fun z : Nat × Int => z.1 ≤ min na nb ∧ z.2 = dn neE (partsI es fs) ((es.zip fs).drop z.1) (z.1 : Int)) (fun z : Nat × Int => z.1) (min na nb, partsI es fs) ⟨Nat.le_refl _, by rw [List.drop_of_length_le (by simp; omega)]; rfl⟩ ⟨rfl, rfl, rfl, rfl, rfl, trivial⟩ (.refl _) ?_
            intro K2 ⟨k2, f2⟩ ⟨hk2, hf2⟩ IH2
            dsimp only at hk2 hf2 IH2 ⊢
            refine t_seq ?_
            refine t_seq ?_
            refine t_region ?_
            refine t_val (r_move rfl) rfl ?_
            refine t_val (r_ge rfl rfl) rfl ?_
            refine t_nil ?_
            refine Tr.keep (env' := [(1, _), (2, _), (10, _), (12, _), (13, _), (89, _)]) ⟨rfl, rfl, rfl, rfl, rfl, rfl, trivial⟩ ?_
            refine t_then ?_
            refine t_cond rfl (fun hc5 => ?_) (fun hc5 => ?_)
            · have hk0 : 0 < k2 := by have := of_decide_eq_true hc5; omega
              obtain ⟨j, rfl⟩ : ∃ j, k2 = j + 1 := ⟨k2 - 1, by omega⟩
              obtain ⟨b, o, hA, hrd⟩ := ha.at' (by omega)
              obtain ⟨e, hek⟩ : ∃ e, es[j]? = some e := ⟨_, List.getElem?_eq_getElem (by omega)⟩
              have hx : (es.map encE)[j]? = some (encE e) := by rw [List.getElem?_map, hek]; rfl
              obtain ⟨b2, o2, hB, hrd5⟩ := hb.at' (by omega)
              obtain ⟨f, hfk⟩ : ∃ f, fs[j]? = some f := ⟨_, List.getElem?_eq_getElem (by omega)⟩
              have hx2 : (fs.map encE)[j]? = some (encE f) := by rw [List.getElem?_map, hfk]; rfl
              refine t_skip ?_
              refine t_then ?_
              refine t_seq ?_
              refine t_block ?_
              refine t_seq ?_
              refine d_begin mixed rfl ?_
              refine d_val 0 rfl (by kernel_rfl) (by kernel_rfl) (by kernel_rfl) (.then (.inBlock (.then (.then (.inBlock (.then .body)))))) (.refl _) rfl (r_move rfl) ?_
              refine d_val 1 rfl (by kernel_rfl) (by kernel_rfl) (by kernel_rfl) (.then (.inBlock (.then (.then (.inBlock (.then .body)))))) (.refl _) rfl (r_move rfl) ?_
              refine d_val 2 rfl (by kernel_rfl) (by kernel_rfl) (by kernel_rfl) (.then (.inBlock (.then (.then (.inBlock (.then .body)))))) (.refl _) rfl (r_ia_s j Tryz.underlying23 iz_27 hA rfl rfl (by omega) (by omega)) ?_
              refine d_val 3 rfl (by kernel_rfl) (by kernel_rfl) (by kernel_rfl) (.then (.inBlock (.then (.then (.inBlock (.then .body)))))) (.refl _) rfl (r_to (v2 := .agg #[.string e.1, .string e.2]) (r_loads (vs := encE e) ca_27 rfl (fun j' v hv => (hrd j (encE e) hx j' v hv).sub (List.Sublist.trans (List.Sublist.trans (List.Sublist.trans (List.Sublist.trans (.refl _) (List.sublist_append_right _ _)) (List.sublist_append_right _ _)) (List.sublist_append_right _ _)) (List.sublist_append_right _ _))) rfl) rfl) ?_
              refine d_val 4 rfl (by kernel_rfl) (by kernel_rfl) (by kernel_rfl) (.then (.inBlock (.then (.then (.inBlock (.then .body)))))) (.refl _) rfl (r_move rfl) ?_
              refine d_val 5 rfl (by kernel_rfl) (by kernel_rfl) (by kernel_rfl) (.then (.inBlock (.then (.then (.inBlock (.then .body)))))) (.refl _) rfl (r_move rfl) ?_
              refine d_val 6 rfl (by kernel_rfl) (by kernel_rfl) (by kernel_rfl) (.then (.inBlock (.then (.then (.inBlock (.then .body)))))) (.refl _) rfl (r_ia_s j Tryz.underlying23 iz_27 hB rfl rfl (by omega) (by omega)) ?_
              refine d_val 7 rfl (by kernel_rfl) (by kernel_rfl) (by kernel_rfl) (.then (.inBlock (.then (.then (.inBlock (.then .body)))))) (.refl _) rfl (r_to (v2 := .agg #[.string f.1, .string f.2]) (r_loads (vs := encE f) ca_27 rfl (fun j' v hv => (hrd5 j (encE f) hx2 j' v hv).sub (List.Sublist.trans (List.Sublist.trans (List.Sublist.trans (List.Sublist.trans (.refl _) (List.sublist_append_right _ _)) (List.sublist_append_right _ _)) (List.sublist_append_right _ _)) (List.sublist_append_right _ _))) rfl) rfl) ?_
              refine d_val 8 rfl (by kernel_rfl) (by kernel_rfl) (by kernel_rfl) (.then (.inBlock (.then (.then (.inBlock (.then .body)))))) (.refl _) rfl (r_neE rfl rfl) ?_
              refine d_end (by kernel_rfl) ?_
              refine Tr.keep (env' := [(1, _), (2, _), (10, _), (12, _), (13, _), (100, _)]) ⟨rfl, rfl, rfl, rfl, rfl, rfl, trivial⟩ ?_
              refine t_then ?_
              refine t_cond rfl (fun hc8 => ?_) (fun hc8 => ?_)
              · skip
                refine t_region ?_
                refine t_val (r_to (v2 := .int .i64 (j : Int)) (r_move rfl) (congrArg (Value.int .i64) (by omega))) rfl ?_
                refine t_val (r_assign rfl) rfl ?_
                refine t_nil ?_
                refine Tr.keep (env' := [(1, _), (2, _), (10, _), (12, _), (13, _)]) ⟨rfl, rfl, rfl, rfl, rfl, trivial⟩ ?_
                refine t_in ?_
                refine t_then ?_
                refine t_region ?_
                refine t_val (r_move rfl) rfl ?_
                refine t_val (r_to (v2 := .int .i64 ((j : Int) - 1)) (r_subi rfl rfl (by omega)) (congrArg (Value.int .i64) (by omega))) rfl ?_
                refine t_val (r_assign rfl) rfl ?_
                refine t_nil ?_
                refine Tr.keep (env' := [(1, _), (2, _), (10, _), (12, _), (13, _)]) ⟨rfl, rfl, rfl, rfl, rfl, trivial⟩ ?_
                refine t_then ?_
                refine t_K (IH2 (j, (j : Int)) ⟨by omega, by rw [dn_step _ (zipE_at hek hfk), if_pos hc8]⟩ (by simp)) ⟨rfl, rfl, rfl, rfl, rfl, trivial⟩ (.refl _)
              · skip
                refine t_skip ?_
                refine t_in ?_
                refine t_then ?_
                refine t_region ?_
                refine t_val (r_move rfl) rfl ?_
                refine t_val (r_to (v2 := .int .i64 ((j : Int) - 1)) (r_subi rfl rfl (by omega)) (congrArg (Value.int .i64) (by omega))) rfl ?_
                refine t_val (r_assign rfl) rfl ?_
                refine t_nil ?_
                refine Tr.keep (env' := [(1, _), (2, _), (10, _), (12, _), (13, _)]) ⟨rfl, rfl, rfl, rfl, rfl, trivial⟩ ?_
                refine t_then ?_
                refine t_K (IH2 (j, f2) ⟨by omega, by rw [dn_step _ (zipE_at hek hfk), if_neg (fun e9 => Bool.noConfusion (e9.symm.trans hc8))]; exact hf2⟩ (by simp)) ⟨rfl, rfl, rfl, rfl, rfl, trivial⟩ (.refl _)
            · have hk0 : k2 = 0 := by have := of_decide_eq_false hc5; omega
              subst hk0
              have hf3 : f2 = partsV es fs := hf2
              refine t_exit ?_
              refine t_then_exit ?_
              refine t_then_exit ?_
              refine t_in_hit ?_
              refine t_then ?_
              refine t_seq ?_
              refine t_region ?_
              refine t_val (r_move rfl) rfl ?_
              refine t_eff rfl (e_pcall en_10 rfl rfl rfl rfl (honest_c hT (ha.sub (List.Sublist.trans (List.Sublist.trans (List.Sublist.trans (List.Sublist.trans (.refl _) (List.sublist_append_right _ _)) (List.sublist_append_right _ _)) (List.sublist_append_right _ _)) (List.sublist_append_right _ _))) hszE (by omega)) ?_)
              refine t_val (r_move rfl) rfl ?_
              refine t_val (r_to (v2 := .bool true) (r_eq rfl rfl) (congrArg Value.bool (by simp [hf1]))) rfl ?_
              refine t_val (r_move rfl) rfl ?_
              refine t_gval rfl rfl (r_move rfl) rfl ?_
              refine t_gval rfl rfl (r_move rfl) rfl ?_
              refine t_geff rfl rfl (e_pcall en_11 rfl rfl rfl rfl (parts_c (ha.sub (List.Sublist.trans (List.Sublist.trans (List.Sublist.trans (List.Sublist.trans (.refl _) (List.sublist_append_right _ _)) (List.sublist_append_right _ _)) (List.sublist_append_right _ _)) (List.sublist_append_right _ _))) (hb.sub (List.Sublist.trans (List.Sublist.trans (List.Sublist.trans (List.Sublist.trans (.refl _) (List.sublist_append_right _ _)) (List.sublist_append_right _ _)) (List.sublist_append_right _ _)) (List.sublist_append_right _ _)))) ?_)
              refine t_gval rfl rfl (r_move rfl) rfl ?_
              refine t_gval rfl rfl (r_to (v2 := .bool true) (r_eq rfl rfl) (congrArg Value.bool (by simp [hf3]))) rfl ?_
              refine t_val (r_pick_t rfl rfl) rfl ?_
              refine t_val (r_move rfl) rfl ?_
              refine t_gval rfl rfl (r_move rfl) rfl ?_
              refine t_gval rfl rfl (r_move rfl) rfl ?_
              refine t_geff rfl rfl (e_pcall en_11 rfl rfl rfl rfl (parts_c (hb.sub (List.Sublist.trans (List.Sublist.trans (List.Sublist.trans (List.Sublist.trans (.refl _) (List.sublist_append_right _ _)) (List.sublist_append_right _ _)) (List.sublist_append_right _ _)) (List.sublist_append_right _ _))) (ha.sub (List.Sublist.trans (List.Sublist.trans (List.Sublist.trans (List.Sublist.trans (.refl _) (List.sublist_append_right _ _)) (List.sublist_append_right _ _)) (List.sublist_append_right _ _)) (List.sublist_append_right _ _)))) ?_)
              refine t_gval rfl rfl (r_move rfl) rfl ?_
              refine t_gval rfl rfl (r_to (v2 := .bool true) (r_eq rfl rfl) (congrArg Value.bool (by simp [hf3, parts_sym es fs]))) rfl ?_
              refine t_val (r_pick_t rfl rfl) rfl ?_
              refine t_val (r_move rfl) rfl ?_
              refine t_geff rfl rfl (e_pcall en_6 rfl rfl rfl rfl (known_c hT) ?_)
              refine t_val (r_pick_t rfl rfl) rfl ?_
              refine t_val (r_assign rfl) rfl ?_
              refine t_nil ?_
              refine Tr.keep (env' := [(6, _)]) ⟨rfl, trivial⟩ ?_
              refine t_then ?_
              refine t_retc ?_
              refine t_ret1 rfl rfl (fun w hw => ?_)
              exact ⟨rfl, hw.sub (List.Sublist.trans (List.Sublist.trans (List.Sublist.trans (List.Sublist.trans (.refl _) (List.sublist_append_right _ _)) (List.sublist_append_right _ _)) (List.sublist_append_right _ _)) (List.sublist_append_right _ _))⟩
          · skip
            refine t_skip ?_
            refine t_then ?_
            refine t_seq ?_
            refine t_seq ?_
            refine t_region ?_
            refine t_val (r_move rfl) rfl ?_
            refine t_val (r_len_slice Tryz.underlying23 rfl) rfl ?_
            refine t_val (r_move rfl) rfl ?_
            refine t_val (r_len_slice Tryz.underlying23 rfl) rfl ?_
            refine t_val (r_to (v2 := .int .i64 ((min na nb : Nat) : Int)) (r_min rfl rfl) (congrArg (Value.int .i64) (by omega))) rfl ?_
            refine t_val (r_subi rfl rfl (by omega)) rfl ?_
            refine t_val (r_assign rfl) rfl ?_
            refine t_nil ?_
            refine Tr.keep (env' := [(1, _), (2, _), (10, _), (12, _), (13, _)]) ⟨rfl, rfl, rfl, rfl, rfl, trivial⟩ ?_
            refine t_then ?_
            refine t_block ?_
            refine t_loop (fun z : Nat × Int => [(1, .slice B na ca), (2, .slice C nb cb), (10, .int .i64 f1), (12, .int .i64 z.2), (13, .int .i64 ((z.1 : Int) - 1))]) (fun z : Nat × Int => E4 ++ (E3 ++ (E2 ++ (E ++ M)))) (fun z : Nat × Int => z.1 ≤ min na nb ∧ z.2 = dn neE (partsI es fs) ((es.zip fs).drop z.1) (z.1 : Int)) (fun z : Nat × Int => z.1) (min na nb, -1) ⟨Nat.le_refl _, by rw [List.drop_of_length_le (by simp; omega)]; have h7 : es.length = fs.length := (by have h4 := hc7; simp at h4; omega); show -1 = partsI es fs; rw [partsI, if_pos h7]⟩ ⟨rfl, rfl, rfl, rfl, rfl, trivial⟩ (.refl _) ?_
            intro K2 ⟨k2, f2⟩ ⟨hk2, hf2⟩ IH2
            dsimp only at hk2 hf2 IH2 ⊢
            refine t_seq ?_
            refine t_seq ?_
            refine t_region ?_
            refine t_val (r_move rfl) rfl ?_
            refine t_val (r_ge rfl rfl) rfl ?_
            refine t_nil ?_
            refine Tr.keep (env' := [(1, _), (2, _), (10, _), (12, _), (13, _), (89, _)]) ⟨rfl, rfl, rfl, rfl, rfl, rfl, trivial⟩ ?_
            refine t_then ?_
            refine t_cond rfl (fun hc5 => ?_) (fun hc5 => ?_)
            · have hk0 : 0 < k2 := by have := of_decide_eq_true hc5; omega
              obtain ⟨j, rfl⟩ : ∃ j, k2 = j + 1 := ⟨k2 - 1, by omega⟩
              obtain ⟨b, o, hA, hrd⟩ := ha.at' (by omega)
              obtain ⟨e, hek⟩ : ∃ e, es[j]? = some e := ⟨_, List.getElem?_eq_getElem (by omega)⟩
              have hx : (es.map encE)[j]? = some (encE e) := by rw [List.getElem?_map, hek]; rfl
              obtain ⟨b2, o2, hB, hrd5⟩ := hb.at' (by omega)
              obtain ⟨f, hfk⟩ : ∃ f, fs[j]? = some f := ⟨_, List.getElem?_eq_getElem (by omega)⟩
              have hx2 : (fs.map encE)[j]? = some (encE f) := by rw [List.getElem?_map, hfk]; rfl
              refine t_skip ?_
              refine t_then ?_
              refine t_seq ?_
              refine t_block ?_
              refine t_seq ?_
              refine d_begin mixed rfl ?_
              refine d_val 0 rfl (by kernel_rfl) (by kernel_rfl) (by kernel_rfl) (.then (.inBlock (.then (.then (.inBlock (.then .body)))))) (.refl _) rfl (r_move rfl) ?_
              refine d_val 1 rfl (by kernel_rfl) (by kernel_rfl) (by kernel_rfl) (.then (.inBlock (.then (.then (.inBlock (.then .body)))))) (.refl _) rfl (r_move rfl) ?_
              refine d_val 2 rfl (by kernel_rfl) (by kernel_rfl) (by kernel_rfl) (.then (.inBlock (.then (.then (.inBlock (.then .body)))))) (.refl _) rfl (r_ia_s j Tryz.underlying23 iz_27 hA rfl rfl (by omega) (by omega)) ?_
              refine d_val 3 rfl (by kernel_rfl) (by kernel_rfl) (by kernel_rfl) (.then (.inBlock (.then (.then (.inBlock (.then .body)))))) (.refl _) rfl (r_to (v2 := .agg #[.string e.1, .string e.2]) (r_loads (vs := encE e) ca_27 rfl (fun j' v hv => (hrd j (encE e) hx j' v hv).sub (List.Sublist.trans (List.Sublist.trans (List.Sublist.trans (List.Sublist.trans (.refl _) (List.sublist_append_right _ _)) (List.sublist_append_right _ _)) (List.sublist_append_right _ _)) (List.sublist_append_right _ _))) rfl) rfl) ?_
              refine d_val 4 rfl (by kernel_rfl) (by kernel_rfl) (by kernel_rfl) (.then (.inBlock (.then (.then (.inBlock (.then .body)))))) (.refl _) rfl (r_move rfl) ?_
              refine d_val 5 rfl (by kernel_rfl) (by kernel_rfl) (by kernel_rfl) (.then (.inBlock (.then (.then (.inBlock (.then .body)))))) (.refl _) rfl (r_move rfl) ?_
              refine d_val 6 rfl (by kernel_rfl) (by kernel_rfl) (by kernel_rfl) (.then (.inBlock (.then (.then (.inBlock (.then .body)))))) (.refl _) rfl (r_ia_s j Tryz.underlying23 iz_27 hB rfl rfl (by omega) (by omega)) ?_
              refine d_val 7 rfl (by kernel_rfl) (by kernel_rfl) (by kernel_rfl) (.then (.inBlock (.then (.then (.inBlock (.then .body)))))) (.refl _) rfl (r_to (v2 := .agg #[.string f.1, .string f.2]) (r_loads (vs := encE f) ca_27 rfl (fun j' v hv => (hrd5 j (encE f) hx2 j' v hv).sub (List.Sublist.trans (List.Sublist.trans (List.Sublist.trans (List.Sublist.trans (.refl _) (List.sublist_append_right _ _)) (List.sublist_append_right _ _)) (List.sublist_append_right _ _)) (List.sublist_append_right _ _))) rfl) rfl) ?_
              refine d_val 8 rfl (by kernel_rfl) (by kernel_rfl) (by kernel_rfl) (.then (.inBlock (.then (.then (.inBlock (.then .body)))))) (.refl _) rfl (r_neE rfl rfl) ?_
              refine d_end (by kernel_rfl) ?_
              refine Tr.keep (env' := [(1, _), (2, _), (10, _), (12, _), (13, _), (100, _)]) ⟨rfl, rfl, rfl, rfl, rfl, rfl, trivial⟩ ?_
              refine t_then ?_
              refine t_cond rfl (fun hc8 => ?_) (fun hc8 => ?_)
              · skip
                refine t_region ?_
                refine t_val (r_to (v2 := .int .i64 (j : Int)) (r_move rfl) (congrArg (Value.int .i64) (by omega))) rfl ?_
                refine t_val (r_assign rfl) rfl ?_
                refine t_nil ?_
                refine Tr.keep (env' := [(1, _), (2, _), (10, _), (12, _), (13, _)]) ⟨rfl, rfl, rfl, rfl, rfl, trivial⟩ ?_
                refine t_in ?_
                refine t_then ?_
                refine t_region ?_
                refine t_val (r_move rfl) rfl ?_
                refine t_val (r_to (v2 := .int .i64 ((j : Int) - 1)) (r_subi rfl rfl (by omega)) (congrArg (Value.int .i64) (by omega))) rfl ?_
                refine t_val (r_assign rfl) rfl ?_
                refine t_nil ?_
                refine Tr.keep (env' := [(1, _), (2, _), (10, _), (12, _), (13, _)]) ⟨rfl, rfl, rfl, rfl, rfl, trivial⟩ ?_
                refine t_then ?_
                refine t_K (IH2 (j, (j : Int)) ⟨by omega, by rw [dn_step _ (zipE_at hek hfk), if_pos hc8]⟩ (by simp)) ⟨rfl, rfl, rfl, rfl, rfl, trivial⟩ (.refl _)
              · skip
                refine t_skip ?_
                refine t_in ?_
                refine t_then ?_
                refine t_region ?_
                refine t_val (r_move rfl) rfl ?_
                refine t_val (r_to (v2 := .int .i64 ((j : Int) - 1)) (r_subi rfl rfl (by omega)) (congrArg (Value.int .i64) (by omega))) rfl ?_
                refine t_val (r_assign rfl) rfl ?_
                refine t_nil ?_
                refine Tr.keep (env' := [(1, _), (2, _), (10, _), (12, _), (13, _)]) ⟨rfl, rfl, rfl, rfl, rfl, trivial⟩ ?_
                refine t_then ?_
                refine t_K (IH2 (j, f2) ⟨by omega, by rw [dn_step _ (zipE_at hek hfk), if_neg (fun e9 => Bool.noConfusion (e9.symm.trans hc8))]; exact hf2⟩ (by simp)) ⟨rfl, rfl, rfl, rfl, rfl, trivial⟩ (.refl _)
            · have hk0 : k2 = 0 := by have := of_decide_eq_false hc5; omega
              subst hk0
              have hf3 : f2 = partsV es fs := hf2
              refine t_exit ?_
              refine t_then_exit ?_
              refine t_then_exit ?_
              refine t_in_hit ?_
              refine t_then ?_
              refine t_seq ?_
              refine t_region ?_
              refine t_val (r_move rfl) rfl ?_
              refine t_eff rfl (e_pcall en_10 rfl rfl rfl rfl (honest_c hT (ha.sub (List.Sublist.trans (List.Sublist.trans (List.Sublist.trans (List.Sublist.trans (.refl _) (List.sublist_append_right _ _)) (List.sublist_append_right _ _)) (List.sublist_append_right _ _)) (List.sublist_append_right _ _))) hszE (by omega)) ?_)
              refine t_val (r_move rfl) rfl ?_
              refine t_val (r_to (v2 := .bool true) (r_eq rfl rfl) (congrArg Value.bool (by simp [hf1]))) rfl ?_
              refine t_val (r_move rfl) rfl ?_
              refine t_gval rfl rfl (r_move rfl) rfl ?_
              refine t_gval rfl rfl (r_move rfl) rfl ?_
              refine t_geff rfl rfl (e_pcall en_11 rfl rfl rfl rfl (parts_c (ha.sub (List.Sublist.trans (List.Sublist.trans (List.Sublist.trans (List.Sublist.trans (.refl _) (List.sublist_append_right _ _)) (List.sublist_append_right _ _)) (List.sublist_append_right _ _)) (List.sublist_append_right _ _))) (hb.sub (List.Sublist.trans (List.Sublist.trans (List.Sublist.trans (List.Sublist.trans (.refl _) (List.sublist_append_right _ _)) (List.sublist_append_right _ _)) (List.sublist_append_right _ _)) (List.sublist_append_right _ _)))) ?_)
              refine t_gval rfl rfl (r_move rfl) rfl ?_
              refine t_gval rfl rfl (r_to (v2 := .bool true) (r_eq rfl rfl) (congrArg Value.bool (by simp [hf3]))) rfl ?_
              refine t_val (r_pick_t rfl rfl) rfl ?_
              refine t_val (r_move rfl) rfl ?_
              refine t_gval rfl rfl (r_move rfl) rfl ?_
              refine t_gval rfl rfl (r_move rfl) rfl ?_
              refine t_geff rfl rfl (e_pcall en_11 rfl rfl rfl rfl (parts_c (hb.sub (List.Sublist.trans (List.Sublist.trans (List.Sublist.trans (List.Sublist.trans (.refl _) (List.sublist_append_right _ _)) (List.sublist_append_right _ _)) (List.sublist_append_right _ _)) (List.sublist_append_right _ _))) (ha.sub (List.Sublist.trans (List.Sublist.trans (List.Sublist.trans (List.Sublist.trans (.refl _) (List.sublist_append_right _ _)) (List.sublist_append_right _ _)) (List.sublist_append_right _ _)) (List.sublist_append_right _ _)))) ?_)
              refine t_gval rfl rfl (r_move rfl) rfl ?_
              refine t_gval rfl rfl (r_to (v2 := .bool true) (r_eq rfl rfl) (congrArg Value.bool (by simp [hf3, parts_sym es fs]))) rfl ?_
              refine t_val (r_pick_t rfl rfl) rfl ?_
              refine t_val (r_move rfl) rfl ?_
              refine t_geff rfl rfl (e_pcall en_6 rfl rfl rfl rfl (known_c hT) ?_)
              refine t_val (r_pick_t rfl rfl) rfl ?_
              refine t_val (r_assign rfl) rfl ?_
              refine t_nil ?_
              refine Tr.keep (env' := [(6, _)]) ⟨rfl, trivial⟩ ?_
              refine t_then ?_
              refine t_retc ?_
              refine t_ret1 rfl rfl (fun w hw => ?_)
              exact ⟨rfl, hw.sub (List.Sublist.trans (List.Sublist.trans (List.Sublist.trans (List.Sublist.trans (.refl _) (List.sublist_append_right _ _)) (List.sublist_append_right _ _)) (List.sublist_append_right _ _)) (List.sublist_append_right _ _))⟩
end
end Go.Proofs.W
