/-
  RallyChecksCardSaid is proved: the law returns true and leaves its arguments as they were; what the row lists of variables is tied to the program text.
-/
import Derived.Test.YtakiijkfjjmppaaGreatDoorKRD
namespace Go.Proofs.YtakiijkfjjmppaaGreatDoor
open Go
theorem rallyChecks_card : Rows.RallyChecksCardSaid :=
  Claim7.holds_tied_plain_at .later [] [.data, .data, .data, .data, .sentinel, .sentinel, .pinned] true (true, "48cff037cd9ec03bb2f0ad3c6bc3b7b0662e0e03dba38e1e5e24c01786ee1e33") true
    uA (fun _ h => by cases h) qKA (fun _ h => by cases h) rallyChecks_row_tie rfl ⟨rfl, rfl⟩ qKB rfl
    (fun f fn hf hfn => by
      obtain rfl : f = 4 := Option.some.inj (qKE.symm.trans hf) |>.symm
      obtain rfl : fn = Tryz.f4 := (Option.some.inj (Tryz.func4.symm.trans hfn)).symm
      exact ⟨qKC, fun j t ht => by
        rw [Tryz.params4] at ht
        have hm : t ∈ [38] := by simpa using Array.mem_of_getElem? ht
        exact (show Tryz.prog.wantsStandIn t = false by simpa using List.all_eq_true.1 qKF t hm)⟩)
    qKD
#print axioms rallyChecks_card
end Go.Proofs.YtakiijkfjjmppaaGreatDoor
