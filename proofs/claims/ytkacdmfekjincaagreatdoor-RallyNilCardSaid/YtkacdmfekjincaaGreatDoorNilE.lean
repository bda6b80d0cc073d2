/-
  RallyNilCardSaid is proved: RallyNil returns true and leaves its arguments as they were; what the row lists of variables is tied to the program text.
-/
import Derived.Test.YtkacdmfekjincaaGreatDoorNilD
namespace Go.Proofs.YtkacdmfekjincaaGreatDoor
open Go
theorem rallyNil_card : Rows.RallyNilCardSaid :=
  Claim7.holds_tied_plain_at .later [] [.data, .data, .data, .data, .sentinel, .sentinel, .pinned] true (true, "30b9684ee9cf2f4bc30fe64fa7678ae1cbb76fc56fef8b70524dc6bab4798508") true
    rallyNil_said (fun _ h => by cases h) nilA (fun _ h => by cases h) rallyNil_row_tie rfl ⟨rfl, rfl⟩ nilB rfl
    (fun f fn hf hfn => by
      obtain rfl : f = 4 := Option.some.inj (nilE.symm.trans hf) |>.symm
      obtain rfl : fn = Tryz.f4 := (Option.some.inj (Tryz.func4.symm.trans hfn)).symm
      exact ⟨nilC, fun j t ht => by
        rw [Tryz.params4] at ht
        have hm : t ∈ [9, 3, 3] := by simpa using Array.mem_of_getElem? ht
        exact (show Tryz.prog.wantsStandIn t = false by simpa using List.all_eq_true.1 nilF t hm)⟩)
    nilD
#print axioms rallyNil_card
end Go.Proofs.YtkacdmfekjincaaGreatDoor
