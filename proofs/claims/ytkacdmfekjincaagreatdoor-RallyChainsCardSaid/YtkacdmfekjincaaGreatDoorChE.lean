/-
  RallyChainsCardSaid is proved: RallyChains returns true and leaves its arguments as they were; what the row lists of variables is tied to the program text.
-/
import Derived.Test.YtkacdmfekjincaaGreatDoorChD
namespace Go.Proofs.YtkacdmfekjincaaGreatDoor
open Go
theorem rallyChains_card : Rows.RallyChainsCardSaid :=
  Claim7.holds_tied_plain_at .later [] [.data, .data, .data, .data, .sentinel, .sentinel, .pinned] true (true, "30b9684ee9cf2f4bc30fe64fa7678ae1cbb76fc56fef8b70524dc6bab4798508") true
    rallyChains_said (fun _ h => by cases h) chA (fun _ h => by cases h) rallyChains_row_tie rfl ⟨rfl, rfl⟩ chB rfl
    (fun f fn hf hfn => by
      obtain rfl : f = 3 := Option.some.inj (chE.symm.trans hf) |>.symm
      obtain rfl : fn = Tryz.f3 := (Option.some.inj (Tryz.func3.symm.trans hfn)).symm
      exact ⟨chC, fun j t ht => by
        rw [Tryz.params3] at ht
        have hm : t ∈ [22, 23, 23] := by simpa using Array.mem_of_getElem? ht
        exact (show Tryz.prog.wantsStandIn t = false by simpa using List.all_eq_true.1 chF9 t hm)⟩)
    chD
#print axioms rallyChains_card
end Go.Proofs.YtkacdmfekjincaaGreatDoor
