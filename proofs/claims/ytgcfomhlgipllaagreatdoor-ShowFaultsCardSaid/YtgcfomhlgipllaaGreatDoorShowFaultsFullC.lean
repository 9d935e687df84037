/-
  The closed facts of the law ShowFaults: what its row says of the program is what the program forces.
-/
import Derived.Test.YtgcfomhlgipllaaGreatDoorRows
import Derived.JoinedCond
namespace Go.Proofs.YtgcfomhlgipllaaGreatDoor.showFaults
open Go
theorem and_tt {a b : Bool} (h1 : a = true) (h2 : b = true) : (a && b) = true := by rw [h1, h2]; rfl
set_option maxHeartbeats 8000000 in
theorem closed : joinedFacts Tryz.pinned.checked.prog 9 Tryz.f9 (OpenSpec.ofChange Rows.showFaultsSpec).bare Rows.showFaultsRow = true := by
  unfold joinedFacts
  refine and_tt (and_tt (and_tt (and_tt (and_tt (and_tt (and_tt (and_tt ?_ ?_) ?_) ?_) ?_) ?_) ?_) ?_) ?_
  all_goals (as_aux_lemma => kernel_rfl)
end Go.Proofs.YtgcfomhlgipllaaGreatDoor.showFaults
