/-
  The closed facts of the law ShowNil: what its row says of the program is what the program forces.
-/
import Derived.Test.YtgcfomhlgipllaaGreatDoorRows
import Derived.JoinedCond
namespace Go.Proofs.YtgcfomhlgipllaaGreatDoor.showNil
open Go
theorem and_tt {a b : Bool} (h1 : a = true) (h2 : b = true) : (a && b) = true := by rw [h1, h2]; rfl
set_option maxHeartbeats 8000000 in
theorem closed : joinedFacts Tryz.pinned.checked.prog 10 Tryz.f10 (OpenSpec.ofChange Rows.showNilSpec).bare Rows.showNilRow = true := by
  unfold joinedFacts
  refine and_tt (and_tt (and_tt (and_tt (and_tt (and_tt (and_tt (and_tt ?_ ?_) ?_) ?_) ?_) ?_) ?_) ?_) ?_
  all_goals (as_aux_lemma => kernel_rfl)
end Go.Proofs.YtgcfomhlgipllaaGreatDoor.showNil
