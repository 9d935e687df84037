import Derived.Test.YtoagfnobfbfdfaaF8
import Derived.Test.YtoagfnobfbfdfaaF12
import Derived.Test.YtoagfnobfbfdfaaF14
namespace Go.Proofs.Ytoagfnobfbfdfaa
open Go Go.Sx
set_option linter.unusedVariables false
theorem FloorOrder_in (x0 : Sl (Int × Int)) (hV : (sliceS askS).V x0) :
    Does Try.prog 5 [.slice x0.1 x0.2.2.length x0.2.1] [deep (sliceS askS) x0] (fun v hp' => v = .bool true ∧ hp' = []) := asks_in (fun al cl l ha hl => FloorOrder_spec al cl l ha hl) x0 hV
theorem FloorServes_in (x0 : Sl Int) (hV : (sliceS (intS .i64)).V x0) :
    Does Try.prog 6 [.slice x0.1 x0.2.2.length x0.2.1] [deep (sliceS (intS .i64)) x0] (fun v hp' => v = .bool true ∧ hp' = []) := by
  obtain ⟨a, c, l⟩ := x0
  have hlen := le_sumB (intS .i64) (fun _ => Nat.le_refl 1) l
  refine (FloorServes_spec a c l hV.1 (by have h1 : l.length ≤ c := hV.2.1; have h2 : c ≤ 9223372036854775807 := hV.2.2.1; omega)).pre (fun w h => ?_) (fun k h => ?_)
  · refine hs_ro (fun d hd => ?_) (fun d hd => ?_)
    · rw [List.mem_singleton.1 hd]
      have h2 := view_flat.holds w (h.holds (deep (sliceS (intS .i64)) (a, c, l)) (by simp))
      rw [flat_ints] at h2
      exact h2
    · rw [List.mem_singleton.1 hd]; exact fun h => h
  · obtain ⟨d, hd, hr, _⟩ := h
    rw [List.mem_singleton.1 hd] at hr
    exact hr.elim
end Go.Proofs.Ytoagfnobfbfdfaa
