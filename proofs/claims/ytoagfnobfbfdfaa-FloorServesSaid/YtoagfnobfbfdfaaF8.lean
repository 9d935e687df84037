import Derived.Test.YtoagfnobfbfdfaaF7
import Derived.Test.YtoagfnobfbfdfaaX14
namespace Go.Proofs.Ytoagfnobfbfdfaa
open Go Go.Sx
set_option linter.unusedVariables false
/-- A floor that comes in. -/
def floorS : Shape (Int × Sl Int) := upS (pairS (intS .i64) (sliceS (intS .i64)))
theorem opens_ints : Opens Try.prog 22 1 (sliceS (intS .i64)) := opens_slice Try.underlying22 (by kernel_rfl) (opens_int Try.underlying3 (by kernel_rfl))
theorem opens_floor : Opens Try.prog 24 2 floorS :=
  opens_struct Try.underlying24 (by kernel_rfl) (opensFs_cons (off := 0) (k := 1) (m := 1) (opens_int Try.underlying3 (by kernel_rfl)) rfl (by kernel_rfl) (opensFs_one opens_ints rfl))
theorem FloorAsks_in (x0 : Int × Sl Int) (x1 : Int) (hV : floorS.V x0) :
    Does Try.prog 3 [.agg (floorS.C x0).toArray, .int .i64 x1] [deep floorS x0, deep (intS .i64) x1] (fun v hp' => v = .bool true ∧ hp' = []) := by
  obtain ⟨H, a, c, l⟩ := x0
  obtain ⟨_, hn, hc, hm, _⟩ := hV
  dsimp only at hn hc hm
  refine (FloorAsks_spec H a c l x1 hn (by have h2 : c ≤ 9223372036854775807 := hm; omega) hc).pre (fun w h => ?_) (fun k h => ?_)
  · refine hs_ro (fun d hd => ?_) (fun d hd => ?_)
    · rw [List.mem_singleton.1 hd]
      have h1 := h.holds (deep floorS (H, a, c, l)) (by simp)
      have h2 := view_flat.holds w (view_snd.holds w (view_up.holds w h1))
      rw [flat_ints] at h2
      exact h2
    · rw [List.mem_singleton.1 hd]; exact fun h => h
  · obtain ⟨d, hd, hr, _⟩ := h
    rw [List.mem_singleton.1 hd] at hr
    exact hr.elim
end Go.Proofs.Ytoagfnobfbfdfaa
