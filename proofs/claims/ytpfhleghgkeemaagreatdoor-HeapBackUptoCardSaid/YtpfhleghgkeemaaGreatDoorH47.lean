import Derived.Test.YtpfhleghgkeemaaGreatDoorH46
import Derived.Test.YtpfhleghgkeemaaGreatDoorH35
namespace Go.Proofs.YtpfhleghgkeemaaGreatDoor
open Go Go.Sx
set_option linter.unusedVariables false
set_option linter.unusedSimpArgs false
theorem opens_acts : Opens Tryz.prog 35 1 (sliceS actS) := opens_slice Tryz.underlying35 (by kernel_rfl) opens_act
theorem HeapBack_in (x0 : Sl A6) (x1 : V3) (hV : (sliceS actS).V x0) (hB : (sliceS actS).B x0 ≤ 1048576) (hV1 : valS.V x1) (hB1 : valS.B x1 ≤ 1048576) :
    Does Tryz.prog 7 [.slice x0.1 x0.2.2.length x0.2.1, .agg (valS.C x1).toArray] [deep (sliceS actS) x0, deep valS x1, gWords, gPow] (fun v hp' => v = .bool true ∧ hp' = []) := by
  obtain ⟨hs, hl⟩ := acts_ok hV hB
  have h := HeapBack_spec x0.1 x0.2.1 (x0.2.2.map toAt) (toV x1) hl hs (valS_sm hB1) (valS_i64 hV1)
  rw [List.length_map] at h
  refine h.pre (fun w hw => ?_) (fun k hk => ?_)
  · have hd := hw.holds (deep (sliceS actS) x0) (by simp)
    obtain ⟨h1, h2⟩ := acts_hold hd
    refine Go.Sx.hs_ro (fun d hdm => ?_) (fun d hdm => ?_)
    · simp only [List.mem_cons, List.not_mem_nil, or_false] at hdm
      rcases hdm with rfl | rfl | rfl | rfl
      · exact h1
      · exact h2
      · exact hw.holds gWords (by simp)
      · exact hw.holds gPow (by simp)
    · simp only [List.mem_cons, List.not_mem_nil, or_false] at hdm
      rcases hdm with rfl | rfl | rfl | rfl <;> exact fun h => h
  · obtain ⟨d, hdm, hr, _⟩ := hk
    simp only [List.mem_cons, List.not_mem_nil, or_false] at hdm
    rcases hdm with rfl | rfl | rfl | rfl <;> exact hr.elim
end Go.Proofs.YtpfhleghgkeemaaGreatDoor
