import Derived.Test.YtpfhleghgkeemaaGreatDoorH49
import Derived.Test.YtpfhleghgkeemaaGreatDoorH35
namespace Go.Proofs.YtpfhleghgkeemaaGreatDoor
open Go Go.Sx
set_option linter.unusedVariables false
set_option linter.unusedSimpArgs false
theorem opens_acts : Opens Tryz.prog 35 1 (sliceS actS) := opens_slice Tryz.underlying35 (by kernel_rfl) opens_act
theorem HeapPlays_in (x0 : Int) (x1 : Sl A6) (x2 : V3) (hV : (sliceS actS).V x1) (hB : (sliceS actS).B x1 ≤ 1048576) (hV2 : valS.V x2) (hB2 : valS.B x2 ≤ 1048576) :
    Does Tryz.prog 9 [.int .i64 x0, .slice x1.1 x1.2.2.length x1.2.1, .agg (valS.C x2).toArray] [deep (intS .i64) x0, deep (sliceS actS) x1, deep valS x2, gWords, gPow] (fun v hp' => v = .bool true ∧ hp' = []) := by
  obtain ⟨hs, hl⟩ := acts_ok hV hB
  have h := HeapPlays_spec x0 x1.1 x1.2.1 (x1.2.2.map toAt) (toV x2) hl hs (valS_sm hB2) (valS_i64 hV2)
  rw [List.length_map] at h
  refine h.pre (fun w hw => ?_) (fun k hk => ?_)
  · have hd := hw.holds (deep (sliceS actS) x1) (by simp)
    obtain ⟨h1, h2⟩ := acts_hold hd
    refine Go.Sx.hs_ro (fun d hdm => ?_) (fun d hdm => ?_)
    · simp only [List.mem_cons, List.not_mem_nil, or_false] at hdm
      rcases hdm with rfl | rfl | rfl | rfl
      · exact h1
      · exact h2
      · exact hw.holds gWords (by simp)
      · exact hw.holds gPow (by simp)
    · simp only [List.mem_cons, List.not_mem_nil, or_false] at hdm
      rcases hdm with rfl | rfl | rfl | rfl <;> exact fun h => h
  · obtain ⟨d, hdm, hr, _⟩ := hk
    simp only [List.mem_cons, List.not_mem_nil, or_false] at hdm
    rcases hdm with rfl | rfl | rfl | rfl <;> exact hr.elim
end Go.Proofs.YtpfhleghgkeemaaGreatDoor
