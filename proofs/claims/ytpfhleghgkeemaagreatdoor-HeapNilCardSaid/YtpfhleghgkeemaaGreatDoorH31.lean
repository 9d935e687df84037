import Derived.Test.YtpfhleghgkeemaaGreatDoorH28
import Derived.Test.YtpfhleghgkeemaaGreatDoorH30
import Derived.Test.YtpfhleghgkeemaaGreatDoorY2
namespace Go.Proofs.YtpfhleghgkeemaaGreatDoor
open Go Go.Sx
set_option linter.unusedVariables false
/-- A value that comes in. -/
def valS : Shape (Int × Int × List UInt8) := upS (pairS (intS .i64) (pairS (intS .i64) strS))
theorem opens_val : Opens Tryz.prog 28 3 valS :=
  opens_struct Tryz.underlying28 (by kernel_rfl) (opensFs_cons (off := 0) (k := 1) (m := 2) (opens_int Tryz.underlying26 (by kernel_rfl)) rfl (by kernel_rfl) (opensFs_cons (off := 1) (k := 1) (m := 1) (opens_int Tryz.underlying3 (by kernel_rfl)) rfl (by kernel_rfl) (opensFs_one (opens_str Tryz.underlying9 (by kernel_rfl)) rfl)))
/-- What is laid beside what comes in. -/
theorem HeapNil_in (x0 : Int × Int × List UInt8) (x1 : Int) (x2 : Bool) :
    Does Tryz.prog 8 [.agg (valS.C x0).toArray, .int .i64 x1, .bool x2] [deep valS x0, deep (intS .i64) x1, deep boolS x2, gWords, gPow] (fun v hp' => v = .bool true ∧ hp' = []) := by
  obtain ⟨k, n, s⟩ := x0
  refine (HeapNil_spec k n s x1 x2).pre (fun w h => ?_) (fun q h => ?_)
  · exact ⟨fun c hc => h.holds c (by simp only [List.mem_cons, List.not_mem_nil, or_false] at hc ⊢; rcases hc with rfl | rfl <;> simp), List.pairwise_cons.2 ⟨fun d hd => .inl ⟨fun h => h, by rw [List.mem_singleton.1 hd]; exact fun h => h⟩, by simp⟩⟩
  · obtain ⟨c, hc, hr, _⟩ := h
    simp only [List.mem_cons, List.not_mem_nil, or_false] at hc
    rcases hc with rfl | rfl <;> exact hr.elim
end Go.Proofs.YtpfhleghgkeemaaGreatDoor
