import Derived.Test.YtpfhleghgkeemaaGreatDoorI0
import Derived.Test.YtpfhleghgkeemaaGreatDoorH2
namespace Go.Proofs.YtpfhleghgkeemaaGreatDoor
open Go Go.Sx
set_option linter.unusedVariables false

def powName : String := "internal/strconv.uint64pow10"
def powQ : Sx.Oq where
  own := fun k => k = 2
  rw := False
  holds := fun w => Lib.TabIs Tryz.prog w powName .u64 Lib.pow10Tab
  loc := fun w w' h hw => by
    have hg : Tryz.prog.globalNamed powName = some 2 := by kernel_rfl
    unfold Lib.TabIs World.var? at hw ⊢
    rw [hg] at hw ⊢
    have h2 := h _ rfl
    simp only [Option.bind_some] at hw ⊢
    rw [h2]; exact hw
  lt := fun w k hw hk => by
    subst hk
    have hg : Tryz.prog.globalNamed powName = some 2 := by kernel_rfl
    unfold Lib.TabIs World.var? at hw
    rw [hg] at hw
    simp only [Option.bind_some] at hw
    refine Nat.lt_of_not_le fun hle => ?_
    rw [Array.getElem?_eq_none hle] at hw
    cases hw
/-- The table of powers of ten. -/
def gPow : Ch := .op powQ
theorem view_gPow : View gPow gPow := ⟨fun w h => h, fun w h k hk => hk, fun h => h⟩
theorem Itoa_spec (n : Int) (h0 : -9223372036854775808 ≤ n) (h1 : n ≤ 9223372036854775807) : Does Tryz.prog 93 [.int .i64 n] [gPow] (fun v hp' => v = .string (mkS (Lib.itoa n)) ∧ hp' = []) := fun w hw =>
  (Tryz.strconv_Itoa n h0 h1 w (hw.holds gPow (List.mem_singleton.2 rfl))).mono fun e w' ⟨he, k, os, hw'⟩ => by
    subst hw'
    refine ⟨_, [], ⟨rfl, rfl⟩, he, ⟨(fun c hc => by cases hc), List.Pairwise.nil⟩, ⟨rfl, rfl, rfl, ?_, fun k hk _ => ?_⟩, (fun c hc => by cases hc), fun c hc => by cases hc⟩
    · rw [Sort.size_grow]; exact Nat.le_add_right _ _
    · exact Sort.heap_grow_old _ _ hk
end Go.Proofs.YtpfhleghgkeemaaGreatDoor
