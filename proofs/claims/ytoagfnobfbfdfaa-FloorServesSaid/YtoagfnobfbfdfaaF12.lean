import Derived.Test.YtoagfnobfbfdfaaF11
import Derived.Test.YtoagfnobfbfdfaaX14
namespace Go.Proofs.Ytoagfnobfbfdfaa
open Go Go.Sx
set_option linter.unusedVariables false
def askS : Shape (Int × Int) := upS (pairS (intS .i64) (intS .i64))
theorem opens_ask : Opens Try.prog 41 2 askS :=
  opens_struct Try.underlying41 (by kernel_rfl) (opensFs_cons (off := 0) (k := 1) (m := 1) (opens_int Try.underlying3 (by kernel_rfl)) rfl (by kernel_rfl) (opensFs_one (opens_int Try.underlying3 (by kernel_rfl)) rfl))
theorem opens_asks : Opens Try.prog 38 1 (sliceS askS) := opens_slice Try.underlying38 (by kernel_rfl) opens_ask
theorem asks_in {f : FuncId} (h : ∀ (al : Option Addr) (cl : Nat) (l : List (Int × Int)), (al = none → l = []) → l.length ≤ 9223372036854775807 → Does Try.prog f [.slice al l.length cl] [ro al (l.flatMap askC)] (fun v hp' => v = .bool true ∧ hp' = []))
    (x0 : Sl (Int × Int)) (hV : (sliceS askS).V x0) :
    Does Try.prog f [.slice x0.1 x0.2.2.length x0.2.1] [deep (sliceS askS) x0] (fun v hp' => v = .bool true ∧ hp' = []) := by
  obtain ⟨a, c, l⟩ := x0
  have hlen := le_sumB askS (fun _ => by simp [askS, upS]) l
  refine (h a c l hV.1 (by have h1 : l.length ≤ c := hV.2.1; have h2 : c ≤ 9223372036854775807 := hV.2.2.1; omega)).pre (fun w h => ?_) (fun k h => ?_)
  · refine hs_ro (fun d hd => ?_) (fun d hd => ?_)
    · rw [List.mem_singleton.1 hd]
      exact view_flat.holds w (h.holds (deep (sliceS askS) (a, c, l)) (by simp))
    · rw [List.mem_singleton.1 hd]; exact fun h => h
  · obtain ⟨d, hd, hr, _⟩ := h
    rw [List.mem_singleton.1 hd] at hr
    exact hr.elim
end Go.Proofs.Ytoagfnobfbfdfaa
