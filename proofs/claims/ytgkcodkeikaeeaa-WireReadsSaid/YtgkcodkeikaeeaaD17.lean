import Derived.Test.YtgkcodkeikaeeaaRows
import Derived.Test.YtgkcodkeikaeeaaD16
namespace Go.Proofs.Ytgkcodkeikaeeaa
open Go Go.Sx
set_option linter.unusedVariables false
set_option linter.unusedSimpArgs false
theorem askC_one (x : Int × Int) : Go.Sx.One (askC x) := by simp [Go.Sx.One, askC, Value.oneCell']
theorem askC_in {H : Type} {W : World} {base : Nat} {enc : TypeId × Value → H} {held : Bool} (n : Nat) (cs : List Value) (y : DataW H × List MemPlace) (h : DataW.trod enc Try.prog W base (fun _ => true) held n 49 cs = some y) : ∃ x, cs = askC x ∧ True := by
  obtain ⟨xs, m, rfl, rfl, hl, hx, hi⟩ := DataW.trod_struct Try.underlying49 h
  have hl2 : cs.length = 2 := hl.trans (by kernel_rfl)
  have e3 : Try.prog.cellsOf 3 = 1 := by kernel_rfl
  obtain ⟨c0, c1, rfl⟩ : ∃ c0 c1, cs = [c0, c1] := by
    match cs, hl2 with
    | [c0, c1], _ => exact ⟨c0, c1, rfl⟩
  obtain ⟨x0, x1, rfl⟩ : ∃ c0 c1, xs = [c0, c1] := by
    match xs, hx with
    | [c0, c1], _ => exact ⟨c0, c1, rfl⟩
  have f0 := hi 0 _ rfl
  have f1 := hi 1 _ rfl
  simp only [e3, List.drop_zero, List.drop_succ_cons, List.take_succ_cons, List.take_zero, List.getElem?_cons_zero, List.getElem?_cons_succ] at f0 f1
  obtain ⟨v0, hv0, _⟩ := DataW.trod_int Try.underlying3 f0
  obtain ⟨v1, hv1, _⟩ := DataW.trod_int Try.underlying3 f1
  cases hv0; cases hv1
  exact ⟨(v0, v1), rfl, trivial⟩
end Go.Proofs.Ytgkcodkeikaeeaa
