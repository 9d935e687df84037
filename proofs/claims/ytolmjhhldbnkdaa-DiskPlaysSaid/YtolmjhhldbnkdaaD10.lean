import Derived.Test.YtolmjhhldbnkdaaRows
import Derived.Test.YtolmjhhldbnkdaaD9
import Derived.Test.YtolmjhhldbnkdaaX11
namespace Go.Proofs.Ytolmjhhldbnkdaa
open Go Go.Sx
set_option linter.unusedVariables false
set_option linter.unusedSimpArgs false
theorem actC_one (x : Int × Int × List UInt8) : Go.Sx.One (actC x) := by simp [Go.Sx.One, actC, Value.oneCell']
theorem actC_in {H : Type} {W : World} {base : Nat} {enc : TypeId × Value → H} {held : Bool} (n : Nat) (cs : List Value) (y : DataW H × List MemPlace) (h : DataW.trod enc Try.prog W base (fun _ => true) held n 37 cs = some y) : ∃ x, cs = actC x ∧ True := by
  obtain ⟨xs, m, rfl, rfl, hl, hx, hi⟩ := DataW.trod_struct Try.underlying37 h
  have hl3 : cs.length = 3 := hl.trans (by kernel_rfl)
  have e3 : Try.prog.cellsOf 3 = 1 := by kernel_rfl
  have e9 : Try.prog.cellsOf 9 = 1 := by kernel_rfl
  obtain ⟨c0, c1, c2, rfl⟩ : ∃ c0 c1 c2, cs = [c0, c1, c2] := by
    match cs, hl3 with
    | [c0, c1, c2], _ => exact ⟨c0, c1, c2, rfl⟩
  obtain ⟨x0, x1, x2, rfl⟩ : ∃ c0 c1 c2, xs = [c0, c1, c2] := by
    match xs, hx with
    | [c0, c1, c2], _ => exact ⟨c0, c1, c2, rfl⟩
  have f0 := hi 0 _ rfl
  have f1 := hi 1 _ rfl
  have f2 := hi 2 _ rfl
  simp only [e3, e9, List.drop_zero, List.drop_succ_cons, List.take_succ_cons, List.take_zero, List.getElem?_cons_zero, List.getElem?_cons_succ] at f0 f1 f2
  obtain ⟨v0, hv0, _⟩ := DataW.trod_int Try.underlying3 f0
  obtain ⟨v1, hv1, _⟩ := DataW.trod_int Try.underlying3 f1
  obtain ⟨v2, hv2, _⟩ := DataW.trod_string Try.underlying9 f2
  cases hv0; cases hv1; cases hv2
  exact ⟨(v0, v1, v2.data.toList), rfl, trivial⟩
end Go.Proofs.Ytolmjhhldbnkdaa
