import Derived.Test.YtmjhcadciblcdaaB21
import Derived.Test.YtmjhcadciblcdaaX14
namespace Go.Proofs.Ytmjhcadciblcdaa
open Go Go.Sx
set_option linter.unusedVariables false
set_option linter.unusedSimpArgs false

theorem opens_bytes : Opens Try.prog 22 1 (sliceS (intS .u8)) := opens_slice Try.underlying22 (by kernel_rfl) (opens_int Try.underlying5 (by kernel_rfl))
theorem opens_rows : Opens Try.prog 41 1 (sliceS (sliceS (intS .u8))) := opens_slice Try.underlying41 (by kernel_rfl) opens_bytes
/-- Bytes that came in. -/
def toB (l : List Int) : List UInt8 := l.map fun n => UInt8.ofNat n.toNat
theorem toB_flat : ∀ (l : List Int), (∀ n ∈ l, (intS .u8).V n) → l.flatMap (intS .u8).C = u8s (toB l)
  | [], _ => rfl
  | n :: l, h => by
    have h1 : (Lit.int .u8 n).wf = true := h n (List.mem_cons_self ..)
    simp [Lit.wf, IntKind.min, IntKind.max, IntKind.signed, IntKind.bits] at h1
    have h2 : ((UInt8.ofNat n.toNat).toNat : Int) = n := by rw [UInt8.toNat_ofNat']; omega
    have ih := toB_flat l (fun m hm => h m (List.mem_cons_of_mem _ hm))
    rw [List.flatMap_cons, ih]
    show [Value.int .u8 n] ++ u8s (toB l) = Value.int .u8 ((UInt8.ofNat n.toNat).toNat : Int) :: u8s (toB l)
    rw [h2]; rfl
def toPart (y : Sl Int) : Part := (y.1, y.2.1, toB y.2.2)
theorem FrameCut_in (x0 : Sl (Sl Int)) (x1 : Int) (hV : (sliceS (sliceS (intS .u8))).V x0) (h1 : -9223372036854775808 ≤ x1) (h2 : x1 ≤ 9223372036854775807) :
    Does Try.prog 7 [.slice x0.1 x0.2.2.length x0.2.1, .int .i64 x1] [deep (sliceS (sliceS (intS .u8))) x0, deep (intS .i64) x1] (fun v hp' => v = .bool true ∧ hp' = []) := by
  obtain ⟨a, c, l⟩ := x0
  obtain ⟨hn, hc, hm0, hel⟩ := hV
  dsimp only at hn hc hel
  have hm1 : c ≤ 9223372036854775807 := hm0
  have hlen := le_sumB (sliceS (intS .u8)) (fun y => by show 1 ≤ sumB (intS .u8) y.2.2 + 1; omega) l
  have hpl : (l.map toPart).length = l.length := List.length_map ..
  have hsp := FrameCut_spec a c (l.map toPart) x1 (fun e => by rw [hn e]; rfl) (by omega) (fun x hx => by
    obtain ⟨y, hy, rfl⟩ := List.mem_map.1 hx
    have e1 : y.2.2.length ≤ y.2.1 := (hel y hy).2.1
    have e2 : y.2.1 ≤ 9223372036854775807 := (hel y hy).2.2.1
    have hl2 := le_sumB (intS .u8) (fun _ => Nat.le_refl 1) y.2.2
    have hb : (sliceS (intS .u8)).B y = sumB (intS .u8) y.2.2 + 1 := rfl
    have hbl : (toB y.2.2).length = y.2.2.length := by simp [toB]
    refine ⟨by show (toB y.2.2).length ≤ _; omega, fun e => ?_⟩
    have h3 := (hel y hy).1 e
    show toB y.2.2 = []
    rw [h3]; rfl) h1 h2
  rw [hpl] at hsp
  have hfl : l.flatMap (sliceS (intS .u8)).C = (l.map toPart).map valOf' := by
    rw [List.map_map]
    have : ∀ m : List (Sl Int), m.flatMap (sliceS (intS .u8)).C = m.map (valOf' ∘ toPart) := fun m => by
      induction m with
      | nil => rfl
      | cons y m ih =>
        rw [List.flatMap_cons, ih, List.map_cons]
        show [Value.slice y.1 y.2.2.length y.2.1] ++ _ = Value.slice y.1 (toB y.2.2).length y.2.1 :: _
        simp [toB]
    exact this l
  have hro : ∀ y ∈ l, y.2.2.flatMap (intS .u8).C = u8s (toB y.2.2) := fun y hy => toB_flat y.2.2 (hel y hy).2.2.2
  refine hsp.pre (fun w h => ?_) (fun k h => ?_)
  · have hd := h.holds (deep (sliceS (sliceS (intS .u8))) (a, c, l)) (by simp)
    refine hs_ro (fun d hdm => ?_) (fun d hdm => ?_)
    · simp only [List.mem_cons, List.not_mem_nil, or_false] at hdm
      rcases hdm with rfl | rfl
      · have h3 := view_flat.holds w hd
        rw [hfl] at h3
        exact h3
      · intro ch hch
        obtain ⟨x, hx, rfl⟩ := List.mem_map.1 hch
        obtain ⟨y, hy, rfl⟩ := List.mem_map.1 hx
        have h3 := view_flat.holds w ((view_elem hy).holds w hd)
        rw [hro y hy] at h3
        exact h3
    · simp only [List.mem_cons, List.not_mem_nil, or_false] at hdm
      rcases hdm with rfl | rfl <;> exact fun h => h
  · obtain ⟨d, hdm, hr, _⟩ := h
    simp only [List.mem_cons, List.not_mem_nil, or_false] at hdm
    rcases hdm with rfl | rfl <;> exact hr.elim
end Go.Proofs.Ytmjhcadciblcdaa
