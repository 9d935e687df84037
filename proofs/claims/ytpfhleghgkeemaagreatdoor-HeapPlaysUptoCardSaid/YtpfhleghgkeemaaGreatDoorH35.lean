import Derived.Test.YtpfhleghgkeemaaGreatDoorH28
import Derived.Test.YtpfhleghgkeemaaGreatDoorH32
import Derived.Test.YtpfhleghgkeemaaGreatDoorY2
namespace Go.Proofs.YtpfhleghgkeemaaGreatDoor
open Go Go.Sx
set_option linter.unusedVariables false
set_option linter.unusedSimpArgs false
/-! Values, calls and objects that come in. -/
abbrev V3 := Int × Int × List UInt8
def valS : Shape V3 := upS (pairS (intS .i64) (pairS (intS .i64) strS))
theorem opens_val : Opens Tryz.prog 28 3 valS :=
  opens_struct Tryz.underlying28 (by kernel_rfl) (opensFs_cons (off := 0) (k := 1) (m := 2) (opens_int Tryz.underlying26 (by kernel_rfl)) rfl (by kernel_rfl) (opensFs_cons (off := 1) (k := 1) (m := 1) (opens_int Tryz.underlying3 (by kernel_rfl)) rfl (by kernel_rfl) (opensFs_one (opens_str Tryz.underlying9 (by kernel_rfl)) rfl)))
def toV (x : V3) : V := ⟨x.1, x.2.1, x.2.2⟩
theorem valS_C (x : V3) : valS.C x = valC (toV x) := rfl
theorem vals_C : ∀ l : List V3, l.flatMap valS.C = (l.map toV).flatMap valC
  | [] => rfl
  | x :: l => by rw [List.flatMap_cons, vals_C l]; rfl
theorem valS_sm {x : V3} (h : valS.B x ≤ 1048576) : (toV x).sm := by
  have : valS.B x = 1 + (1 + (x.2.2.length + 1)) + 1 := rfl
  show x.2.2.length ≤ 1048576
  omega
theorem valS_i64 {x : V3} (h : valS.V x) : (toV x).i64 := wf_i64 h.2.1
abbrev A6 := Int × List UInt8 × Sl V3 × V3 × V3 × Int
def actS : Shape A6 := upS (pairS (intS .i64) (pairS strS (pairS (sliceS valS) (pairS valS (pairS valS (intS .i64))))))
theorem opens_act : Opens Tryz.prog 67 10 actS :=
  opens_struct Tryz.underlying67 (by kernel_rfl) (opensFs_cons (off := 0) (k := 1) (m := 9) (opens_int Tryz.underlying3 (by kernel_rfl)) rfl (by kernel_rfl)
    (opensFs_cons (off := 1) (k := 1) (m := 8) (opens_str Tryz.underlying9 (by kernel_rfl)) rfl (by kernel_rfl)
    (opensFs_cons (off := 2) (k := 1) (m := 7) (opens_slice Tryz.underlying25 (by kernel_rfl) opens_val) rfl (by kernel_rfl)
    (opensFs_cons (off := 3) (k := 3) (m := 4) opens_val rfl (by kernel_rfl)
    (opensFs_cons (off := 6) (k := 3) (m := 1) opens_val rfl (by kernel_rfl) (opensFs_one (opens_int Tryz.underlying3 (by kernel_rfl)) rfl))))))
def toAt (x : A6) : At := ⟨x.1, x.2.1, x.2.2.1.1, x.2.2.1.2.1, x.2.2.1.2.2.map toV, toV x.2.2.2.1, toV x.2.2.2.2.1, x.2.2.2.2.2⟩
theorem actS_C (x : A6) : actS.C x = actC (toAt x) := by
  show [Value.int .i64 x.1] ++ ([Value.string (mkS x.2.1)] ++ ([Value.slice x.2.2.1.1 x.2.2.1.2.2.length x.2.2.1.2.1] ++ (valC (toV x.2.2.2.1) ++ (valC (toV x.2.2.2.2.1) ++ [Value.int .i64 x.2.2.2.2.2])))) = _
  simp [actC, toAt, valC]
theorem acts_C : ∀ l : List A6, l.flatMap actS.C = (l.map toAt).flatMap actC
  | [] => rfl
  | x :: l => by rw [List.flatMap_cons, acts_C l, actS_C]; rfl
theorem valS_B (x : V3) : 1 ≤ valS.B x := by
  have : valS.B x = 1 + (1 + (x.2.2.length + 1)) + 1 := rfl
  omega
theorem actS_ok {x : A6} (hV : actS.V x) (hB : actS.B x ≤ 1048576) : (toAt x).ok := by
  obtain ⟨k, t, ⟨a, c, l⟩, v, y, i⟩ := x
  have hB2 : 1 + ((t.length + 1) + ((sumB valS l + 1) + (valS.B v + (valS.B y + 1)))) + 1 ≤ 1048576 := hB
  obtain ⟨_, _, ⟨h1, h2, h3, h4⟩, h5, h6, _⟩ := hV
  have hl := le_sumB valS valS_B l
  refine ⟨by show t.length ≤ _; omega, by show (l.map toV).length ≤ _; rw [List.length_map]; omega, fun u hu => ?_, valS_sm (x := v) (by omega), valS_sm (x := y) (by omega), fun e => ?_, fun u hu => ?_, valS_i64 h5, valS_i64 h6⟩
  · obtain ⟨z, hz, rfl⟩ := List.mem_map.1 hu
    exact valS_sm (by have := mem_sumB valS l z hz; omega)
  · show l.map toV = []
    have h7 : l = [] := h1 e
    rw [h7]; rfl
  · obtain ⟨z, hz, rfl⟩ := List.mem_map.1 hu
    exact valS_i64 (h4 z hz)
theorem acts_ok {x : Sl A6} (hV : (sliceS actS).V x) (hB : (sliceS actS).B x ≤ 1048576) : (∀ t ∈ x.2.2.map toAt, t.ok) ∧ (x.2.2.map toAt).length ≤ 1048576 := by
  have hB2 : sumB actS x.2.2 + 1 ≤ 1048576 := hB
  have hl := le_sumB actS (fun y => by show 1 ≤ (pairS _ _).B y + 1; omega) x.2.2
  refine ⟨fun t ht => ?_, by rw [List.length_map]; omega⟩
  obtain ⟨z, hz, rfl⟩ := List.mem_map.1 ht
  exact actS_ok (hV.2.2.2 z hz) (by have := mem_sumB actS x.2.2 z hz; omega)
theorem acts_hold {x : Sl A6} {w : World} (h : (deep (sliceS actS) x).holds w) : (ro x.1 ((x.2.2.map toAt).flatMap actC)).holds w ∧ (gActs (x.2.2.map toAt)).holds w := by
  refine ⟨?_, fun c hc => ?_⟩
  · have h3 := view_flat.holds w h
    rwa [acts_C] at h3
  · obtain ⟨t, ht, rfl⟩ := List.mem_map.1 hc
    obtain ⟨z, hz, rfl⟩ := List.mem_map.1 ht
    have h4 : (deep actS z).holds w := (view_elem hz).holds w h
    have h5 : (deep (sliceS valS) z.2.2.1).holds w := h4.2.2.1
    have h6 := view_flat.holds w h5
    rw [vals_C] at h6
    exact h6
end Go.Proofs.YtpfhleghgkeemaaGreatDoor
