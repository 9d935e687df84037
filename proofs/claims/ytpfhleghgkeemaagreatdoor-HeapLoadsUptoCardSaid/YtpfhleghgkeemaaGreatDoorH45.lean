import Derived.Test.YtpfhleghgkeemaaGreatDoorH44
import Derived.Test.YtpfhleghgkeemaaGreatDoorH35
namespace Go.Proofs.YtpfhleghgkeemaaGreatDoor
open Go Go.Sx
set_option linter.unusedVariables false
set_option linter.unusedSimpArgs false
/-! Objects that come in. -/
abbrev Ob2 := List UInt8 × Sl V3
def obS : Shape Ob2 := upS (pairS strS (sliceS valS))
theorem opens_ob : Opens Tryz.prog 43 2 obS :=
  opens_struct Tryz.underlying43 (by kernel_rfl) (opensFs_cons (off := 0) (k := 1) (m := 1) (opens_str Tryz.underlying9 (by kernel_rfl)) rfl (by kernel_rfl) (opensFs_one (opens_slice Tryz.underlying25 (by kernel_rfl) opens_val) rfl))
theorem opens_obs : Opens Tryz.prog 37 1 (sliceS obS) := opens_slice Tryz.underlying37 (by kernel_rfl) opens_ob
def toOb (x : Ob2) : Ob := ⟨x.1, x.2.1, x.2.2.1, x.2.2.2.map toV⟩
theorem obS_C (x : Ob2) : obS.C x = objC (toOb x) := by
  show [Value.string (mkS x.1)] ++ [Value.slice x.2.1 x.2.2.2.length x.2.2.1] = _
  simp [objC, toOb]
theorem obs_C : ∀ l : List Ob2, l.flatMap obS.C = (l.map toOb).flatMap objC
  | [] => rfl
  | x :: l => by rw [List.flatMap_cons, obs_C l, obS_C]; rfl
theorem obs_hold {x : Sl Ob2} {w : World} (h : (deep (sliceS obS) x).holds w) : (ro x.1 ((x.2.2.map toOb).flatMap objC)).holds w ∧ (gBag (x.2.2.map toOb)).holds w := by
  refine ⟨?_, fun c hc => ?_⟩
  · have h3 := view_flat.holds w h
    rwa [obs_C] at h3
  · obtain ⟨t, ht, rfl⟩ := List.mem_map.1 hc
    obtain ⟨z, hz, rfl⟩ := List.mem_map.1 ht
    have h4 : (deep obS z).holds w := (view_elem hz).holds w h
    have h5 : (deep (sliceS valS) z.2).holds w := h4.2
    have h6 := view_flat.holds w h5
    rw [vals_C] at h6
    exact h6
theorem obS_B (x : Ob2) : obS.B x = x.1.length + 1 + (sumB valS x.2.2.2 + 1) + 1 := rfl
theorem obs_used (l : List Ob2) : usedO ((l.map toOb).map Ob.o) ≤ sumB obS l := by
  induction l with
  | nil => exact Nat.zero_le _
  | cons x r ih =>
    have h1 : usedO (((x :: r).map toOb).map Ob.o) = (x.2.2.2.map toV).length + 1 + usedO ((r.map toOb).map Ob.o) := rfl
    have h2 := le_sumB valS valS_B x.2.2.2
    rw [h1, List.length_map]
    simp only [sumB, obS_B]; omega
theorem obs_ok {x : Sl Ob2} (hV : (sliceS obS).V x) (hB : (sliceS obS).B x ≤ 1048576) : smO (x.2.2.map toOb) ∧ (∀ o ∈ x.2.2.map toOb, ∀ v ∈ o.cells, v.i64) ∧ (x.2.2.map toOb).length ≤ 1048576 ∧ usedO ((x.2.2.map toOb).map Ob.o) ≤ 1048576 := by
  have hB2 : sumB obS x.2.2 + 1 ≤ 1048576 := hB
  have hl := le_sumB obS (fun y => by rw [obS_B]; omega) x.2.2
  have hu := obs_used x.2.2
  refine ⟨fun o ho => ?_, fun o ho v hv => ?_, by rw [List.length_map]; omega, by omega⟩
  · obtain ⟨z, hz, rfl⟩ := List.mem_map.1 ho
    have h1 := mem_sumB obS x.2.2 z hz
    rw [obS_B] at h1
    have h2 := le_sumB valS valS_B z.2.2.2
    have h3 := hV.2.2.2 z hz
    have h4 : (z.2.2.2.map toV).length = z.2.2.2.length := List.length_map ..
    refine ⟨by show z.1.length ≤ _; omega, by show (z.2.2.2.map toV).length ≤ z.2.2.1; rw [h4]; exact h3.2.2.1, by show (z.2.2.2.map toV).length ≤ _; omega, fun u hu => ?_⟩
    obtain ⟨y, hy, rfl⟩ := List.mem_map.1 hu
    exact valS_sm (by have := mem_sumB valS z.2.2.2 y hy; omega)
  · obtain ⟨z, hz, rfl⟩ := List.mem_map.1 ho
    obtain ⟨y, hy, rfl⟩ := List.mem_map.1 hv
    exact valS_i64 ((hV.2.2.2 z hz).2.2.2.2 y hy)
theorem HeapLoads_in (x0 : Int) (x1 : Sl Ob2) (x2 : V3) (x3 : Int) (hV1 : (sliceS obS).V x1) (hB1 : (sliceS obS).B x1 ≤ 1048576) (hV2 : valS.V x2) (hB2 : valS.B x2 ≤ 1048576) :
    Does Tryz.prog 6 [.int .i64 x0, .slice x1.1 x1.2.2.length x1.2.1, .agg (valS.C x2).toArray, .int .i64 x3] [deep (intS .i64) x0, deep (sliceS obS) x1, deep valS x2, deep (intS .i64) x3, gWords, gPow] (fun v hp' => v = .bool true ∧ hp' = []) := by
  obtain ⟨h1, h2, h3, h4⟩ := obs_ok hV1 hB1
  have h := HeapLoads_spec x0 x1.1 x1.2.1 (x1.2.2.map toOb) (toV x2) x3 h3 h1 h2 (by omega) (valS_sm hB2) (valS_i64 hV2)
  rw [List.length_map] at h
  refine h.pre (fun w hw => ?_) (fun k hk => ?_)
  · have hd := hw.holds (deep (sliceS obS) x1) (by simp)
    obtain ⟨h5, h6⟩ := obs_hold hd
    refine Go.Sx.hs_ro (fun d hdm => ?_) (fun d hdm => ?_)
    · simp only [List.mem_cons, List.not_mem_nil, or_false] at hdm
      rcases hdm with rfl | rfl | rfl | rfl
      · exact h5
      · exact h6
      · exact hw.holds gWords (by simp)
      · exact hw.holds gPow (by simp)
    · simp only [List.mem_cons, List.not_mem_nil, or_false] at hdm
      rcases hdm with rfl | rfl | rfl | rfl <;> exact fun h => h
  · obtain ⟨d, hdm, hr, _⟩ := hk
    simp only [List.mem_cons, List.not_mem_nil, or_false] at hdm
    rcases hdm with rfl | rfl | rfl | rfl <;> exact hr.elim
end Go.Proofs.YtpfhleghgkeemaaGreatDoor
