import Derived.Test.YtoagfnobfbfdfaaF1
namespace Go.Proofs.Ytoagfnobfbfdfaa
open Go Go.Sx
set_option linter.unusedVariables false
set_option linter.unusedSimpArgs false

/-- A floor that is right. -/
def Ok (H : Int) (l : List Int) : Prop := (H = 0 ∨ cl H = true) ∧ l.length ≤ 4 ∧ (∀ c ∈ l, cl c = true ∧ c ≠ H) ∧ l.Nodup
instance (H : Int) (l : List Int) : Decidable (Ok H l) := by unfold Ok; infer_instance

theorem nodup_take (l : List Int) : l.Nodup ↔ ∀ i (h : i < l.length), l[i] ∉ l.take i := by
  rw [List.nodup_iff_pairwise_ne, List.pairwise_iff_getElem]
  constructor
  · intro h i hi hm
    obtain ⟨j, hj, he⟩ := List.getElem_of_mem hm
    rw [List.length_take] at hj
    rw [List.getElem_take] at he
    exact h j i (by omega) hi (by omega) he
  · intro h i j hi hj hij he
    refine h j hj ?_
    rw [← he]
    exact List.mem_of_getElem? (i := i) (by rw [List.getElem?_take, if_pos hij, List.getElem?_eq_getElem hi])
theorem nodup_count (l : List Int) : l.Nodup ↔ ∀ i (h : i < l.length), l.count l[i] = 1 := by
  constructor
  · intro h i hi
    rw [h.count, if_pos (List.getElem_mem hi)]
  · intro h
    rw [List.nodup_iff_count]
    intro a
    by_cases ha : a ∈ l
    · obtain ⟨i, hi, rfl⟩ := List.getElem_of_mem ha
      rw [h i hi]; exact Nat.le_refl _
    · rw [List.count_eq_zero_of_not_mem ha]; omega
theorem ok_take (H : Int) (l : List Int) (h1 : H = 0 ∨ cl H = true) (h2 : l.length ≤ 4) (h : ∀ i (hi : i < l.length), cl l[i] = true ∧ l[i] ≠ H ∧ l[i] ∉ l.take i) : Ok H l :=
  ⟨h1, h2, fun c hc => by obtain ⟨i, hi, rfl⟩ := List.getElem_of_mem hc; exact ⟨(h i hi).1, (h i hi).2.1⟩, (nodup_take l).2 fun i hi => (h i hi).2.2⟩
theorem ok_count (H : Int) (l : List Int) (h1 : H = 0 ∨ cl H = true) (h2 : l.length ≤ 4) (h : ∀ i (hi : i < l.length), cl l[i] = true ∧ l[i] ≠ H ∧ l.count l[i] = 1) : Ok H l :=
  ⟨h1, h2, fun c hc => by obtain ⟨i, hi, rfl⟩ := List.getElem_of_mem hc; exact ⟨(h i hi).1, (h i hi).2.1⟩, (nodup_count l).2 fun i hi => (h i hi).2.2⟩

def chk (H : Int) (l : List Int) : Int := if Ok H l then 0 else 4
def bad (H : Int) (l : List Int) (c : Int) : Int := if Ok H l then (if cl c = true then 0 else 2) else 4
def req (H : Int) (l : List Int) (c : Int) : Int × Int × List Int :=
  if bad H l c ≠ 0 then (bad H l c, 0, []) else if H = c ∨ c ∈ l then (11, 0, []) else if l.length = 4 then (12, 0, []) else (0, H, l ++ [c])
def grant (H : Int) (l : List Int) (c : Int) : Int × Int × List Int :=
  if bad H l c ≠ 0 then (bad H l c, 0, []) else if c ∈ l then (0, c, l.erase c) else (10, 0, [])
def revoke (H : Int) (l : List Int) : Int × Int × List Int :=
  if bad H l 1 ≠ 0 then (bad H l 1, 0, []) else if H = 0 then (10, 0, []) else (0, 0, l)
def release (H : Int) (l : List Int) (c : Int) : Int × Int × List Int :=
  if bad H l c ≠ 0 then (bad H l c, 0, []) else if H ≠ c then (15, 0, []) else (0, 0, l)
def leave (H : Int) (l : List Int) (c : Int) : Int × Int × List Int :=
  if bad H l c ≠ 0 then (bad H l c, 0, []) else (0, (if H = c then 0 else H), l.erase c)

theorem bad_ok {H : Int} {l : List Int} {c : Int} (h : ¬ bad H l c ≠ 0) : Ok H l ∧ cl c = true := by
  unfold bad at h
  split at h
  · rename_i h1
    split at h
    · rename_i h2; exact ⟨h1, h2⟩
    · simp at h
  · simp at h
theorem filter0 {H : Int} {l : List Int} (h : Ok H l) : l.filter (· != 0) = l := by
  rw [List.filter_eq_self]
  intro c hc
  have h2 := (h.2.2.1 c hc).1
  have : c ≠ 0 := by rintro rfl; simp [cl] at h2
  simpa using this
theorem filterc {H : Int} {l : List Int} (h : Ok H l) (c : Int) : l.filter (· != c) = l.erase c := (List.Nodup.erase_eq_filter h.2.2.2 c).symm
end Go.Proofs.Ytoagfnobfbfdfaa
