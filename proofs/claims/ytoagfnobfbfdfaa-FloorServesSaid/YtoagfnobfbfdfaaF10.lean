import Derived.Test.YtoagfnobfbfdfaaF9
namespace Go.Proofs.Ytoagfnobfbfdfaa
open Go Go.Sx
set_option linter.unusedVariables false
set_option linter.unusedSimpArgs false

theorem ok_erase {H : Int} {l : List Int} {x : Int} (h : Ok H l) : Ok H (l.erase x) :=
  ⟨h.1, Nat.le_trans List.length_erase_le h.2.1, fun c hc => h.2.2.1 c (List.mem_of_mem_erase hc), h.2.2.2.erase x⟩
theorem ok_zero {H : Int} {l : List Int} (h : Ok H l) : Ok 0 l :=
  ⟨.inl rfl, h.2.1, fun c hc => ⟨(h.2.2.1 c hc).1, fun e => by have := (h.2.2.1 c hc).1; rw [e] at this; simp [cl] at this⟩, h.2.2.2⟩
theorem cl_ne {x : Int} (h : cl x = true) : x ≠ 0 := by rintro rfl; simp [cl] at h
/-- What a call that is answered tells. -/
theorem ask_ok {k H x : Int} {l : List Int} (h : (askF k H l x).1 = 0) : Ok H l ∧
    ((k = 1 ∧ x ∈ l ∧ cl x = true ∧ (askF k H l x).2 = (x, l.erase x)) ∨ (k = 2 ∧ H ≠ 0 ∧ (askF k H l x).2 = (0, l)) ∨ (k = 3 ∧ H = x ∧ cl x = true ∧ (askF k H l x).2 = (0, l)) ∨
     (k = 4 ∧ cl x = true ∧ (askF k H l x).2 = ((if H = x then 0 else H), l.erase x)) ∨ (k ≠ 1 ∧ k ≠ 2 ∧ k ≠ 3 ∧ k ≠ 4 ∧ H ≠ x ∧ x ∉ l ∧ l.length ≠ 4 ∧ cl x = true ∧ (askF k H l x).2 = (H, l ++ [x]))) := by
  unfold askF at h ⊢
  by_cases k1 : k = 1
  · rw [if_pos k1] at h ⊢
    unfold grant at h ⊢
    by_cases hb : bad H l x ≠ 0
    · rw [if_pos hb] at h; exact absurd h hb
    · rw [if_neg hb] at h ⊢
      by_cases hx : x ∈ l
      · rw [if_pos hx]; exact ⟨(bad_ok hb).1, .inl ⟨k1, hx, (bad_ok hb).2, rfl⟩⟩
      · rw [if_neg hx] at h; simp at h
  rw [if_neg k1] at h ⊢
  by_cases k2 : k = 2
  · rw [if_pos k2] at h ⊢
    unfold revoke at h ⊢
    by_cases hb : bad H l 1 ≠ 0
    · rw [if_pos hb] at h; exact absurd h hb
    · rw [if_neg hb] at h ⊢
      by_cases hx : H = 0
      · rw [if_pos hx] at h; simp at h
      · rw [if_neg hx]; exact ⟨(bad_ok hb).1, .inr (.inl ⟨k2, hx, rfl⟩)⟩
  rw [if_neg k2] at h ⊢
  by_cases k3 : k = 3
  · rw [if_pos k3] at h ⊢
    unfold release at h ⊢
    by_cases hb : bad H l x ≠ 0
    · rw [if_pos hb] at h; exact absurd h hb
    · rw [if_neg hb] at h ⊢
      by_cases hx : H ≠ x
      · rw [if_pos hx] at h; simp at h
      · rw [if_neg hx]; exact ⟨(bad_ok hb).1, .inr (.inr (.inl ⟨k3, Classical.not_not.1 hx, (bad_ok hb).2, rfl⟩))⟩
  rw [if_neg k3] at h ⊢
  by_cases k4 : k = 4
  · rw [if_pos k4] at h ⊢
    unfold leave at h ⊢
    by_cases hb : bad H l x ≠ 0
    · rw [if_pos hb] at h; exact absurd h hb
    · rw [if_neg hb] at h ⊢
      exact ⟨(bad_ok hb).1, .inr (.inr (.inr (.inl ⟨k4, (bad_ok hb).2, rfl⟩)))⟩
  rw [if_neg k4] at h ⊢
  unfold req at h ⊢
  by_cases hb : bad H l x ≠ 0
  · rw [if_pos hb] at h; exact absurd h hb
  rw [if_neg hb] at h ⊢
  by_cases h1 : H = x ∨ x ∈ l
  · rw [if_pos h1] at h; simp at h
  rw [if_neg h1] at h ⊢
  by_cases h4 : l.length = 4
  · rw [if_pos h4] at h; simp at h
  rw [if_neg h4]
  exact ⟨(bad_ok hb).1, .inr (.inr (.inr (.inr ⟨k1, k2, k3, k4, fun e => h1 (.inl e), fun e => h1 (.inr e), h4, (bad_ok hb).2, rfl⟩)))⟩

theorem ok_askN {k H x : Int} {l : List Int} (h : Ok H l) : Ok (askN k H l x).1 (askN k H l x).2 := by
  unfold askN
  by_cases he : (askF k H l x).1 ≠ 0
  · rw [if_pos he]; exact h
  · rw [if_neg he]
    rcases (ask_ok (Classical.not_not.1 he)).2 with ⟨_, hx, hc, e⟩ | ⟨_, _, e⟩ | ⟨_, _, _, e⟩ | ⟨_, _, e⟩ | ⟨_, _, _, _, hH, hx, h4, hc, e⟩ <;> rw [e]
    · refine ⟨.inr hc, (ok_erase h).2.1, fun c hc' => ⟨((ok_erase h).2.2.1 c hc').1, fun e => ?_⟩, (ok_erase h).2.2.2⟩
      rw [e] at hc'; exact (h.2.2.2.not_mem_erase) hc'
    · exact ok_zero h
    · exact ok_zero h
    · dsimp only; split
      · exact ok_zero (ok_erase h)
      · exact ok_erase h
    · refine ⟨h.1, by have := h.2.1; simp; omega, fun c hc' => ?_, ?_⟩
      · rcases List.mem_append.1 hc' with hc' | hc'
        · exact h.2.2.1 c hc'
        · rw [List.mem_singleton.1 hc']; exact ⟨hc, fun e => hH e.symm⟩
      · dsimp only
        rw [List.nodup_append]
        refine ⟨h.2.2.2, by simp, fun a ha b hb => ?_⟩
        rw [List.mem_singleton.1 hb]
        rintro rfl; exact hx ha
theorem ask_holder {k H x : Int} {l : List Int} (hd : (askN k H l x).1 ≠ H) : (askF k H l x).1 = 0 ∧ 1 ≤ k ∧ k ≤ 4 ∧ (k = 1 → (askN k H l x).1 = x) ∧ (k ≠ 1 → (askN k H l x).1 = 0) ∧ (3 ≤ k → H = x) := by
  unfold askN at hd ⊢
  by_cases he : (askF k H l x).1 ≠ 0
  · rw [if_pos he] at hd; exact absurd rfl hd
  · rw [if_neg he] at hd ⊢
    refine ⟨Classical.not_not.1 he, ?_⟩
    rcases (ask_ok (Classical.not_not.1 he)).2 with ⟨hk, hx, hc, e⟩ | ⟨hk, _, e⟩ | ⟨hk, hH, _, e⟩ | ⟨hk, _, e⟩ | ⟨_, _, _, _, hH, hx, h4, hc, e⟩ <;> rw [e] at hd ⊢ <;> dsimp only at hd ⊢
    · exact ⟨by omega, by omega, fun _ => rfl, fun h => absurd hk h, fun h => by omega⟩
    · exact ⟨by omega, by omega, fun h => by omega, fun _ => rfl, fun h => by omega⟩
    · exact ⟨by omega, by omega, fun h => by omega, fun _ => rfl, fun _ => hH⟩
    · split at hd
      · rename_i h9; rw [if_pos h9]; exact ⟨by omega, by omega, fun h => by omega, fun _ => rfl, fun _ => h9⟩
      · exact absurd rfl hd
    · exact absurd rfl hd
/-- Who wait then. -/
theorem ask_queue {k H x : Int} {l : List Int} (h : Ok H l) : (askN k H l x).2 = l ∨ ((askN k H l x).2 = l ++ [x]) ∨ (∃ (p : Nat) (hp : p < l.length), l[p] = x ∧ (askN k H l x).2 = l.eraseIdx p) := by
  have her : l.erase x = l ∨ ∃ (p : Nat) (hp : p < l.length), l[p] = x ∧ l.erase x = l.eraseIdx p := by
    by_cases hx : x ∈ l
    · have hlt := List.idxOf_lt_length_iff.2 hx
      exact .inr ⟨l.idxOf x, hlt, by simp, (List.erase_eq_eraseIdx_of_idxOf rfl)⟩
    · exact .inl (List.erase_of_not_mem hx)
  unfold askN
  by_cases he : (askF k H l x).1 ≠ 0
  · rw [if_pos he]; exact .inl rfl
  · rw [if_neg he]
    rcases (ask_ok (Classical.not_not.1 he)).2 with ⟨hk, hx, hc, e⟩ | ⟨hk, _, e⟩ | ⟨hk, hH, _, e⟩ | ⟨hk, _, e⟩ | ⟨_, _, _, _, hH, hx, h4, hc, e⟩ <;> rw [e] <;> dsimp only
    · rcases her with e | e
      · exact .inl e
      · exact .inr (.inr e)
    · exact .inl rfl
    · exact .inl rfl
    · rcases her with e | e
      · exact .inl e
      · exact .inr (.inr e)
    · exact .inr (.inl rfl)
end Go.Proofs.Ytoagfnobfbfdfaa
