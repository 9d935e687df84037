import Derived.Test.YtgkcodkeikaeeaaD12
namespace Go.Proofs.Ytgkcodkeikaeeaa
open Go Go.Sx
set_option linter.unusedVariables false
set_option linter.unusedSimpArgs false
/-- Digits that are cut off end too early. -/
theorem num_cut_vb : ∀ (k i f g m : Nat), i + k = 10 → 0 < k → (0 < i → 0 < g) → f + g * 128 ^ i < 18446744073709551616 → m < (vb g).length →
    numGo k i f ((vb g).take m) = (0, 0, 3)
  | 0, _, _, _, _, _, h, _, _, _ => absurd h (by decide)
  | k + 1, i, f, g, 0, _, _, _, _, _ => by rw [List.take_zero]; rfl
  | k + 1, i, f, g, m + 1, hk, _, hg, hF, hm => by
    have e9 : (128 : Nat) ^ 9 = 9223372036854775808 := by decide
    by_cases hs : g < 128
    · rw [vb_lt hs] at hm; simp at hm
    · rw [vb_ge hs] at hm ⊢
      have hc : (UInt8.ofNat (g % 128 + 128)).toNat = g % 128 + 128 := ofNat_toNat (by omega)
      have hi9 : i < 9 := by
        rcases Nat.lt_or_ge i 9 with h | h
        · exact h
        · have e : i = 9 := by omega
          subst e
          rw [e9] at hF
          omega
      rw [List.take_succ_cons]
      unfold numGo
      rw [hc]
      have e : f + (g % 128 + 128) % 128 * 128 ^ i + g / 128 * 128 ^ (i + 1) = f + g * 128 ^ i := by
        have h1 : (g % 128 + 128) % 128 = g % 128 := by omega
        have h2 : g / 128 * 128 ^ (i + 1) = (128 * (g / 128)) * 128 ^ i := by rw [Nat.pow_succ, Nat.mul_comm (128 ^ i), ← Nat.mul_assoc, Nat.mul_comm (g / 128)]
        rw [h1, h2, Nat.add_assoc, ← Nat.add_mul, Nat.mod_add_div]
      rw [if_neg (by omega), if_pos (by omega)]
      exact num_cut_vb k (i + 1) _ (g / 128) m (by omega) (by omega) (fun _ => by omega) (by rw [e]; exact hF) (by simpa using hm)
theorem num_cut {n : Int} (h1 : -9223372036854775808 ≤ n) (h2 : n ≤ 9223372036854775807) {m : Nat} (hm : m < (encI n).length) : num ((encI n).take m) = (0, 0, 3) := by
  have hF := foldN_lt h1 h2
  have hN := foldN_nn n
  exact num_cut_vb 10 0 0 (foldN n).toNat m rfl (by decide) (fun h => absurd h (by decide)) (by simp; omega) hm

/-- Numbers one behind the other. -/
def encAll (l : List Int) : List UInt8 := l.flatMap encI
def endAt (l : List Int) (i : Nat) : Nat := (encAll (l.take i)).length
theorem encAll_snoc {l : List Int} {i : Nat} (h : i < l.length) : encAll (l.take (i + 1)) = encAll (l.take i) ++ encI l[i] := by
  unfold encAll
  rw [← List.take_append_getElem h, List.flatMap_append]; simp
theorem endAt_succ {l : List Int} {i : Nat} (h : i < l.length) : endAt l (i + 1) = endAt l i + (encI l[i]).length := by
  unfold endAt; rw [encAll_snoc h, List.length_append]
theorem encAll_split (l : List Int) (i : Nat) : encAll l = encAll (l.take i) ++ encAll (l.drop i) := by
  unfold encAll; rw [← List.flatMap_append, List.take_append_drop]
theorem endAt_le (l : List Int) (i : Nat) : endAt l i ≤ (encAll l).length := by
  rw [encAll_split l i, List.length_append]; exact Nat.le_add_right _ _
theorem endAt_all (l : List Int) : endAt l l.length = (encAll l).length := by unfold endAt; rw [List.take_length]
theorem encAll_le {l : List Int} (h : ∀ z ∈ l, -9223372036854775808 ≤ z ∧ z ≤ 9223372036854775807) : (encAll l).length ≤ 10 * l.length := by
  induction l with
  | nil => simp [encAll]
  | cons x r ih =>
    have h1 := encI_len (h x (by simp)).1 (h x (by simp)).2
    have h2 := ih (fun z hz => h z (List.mem_cons_of_mem _ hz))
    have e : encAll (x :: r) = encI x ++ encAll r := by simp [encAll]
    rw [e, List.length_append, List.length_cons]; omega
theorem row_num {l : List Int} {i cut : Nat} (hw : ∀ z ∈ l, -9223372036854775808 ≤ z ∧ z ≤ 9223372036854775807) (hi : i < l.length) (hc : endAt l i ≤ cut) :
    num (((encAll l).take cut).drop (endAt l i)) = if endAt l (i + 1) ≤ cut then (l[i], ((encI l[i]).length : Int), 0) else (0, 0, 3) := by
  have hwi := hw l[i] (List.getElem_mem hi)
  have e1 : (encAll l).drop (endAt l i) = encI l[i] ++ encAll (l.drop (i + 1)) := by
    rw [encAll_split l i]
    unfold endAt
    rw [List.drop_left]
    unfold encAll
    rw [List.drop_eq_getElem_cons hi, List.flatMap_cons]
  rw [List.drop_take, e1, endAt_succ hi]
  split
  · rename_i h
    rw [List.take_append, List.take_of_length_le (by omega)]
    exact num_encI hwi.1 hwi.2 _
  · rename_i h
    rw [List.take_append_of_le_length (by omega)]
    exact num_cut hwi.1 hwi.2 (by omega)
end Go.Proofs.Ytgkcodkeikaeeaa
