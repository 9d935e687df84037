import Derived.Test.YtgkcodkeikaeeaaD7
namespace Go.Proofs.Ytgkcodkeikaeeaa
open Go Go.Sx
theorem unfold_fold (n : Int) : unfoldN (foldN n) = n := by unfold unfoldN foldN; split <;> split <;> omega
theorem ofNat_toNat {n : Nat} (h : n < 256) : (UInt8.ofNat n).toNat = n := by rw [UInt8.toNat_ofNat']; omega
theorem num_vb : ∀ (k i f g : Nat) (more : List UInt8), i + k = 10 → 0 < k → (0 < i → 0 < g) → f + g * 128 ^ i < 18446744073709551616 →
    numGo k i f (vb g ++ more) = (unfoldN (f + g * 128 ^ i : Nat), ((i + (vb g).length : Nat) : Int), 0)
  | 0, _, _, _, _, _, h, _, _ => absurd h (by decide)
  | k + 1, i, f, g, more, hk, _, hg, hF => by
    have e9 : (128 : Nat) ^ 9 = 9223372036854775808 := by decide
    by_cases hs : g < 128
    · rw [vb_lt hs]
      have hc : (UInt8.ofNat g).toNat = g := ofNat_toNat (by omega)
      show numGo (k + 1) i f (UInt8.ofNat g :: more) = _
      unfold numGo
      rw [hc]
      have h9 : ¬ (i = 9 ∧ UInt8.ofNat g ≠ 1) := by
        rintro ⟨rfl, hne⟩
        rw [e9] at hF
        have : g = 1 := by have := hg (by decide); omega
        exact hne (by rw [this]; rfl)
      have h0 : ¬ (UInt8.ofNat g = 0 ∧ 0 < i) := by
        rintro ⟨h1, h2⟩
        have h3 := congrArg UInt8.toNat h1
        rw [hc] at h3
        have := hg h2
        have e0 : (0 : UInt8).toNat = 0 := rfl
        omega
      rw [if_neg h9, if_neg (by omega), if_neg h0, Nat.mod_eq_of_lt hs]
      simp
    · rw [vb_ge hs]
      have hc : (UInt8.ofNat (g % 128 + 128)).toNat = g % 128 + 128 := ofNat_toNat (by omega)
      have hi9 : i < 9 := by
        rcases Nat.lt_or_ge i 9 with h | h
        · exact h
        · have e : i = 9 := by omega
          subst e
          rw [e9] at hF
          omega
      show numGo (k + 1) i f (UInt8.ofNat (g % 128 + 128) :: (vb (g / 128) ++ more)) = _
      unfold numGo
      rw [hc]
      have e : f + (g % 128 + 128) % 128 * 128 ^ i + g / 128 * 128 ^ (i + 1) = f + g * 128 ^ i := by
        have h1 : (g % 128 + 128) % 128 = g % 128 := by omega
        have h2 : g / 128 * 128 ^ (i + 1) = (128 * (g / 128)) * 128 ^ i := by rw [Nat.pow_succ, Nat.mul_comm (128 ^ i), ← Nat.mul_assoc, Nat.mul_comm (g / 128)]
        rw [h1, h2, Nat.add_assoc, ← Nat.add_mul, Nat.mod_add_div]
      rw [if_neg (by omega), if_pos (by omega), num_vb k (i + 1) _ (g / 128) more (by omega) (by omega) (fun _ => by omega) (by rw [e]; exact hF), e]
      simp only [List.length_cons, Prod.mk.injEq, and_true, true_and]
      omega
theorem num_encI {n : Int} (h1 : -9223372036854775808 ≤ n) (h2 : n ≤ 9223372036854775807) (more : List UInt8) : num (encI n ++ more) = (n, ((encI n).length : Int), 0) := by
  have hF := foldN_lt h1 h2
  have hN := foldN_nn n
  have e : (((foldN n).toNat : Nat) : Int) = foldN n := Int.toNat_of_nonneg hN
  unfold num encI
  rw [num_vb 10 0 0 (foldN n).toNat more rfl (by decide) (fun h => absurd h (by decide)) (by simp; omega)]
  simp only [Nat.pow_zero, Nat.mul_one, Nat.zero_add, e, unfold_fold]
theorem cnt_encI {n most : Int} (h1 : 0 ≤ n) (h2 : n ≤ 9223372036854775807) (more : List UInt8) : cnt (encI n ++ more) most = if n > max 0 most then (0, 0, 5) else (n, ((encI n).length : Int), 0) := by
  unfold cnt
  rw [num_encI (by omega) h2]
  dsimp only
  rw [if_neg (by simp), if_neg (by omega)]
theorem txt_encT (t : List UInt8) (ht : (t.length : Int) ≤ 9223372036854775807) (most : Int) (hm : (t.length : Int) ≤ max 0 most) (more : List UInt8) : txt (encT t ++ more) most = (t, ((encT t).length : Int), 0) := by
  have hc := cnt_encI (most := most) (n := t.length) (by omega) ht (t ++ more)
  have e : encT t ++ more = encI t.length ++ (t ++ more) := by unfold encT; rw [List.append_assoc]
  rw [if_neg (by omega)] at hc
  unfold txt
  rw [e, hc]
  dsimp only
  rw [if_neg (by simp), if_neg (by simp only [List.length_append]; omega)]
  simp [encT]
theorem bol_encB (b : Bool) (more : List UInt8) : bol (encB b ++ more) = (b, 1, 0) := by cases b <;> rfl
end Go.Proofs.Ytgkcodkeikaeeaa
