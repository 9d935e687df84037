import Derived.Test.YtgkcodkeikaeeaaD8
namespace Go.Proofs.Ytgkcodkeikaeeaa
open Go Go.Sx
theorem fold_unfold (F : Int) (h : 0 ≤ F) : foldN (unfoldN F) = F := by unfold unfoldN foldN; split <;> split <;> omega
theorem num_inv : ∀ (k i f : Nat) (s : List UInt8) (x u : Int), numGo k i f s = (x, u, 0) →
    ∃ g : Nat, x = unfoldN (f + g * 128 ^ i : Nat) ∧ u = ((i + (vb g).length : Nat) : Int) ∧ s.take (vb g).length = vb g ∧ (vb g).length ≤ s.length ∧ (0 < i → 0 < g)
  | 0, _, _, _, x, u, h => by simp [numGo] at h
  | _ + 1, _, _, [], x, u, h => by simp [numGo] at h
  | k + 1, i, f, c :: s, x, u, h => by
    unfold numGo at h
    split at h
    · simp at h
    · split at h
      · rename_i hc
        obtain ⟨g, h1, h2, h3, h4, h5⟩ := num_inv k (i + 1) _ s x u h
        have hg := h5 (by omega)
        have hcl := c.toNat_lt
        have hge : ¬ (c.toNat % 128 + 128 * g) < 128 := by omega
        have hv : vb (c.toNat % 128 + 128 * g) = c :: vb g := by
          rw [vb_ge hge, show (c.toNat % 128 + 128 * g) / 128 = g by omega, show (c.toNat % 128 + 128 * g) % 128 + 128 = c.toNat by omega, UInt8.ofNat_toNat]
        refine ⟨c.toNat % 128 + 128 * g, ?_, ?_, ?_, ?_, fun _ => by omega⟩
        · rw [h1]
          congr 2
          rw [Nat.pow_succ, Nat.mul_comm (128 ^ i), ← Nat.mul_assoc, Nat.mul_comm g, Nat.add_assoc, ← Nat.add_mul]
        · rw [h2, hv]; simp; omega
        · rw [hv, List.length_cons, List.take_succ_cons, h3]
        · rw [hv]; simp; omega
      · split at h
        · simp at h
        · rename_i hc h0
          have hc' : c.toNat < 128 := by omega
          simp only [Prod.mk.injEq, and_true] at h
          have hv : vb c.toNat = [c] := by rw [vb_lt hc', UInt8.ofNat_toNat]
          refine ⟨c.toNat, ?_, ?_, ?_, ?_, fun hi => ?_⟩
          · rw [← h.1, Nat.mod_eq_of_lt hc']
          · rw [← h.2, hv]; simp
          · rw [hv]; simp
          · rw [hv]; simp
          · rcases Nat.eq_zero_or_pos c.toNat with h' | h'
            · exact absurd ⟨UInt8.toNat_inj.1 h', hi⟩ h0
            · exact h'
theorem num_form (s : List UInt8) (x u : Int) (h : num s = (x, u, 0)) : u = (encI x).length ∧ s.take (encI x).length = encI x ∧ (encI x).length ≤ s.length := by
  obtain ⟨g, h1, h2, h3, h4, _⟩ := num_inv 10 0 0 s x u h
  have e : encI x = vb g := by
    unfold encI
    rw [h1, fold_unfold _ (Int.natCast_nonneg _)]
    simp
  rw [e]
  exact ⟨by rw [h2]; simp, h3, h4⟩
theorem cnt_num (s : List UInt8) (most n u : Int) (h : cnt s most = (n, u, 0)) : num s = (n, u, 0) ∧ 0 ≤ n ∧ n ≤ max 0 most := by
  unfold cnt at h
  split at h
  · rename_i h1; simp only [Prod.mk.injEq] at h; exact absurd h.2.2 h1
  · rename_i h1
    split at h
    · simp at h
    · split at h
      · simp at h
      · simp only [Prod.mk.injEq, and_true] at h
        refine ⟨?_, by omega, by omega⟩
        rw [← h.1, ← h.2]
        exact Prod.ext rfl (Prod.ext rfl (Classical.not_not.1 h1))
theorem txt_form (s t : List UInt8) (most u : Int) (h : txt s most = (t, u, 0)) : u = (encT t).length ∧ s.take (encT t).length = encT t ∧ (encT t).length ≤ s.length := by
  obtain ⟨n, v, e, hn⟩ : ∃ n v e, cnt s most = (n, v, e) := ⟨_, _, _, rfl⟩
  have hok := cnt_ok s most
  unfold txt at h
  rw [hn] at h hok
  dsimp only at h hok
  split at h
  · rename_i h1; simp only [Prod.mk.injEq] at h; exact absurd h.2.2 h1
  · rename_i h1
    have he : e = 0 := Classical.not_not.1 h1
    subst he
    obtain ⟨hx, h0, _⟩ := cnt_num s most n v hn
    obtain ⟨hv, ht, hle⟩ := num_form s n v hx
    split at h
    · simp at h
    · rename_i h2
      simp only [Prod.mk.injEq, and_true] at h
      obtain ⟨h3, h4⟩ := h
      have hvn : v.toNat = (encI n).length := by omega
      have htl : t.length = n.toNat := by rw [← h3, List.length_take, List.length_drop]; omega
      have hE : encT t = encI n ++ t := by unfold encT; rw [htl, Int.toNat_of_nonneg h0]
      have hEl : (encT t).length = (encI n).length + t.length := by rw [hE, List.length_append]
      refine ⟨by omega, ?_, by omega⟩
      rw [hEl, List.take_add, ht, hE, htl, ← hvn, h3]
theorem unfoldN_rng {F : Int} (h : 0 ≤ F) (h2 : F < 18446744073709551616) : -9223372036854775808 ≤ unfoldN F ∧ unfoldN F ≤ 9223372036854775807 := by unfold unfoldN; split <;> omega
theorem num_rng : ∀ (k i f : Nat) (s : List UInt8), f < 128 ^ i → i + k = 10 → -9223372036854775808 ≤ (numGo k i f s).1 ∧ (numGo k i f s).1 ≤ 9223372036854775807
  | 0, _, _, _, _, _ => by simp [numGo]
  | _ + 1, _, _, [], _, _ => by simp [numGo]
  | k + 1, i, f, c :: s, hf, hk => by
    unfold numGo
    split
    · simp
    · rename_i h9
      split
      · refine num_rng k (i + 1) _ s ?_ (by omega)
        have : c.toNat % 128 * 128 ^ i ≤ 127 * 128 ^ i := Nat.mul_le_mul_right _ (by omega)
        rw [Nat.pow_succ]; omega
      · split
        · simp
        · have h9x : i = 9 → c.toNat % 128 ≤ 1 := fun e => by
            have e1 : c = 1 := Classical.byContradiction fun hc1 => h9 ⟨e, hc1⟩
            rw [e1]; decide
          have hacc := acc_lt hf (by omega) (Nat.mod_lt c.toNat (show 0 < 128 by decide)) h9x
          exact unfoldN_rng (by omega) (by omega)
theorem num_i64 (s : List UInt8) : -9223372036854775808 ≤ (num s).1 ∧ (num s).1 ≤ 9223372036854775807 := num_rng 10 0 0 s (by decide) rfl
end Go.Proofs.Ytgkcodkeikaeeaa
