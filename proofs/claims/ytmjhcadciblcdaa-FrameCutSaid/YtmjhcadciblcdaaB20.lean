import Derived.Test.YtmjhcadciblcdaaB19
namespace Go.Proofs.Ytmjhcadciblcdaa
open Go Go.Sx
set_option linter.unusedVariables false
set_option linter.unusedSimpArgs false

/-! Frames one behind the other, cut off anywhere: plain. -/
/-- Digits that are cut off end too early. -/
theorem num_cut_vb : ∀ (k i f g m : Nat), i + k = 10 → 0 < k → (0 < i → 0 < g) → f + g * 128 ^ i < 18446744073709551616 → m < (vb g).length →
    numGo k i f ((vb g).take m) = (0, 0, 3)
  | 0, _, _, _, _, _, h, _, _, _ => absurd h (by decide)
  | k + 1, i, f, g, 0, _, _, _, _, _ => by rw [List.take_zero]; rfl
  | k + 1, i, f, g, m + 1, hk, _, hg, hF, hm => by
    have e9 : (128 : Nat) ^ 9 = 9223372036854775808 := by decide
    by_cases hs : g < 128
    · rw [vb_lt hs] at hm; simp at hm
    · rw [vb_ge hs] at hm ⊢
      have hc : (UInt8.ofNat (g % 128 + 128)).toNat = g % 128 + 128 := ofNat_toNat (by omega)
      have hi9 : i < 9 := by
        rcases Nat.lt_or_ge i 9 with h | h
        · exact h
        · have e : i = 9 := by omega
          subst e
          rw [e9] at hF
          omega
      rw [List.take_succ_cons]
      unfold numGo
      rw [hc]
      have e : f + (g % 128 + 128) % 128 * 128 ^ i + g / 128 * 128 ^ (i + 1) = f + g * 128 ^ i := by
        have h1 : (g % 128 + 128) % 128 = g % 128 := by omega
        have h2 : g / 128 * 128 ^ (i + 1) = (128 * (g / 128)) * 128 ^ i := by rw [Nat.pow_succ, Nat.mul_comm (128 ^ i), ← Nat.mul_assoc, Nat.mul_comm (g / 128)]
        rw [h1, h2, Nat.add_assoc, ← Nat.add_mul, Nat.mod_add_div]
      rw [if_neg (by omega), if_pos (by omega)]
      exact num_cut_vb k (i + 1) _ (g / 128) m (by omega) (by omega) (fun _ => by omega) (by rw [e]; exact hF) (by simpa using hm)
theorem num_cut {n : Int} (h1 : -9223372036854775808 ≤ n) (h2 : n ≤ 9223372036854775807) {m : Nat} (hm : m < (encI n).length) : num ((encI n).take m) = (0, 0, 3) := by
  have hF := foldN_lt h1 h2
  have hN := foldN_nn n
  exact num_cut_vb 10 0 0 (foldN n).toNat m rfl (by decide) (fun h => absurd h (by decide)) (by simp; omega) hm
/-- A frame that is cut off is none. -/
theorem getL_cut (pre y : List UInt8) (m : Nat) (hy : y.length ≤ 1048576) (hm : m < (frameL y).length) : (getL (pre ++ (frameL y).take m) pre.length).2.2 ≠ 0 := by
  have hF := frameL_length y
  obtain ⟨E, hE⟩ : ∃ E, E = encI y.length := ⟨_, rfl⟩
  have hK : E.length ≤ 10 := by rw [hE]; exact encI_len (by omega) (by omega)
  rw [← hE] at hF
  have hd : (pre ++ (frameL y).take m).drop pre.length = (frameL y).take m := by rw [List.drop_left]
  have hml : ((frameL y).take m).length = m := by rw [List.length_take]; omega
  unfold getL
  rw [if_neg (by rw [List.length_append]; omega)]
  simp only [Int.toNat_natCast, hd, cnt_take]
  have hf : frameL y = E ++ (y ++ lowL (more 0 (E ++ y))) := by rw [frameL_eq, hE, List.append_assoc]
  by_cases hmE : m < E.length
  · have e1 : (frameL y).take m = E.take m := by rw [hf, List.take_append_of_le_length (by omega)]
    have e2 : cnt (E.take m) 1048576 = (0, 0, 3) := by
      have h := num_cut (n := (y.length : Int)) (by omega) (by omega) (m := m) (by rw [← hE]; exact hmE)
      rw [← hE] at h
      rw [cnt_eq 1048576 h]; rfl
    rw [e1, e2]
    simp
  · have e1 : (frameL y).take m = E ++ (y ++ lowL (more 0 (E ++ y))).take (m - E.length) := by
      rw [hf, List.take_append, List.take_of_length_le (by omega)]
    have e2 : cnt ((frameL y).take m) 1048576 = ((y.length : Int), (E.length : Int), 0) := by
      rw [e1, hE, cnt_encI (by omega) (by omega), if_neg (by omega)]
    rw [e2]
    dsimp only
    rw [if_neg (by simp), if_pos (by rw [List.length_append, hml]; omega)]
    decide
/-- Frames one behind the other. -/
def cat : List (List UInt8) → List UInt8
  | [] => []
  | y :: ys => frameL y ++ cat ys
theorem cat_snoc : ∀ (ys : List (List UInt8)) (y : List UInt8), cat (ys ++ [y]) = cat ys ++ frameL y
  | [], y => by simp [cat]
  | x :: ys, y => by simp [cat, cat_snoc ys y]
/-- How many stand whole within so many bytes. -/
def fit : List (List UInt8) → Nat → Nat
  | [], _ => 0
  | y :: ys, c => if (frameL y).length ≤ c then fit ys (c - (frameL y).length) + 1 else 0
theorem fit_le : ∀ (ys : List (List UInt8)) (c : Nat), fit ys c ≤ ys.length
  | [], c => Nat.le_refl _
  | y :: ys, c => by
    unfold fit
    have := fit_le ys (c - (frameL y).length)
    split
    · simp only [List.length_cons]; omega
    · exact Nat.zero_le _
theorem fit_in : ∀ (ys : List (List UInt8)) (c j : Nat), j < fit ys c → (cat (ys.take (j + 1))).length ≤ c
  | [], c, j, h => absurd h (Nat.not_lt_zero _)
  | y :: ys, c, j, h => by
    unfold fit at h
    split at h
    · rename_i hc
      rw [List.take_succ_cons]
      simp only [cat, List.length_append]
      cases j with
      | zero => simp [cat]; omega
      | succ j =>
        have := fit_in ys (c - (frameL y).length) j (by omega)
        omega
    · exact absurd h (Nat.not_lt_zero _)
theorem fit_out : ∀ (ys : List (List UInt8)) (c : Nat), fit ys c < ys.length → c < (cat (ys.take (fit ys c + 1))).length
  | [], c, h => absurd h (Nat.not_lt_zero _)
  | y :: ys, c, h => by
    unfold fit at h ⊢
    split
    · rename_i hc
      rw [if_pos hc] at h
      rw [List.take_succ_cons]
      simp only [cat, List.length_append]
      have := fit_out ys (c - (frameL y).length) (by simpa using h)
      omega
    · rw [Nat.zero_add, List.take_succ_cons, List.take_zero]
      simp only [cat, List.append_nil]
      omega
theorem allG_cut : ∀ (ys : List (List UInt8)) (pre : List UInt8) (fuel c : Nat), (∀ y ∈ ys, y.length ≤ 1048576) → fit ys c < fuel →
    allG fuel (pre ++ (cat ys).take c) pre.length = (ys.take (fit ys c), pre.length + (cat (ys.take (fit ys c))).length)
  | ys, pre, 0, c, _, h => absurd h (Nat.not_lt_zero _)
  | [], pre, fuel + 1, c, _, _ => by
    rw [allG_succ, if_neg (by simp [cat])]
    simp [fit, cat]
  | y :: ys, pre, fuel + 1, c, hy, hf => by
    have hyl := hy y (List.mem_cons_self ..)
    have hF := frameL_length y
    unfold fit at hf ⊢
    by_cases hc : (frameL y).length ≤ c
    · rw [if_pos hc] at hf
      have e1 : (cat (y :: ys)).take c = frameL y ++ (cat ys).take (c - (frameL y).length) := by
        show (frameL y ++ cat ys).take c = _
        rw [List.take_append, List.take_of_length_le hc]
      have hG := getL_back pre y ((cat ys).take (c - (frameL y).length)) hyl
      rw [if_pos hc, e1, ← List.append_assoc, allG_succ, hG]
      rw [if_pos ⟨by simp only [List.length_append]; omega, rfl⟩]
      simp only [Int.toNat_natCast]
      rw [allG_cut ys (pre ++ frameL y) fuel (c - (frameL y).length) (fun z hz => hy z (List.mem_cons_of_mem _ hz)) (by omega)]
      rw [List.take_succ_cons]
      simp only [cat, List.length_append, Prod.mk.injEq, true_and]
      omega
    · have e1 : (cat (y :: ys)).take c = (frameL y).take c := by
        show (frameL y ++ cat ys).take c = _
        rw [List.take_append_of_le_length (by omega)]
      have hG := getL_cut pre y c hyl (by omega)
      rw [if_neg hc, e1, allG_succ, if_neg (fun h => hG h.2)]
      simp [cat]
theorem fit_le_c : ∀ (ys : List (List UInt8)) (c : Nat), fit ys c ≤ c
  | [], c => Nat.zero_le _
  | y :: ys, c => by
    have hF := frameL_length y
    unfold fit
    have := fit_le_c ys (c - (frameL y).length)
    split <;> omega
theorem allL_cut (ys : List (List UInt8)) (c : Nat) (hy : ∀ y ∈ ys, y.length ≤ 1048576) (hc : c ≤ (cat ys).length) :
    allL ((cat ys).take c) = (ys.take (fit ys c), (cat (ys.take (fit ys c))).length) := by
  have hl : ((cat ys).take c).length = c := by rw [List.length_take]; omega
  have hf := fit_le_c ys c
  have h := allG_cut ys [] (((cat ys).take c).length + 1) c hy (by omega)
  rw [List.nil_append, List.length_nil, Nat.zero_add] at h
  exact h
end Go.Proofs.Ytmjhcadciblcdaa
