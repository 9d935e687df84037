import Derived.Test.YtpfhleghgkeemaaGreatDoorH34
namespace Go.Proofs.YtpfhleghgkeemaaGreatDoor
open Go Go.Sx
set_option linter.unusedVariables false
set_option linter.unusedSimpArgs false
/-! A heap behind calls may be shown; what is shown of it (plain). -/
theorem rightB_mono {v : V} {m m' : Int} (h : m ≤ m') (hr : rightB v m = true) : rightB v m' = true := by
  unfold rightB at hr ⊢
  split at hr
  · rename_i h1; rw [if_pos h1]; exact hr
  · rename_i h1; rw [if_neg h1]
    split at hr
    · rename_i h2; rw [if_pos h2]; exact hr
    · rename_i h2; rw [if_neg h2]
      split at hr
      · rename_i h3; rw [if_pos h3]; exact hr
      · rename_i h3; rw [if_neg h3]
        split at hr
        · rename_i h4; rw [if_pos h4]; exact hr
        · rename_i h4; rw [if_neg h4]
          split at hr
          · rename_i h5; rw [if_pos h5]
            simp only [Bool.and_eq_true, decide_eq_true_eq] at hr ⊢
            exact ⟨hr.1, by omega⟩
          · cases hr
theorem cell_right {m : Int} {v : V} (h : cellB m v = true) : rightB v m = true := by
  unfold cellB at h; simp only [Bool.and_eq_true] at h; exact h.2
theorem showV_mono {m m' : Nat} {v : V} (h : m ≤ m') (hv : showV m v) : showV m' v := ⟨hv.1, hv.2.1, rightB_mono (by omega) hv.2.2⟩
theorem okHeap_nil : okHeap [] := fun o ho => by cases ho
theorem ok_alloc {most : Int} {L : List O} {tag : List UInt8} {cells : List V} (hL : okHeap L) (ht : tag.length ≤ 1048576) (hc : cells.length ≤ 1048576) (hs : smL cells) (hi : ∀ v ∈ cells, v.i64) : okHeap (allocR most L tag cells).1 := by
  unfold allocR
  split
  · rename_i h1
    split
    · intro o ho
      have hlen : (L ++ [(tag, cells)]).length = L.length + 1 := by simp
      rw [hlen]
      rcases List.mem_append.1 ho with ho | ho
      · obtain ⟨h2, h3, h4⟩ := hL o ho
        exact ⟨h2, h3, fun v hv => showV_mono (by omega) (h4 v hv)⟩
      · rw [List.mem_singleton.1 ho]
        refine ⟨ht, hc, fun v hv => ⟨hs v hv, hi v hv, rightB_mono (m := L.length) (by omega) (cell_right ?_)⟩⟩
        unfold objB at h1
        simp only [Bool.and_eq_true] at h1
        exact List.all_eq_true.1 h1.2 v hv
    · exact hL
  · exact hL
theorem ok_set {L : List O} {v x : V} {i : Int} (hL : okHeap L) (hx : x.sm) (hi : x.i64) : okHeap (setR L v i x).1 := by
  by_cases h0 : (setR L v i x).2 = 0
  · obtain ⟨h1, h2, h3, h4⟩ := setR_ok h0
    obtain ⟨_, _, h5, h6⟩ := refB_lt h1
    have hq : v.n.toNat < L.length := by omega
    have hob : objAt L v ∈ L := by
      have : objAt L v = L[v.n.toNat] := by
        show L.getD v.n.toNat ([], []) = _
        rw [List.getD_eq_getElem?_getD, List.getElem?_eq_getElem hq]; rfl
      rw [this]; exact List.getElem_mem hq
    rw [h4]
    intro o ho
    rw [List.length_set]
    rcases List.mem_or_eq_of_mem_set ho with ho | ho
    · exact hL o ho
    · subst ho
      obtain ⟨k1, k2, k3⟩ := hL _ hob
      refine ⟨k1, by show (List.set _ _ _).length ≤ _; rw [List.length_set]; exact k2, fun u hu => ?_⟩
      rcases List.mem_or_eq_of_mem_set hu with hu | hu
      · exact k3 u hu
      · subst hu; exact ⟨hx, hi, cell_right h2⟩
  · rw [setR_ne h0]; exact hL
theorem ok_done {L : List O} {t : At} (hL : okHeap L) (ht : t.ok) : okHeap (doneR L t) := by
  obtain ⟨ht1, ht2, ht3, ht4, ht5, ht6, ht7, ht8, ht9⟩ := ht
  unfold doneR; split
  · exact ok_set hL ht5 ht9
  · split
    · exact ok_alloc hL ht1 ht2 ht3 ht7
    · exact hL
theorem ok_fold (l : List At) : ∀ L : List O, okHeap L → (∀ t ∈ l, t.ok) → okHeap (l.foldl doneR L) := by
  induction l with
  | nil => intro L h _; exact h
  | cons t r ih => intro L h hs; exact ih _ (ok_done h (hs t (List.mem_cons_self ..))) (fun u hu => hs u (List.mem_cons_of_mem _ hu))
/-! what is shown -/
theorem cutT_len (s : List UInt8) : (cutT s).length ≤ 200 := by
  unfold cutT; split
  · have := List.length_take_le 197 s
    rw [List.length_append]; simp only [List.length_cons, List.length_nil]; omega
  · omega
theorem cutT_pos {s : List UInt8} (h : 0 < s.length) : 0 < (cutT s).length := by
  unfold cutT; split
  · rw [List.length_append]; simp only [List.length_cons, List.length_nil]; omega
  · exact h
theorem showT_len (L : List O) (v : V) : (showT L v).length ≤ 200 := by
  unfold showT; split
  · exact cutT_len _
  · exact Nat.zero_le _
theorem showT_nil (L : List O) (v : V) : showT L v = [] ↔ rightB v L.length = false := by
  unfold showT
  cases h : rightB v L.length with
  | false => simp
  | true =>
    simp only [if_true, Bool.true_eq_false, iff_false]
    intro e
    have := cutT_pos (txt_pos (L := L) (d := 2) (v := v))
    rw [e] at this; cases this
theorem show_num (L : List O) {n : Int} (hn : -9223372036854775808 ≤ n ∧ n ≤ 9223372036854775807) : showT L (numV n) = Lib.itoa n := by
  have hr : rightB (numV n) L.length = true := by simp [rightB, numV]
  unfold showT
  rw [hr, if_pos rfl]
  have ht : txt L 2 (numV n) = Lib.itoa n := by rw [txt_k]; simp [numV]
  rw [ht]
  have := itoa_len hn
  unfold cutT
  rw [if_neg (by omega)]
theorem show_two (L : List O) {n : Int} (hn : -9223372036854775808 ≤ n ∧ n ≤ 9223372036854775807) : showT (L ++ [([], [numV n, numV n])]) (atV L.length) = [91] ++ Lib.itoa n ++ [44, 32] ++ Lib.itoa n ++ [93] := by
  have hr : rightB (atV L.length) (L ++ [(([] : List UInt8), [numV n, numV n])]).length = true := by
    simp [rightB, atV]; omega
  unfold showT
  rw [hr, if_pos rfl]
  have hob : objAt (L ++ [(([] : List UInt8), [numV n, numV n])]) (atV L.length) = ([], [numV n, numV n]) := by
    show (L ++ [(([] : List UInt8), [numV n, numV n])]).getD ((L.length : Int).toNat) ([], []) = _
    rw [Int.toNat_natCast, List.getD_eq_getElem?_getD, List.getElem?_append_right (Nat.le_refl _), Nat.sub_self]; rfl
  have ht : txt (L ++ [(([] : List UInt8), [numV n, numV n])]) 2 (atV L.length) = [91] ++ Lib.itoa n ++ [44, 32] ++ Lib.itoa n ++ [93] := by
    rw [txt_k, if_neg (by simp [atV]), if_neg (by simp [atV]), if_neg (by simp [atV]), if_neg (by simp [atV])]
    show objT _ _ = _
    rw [hob]
    have htn : ∀ d, txt (L ++ [(([] : List UInt8), [numV n, numV n])]) d (numV n) = Lib.itoa n := fun d => by rw [txt_k]; simp [numV]
    unfold objT cellsT
    simp [sepP, List.range_succ, htn]
  rw [ht]
  have := itoa_len hn
  unfold cutT
  rw [if_neg (by simp only [List.length_append, List.length_cons, List.length_nil]; omega)]
theorem dec_ne45 (m : Nat) : (Lib.decDigits m).head? ≠ some 45 := by
  induction m using Nat.strongRecOn with
  | ind m ih =>
    rw [Lib.decDigits]
    split
    · rename_i h
      simp only [List.head?_cons, ne_eq, Option.some.injEq]
      intro e
      have e2 := congrArg UInt8.toNat e
      have h3 : (48 + m) % 256 = 45 := by simpa using e2
      omega
    · rename_i h
      have h2 := ih (m / 10) (by omega)
      cases hd : Lib.decDigits (m / 10) with
      | nil => exact absurd hd (by rw [Lib.decDigits]; split <;> simp)
      | cons x r => rw [hd] at h2; simpa using h2
theorem itoa_sign (n : Int) : (n < 0) ↔ (Lib.itoa n).take 1 = [45] := by
  unfold Lib.itoa
  split
  · rename_i h; simp [h]
  · rename_i h
    constructor
    · intro h2; exact absurd h2 h
    · intro h2
      have h3 := dec_ne45 n.toNat
      cases hd : Lib.decDigits n.toNat with
      | nil => rw [hd] at h2; cases h2
      | cons x r =>
        rw [hd] at h2 h3
        simp only [List.take_succ_cons, List.take_zero, List.cons.injEq, and_true] at h2
        subst h2
        exact absurd rfl h3
end Go.Proofs.YtpfhleghgkeemaaGreatDoor
