import Derived.Test.YtmjhcadciblcdaaB14
namespace Go.Proofs.Ytmjhcadciblcdaa
open Go Go.Sx
set_option linter.unusedVariables false
set_option linter.unusedSimpArgs false

/-! What is got of what stands there: plain. -/
theorem frameL_eq (x : List UInt8) : frameL x = (encI x.length ++ x) ++ lowL (more 0 (encI x.length ++ x)) := by
  unfold frameL; rw [more_append]
theorem frameL_length (x : List UInt8) : (frameL x).length = (encI x.length).length + x.length + 4 := by
  simp only [frameL, List.length_append, lowL_len]
theorem getL_whole (l0 y s4 m : List UInt8) (hy : y.length ≤ 1048576) (h4 : s4.length = 4) :
    getL (l0 ++ (encI y.length ++ (y ++ (s4 ++ m)))) l0.length = if s4 = lowL (more 0 (encI y.length ++ y)) then (y, ((l0.length + (encI y.length).length + y.length + 4 : Nat) : Int), 0) else ([], 0, 4) := by
  obtain ⟨E, hE⟩ : ∃ E, E = encI y.length := ⟨_, rfl⟩
  have hK : E.length ≤ 10 := by rw [hE]; exact encI_len (by omega) (by omega)
  have hd : (l0 ++ (E ++ (y ++ (s4 ++ m)))).drop l0.length = E ++ (y ++ (s4 ++ m)) := by simp
  have ht : (E ++ (y ++ (s4 ++ m))).take 11 = E ++ (y ++ (s4 ++ m)).take (11 - E.length) := by
    rw [List.take_append, List.take_of_length_le (by omega)]
  have hc : cnt (E ++ (y ++ (s4 ++ m)).take (11 - E.length)) 1048576 = ((y.length : Int), (E.length : Int), 0) := by
    rw [hE, cnt_encI (by omega) (by omega), if_neg (by omega)]
  rw [← hE]
  unfold getL
  rw [if_neg (by simp only [List.length_append]; omega)]
  simp only [Int.toNat_natCast, hd, ht, hc]
  rw [if_neg (by simp), if_neg (by simp only [List.length_append]; omega)]
  have h1 : (l0 ++ (E ++ (y ++ (s4 ++ m)))).drop (l0.length + E.length + y.length) = s4 ++ m := by
    rw [show l0 ++ (E ++ (y ++ (s4 ++ m))) = (l0 ++ (E ++ y)) ++ (s4 ++ m) by simp, show l0.length + E.length + y.length = (l0 ++ (E ++ y)).length by simp [Nat.add_assoc], List.drop_left]
  have h2 : (s4 ++ m).take 4 = s4 := by rw [← h4, List.take_left]
  have h3 : (E ++ (y ++ (s4 ++ m))).take (E.length + y.length) = E ++ y := by
    rw [show E ++ (y ++ (s4 ++ m)) = (E ++ y) ++ (s4 ++ m) by simp, show E.length + y.length = (E ++ y).length by simp, List.take_left]
  have h5 : (l0 ++ (E ++ (y ++ (s4 ++ m)))).drop (l0.length + E.length) = y ++ (s4 ++ m) := by
    rw [show l0 ++ (E ++ (y ++ (s4 ++ m))) = (l0 ++ E) ++ (y ++ (s4 ++ m)) by simp, show l0.length + E.length = (l0 ++ E).length by simp, List.drop_left]
  rw [h1, h2, h3, h5, List.take_left]
  by_cases h : s4 = lowL (more 0 (E ++ y))
  · rw [if_neg (fun h' => h' h), if_pos h]
  · rw [if_pos h, if_neg h]
/-- What is put is got. -/
theorem getL_back (l0 x m : List UInt8) (hx : x.length ≤ 1048576) : getL (l0 ++ frameL x ++ m) l0.length = (x, ((l0 ++ frameL x).length : Int), 0) := by
  have h := getL_whole l0 x (lowL (more 0 (encI x.length ++ x))) m hx rfl
  rw [if_pos rfl] at h
  rw [show l0 ++ frameL x ++ m = l0 ++ (encI x.length ++ (x ++ (lowL (more 0 (encI x.length ++ x)) ++ m))) by rw [frameL_eq]; simp, h, List.length_append, frameL_length]
  simp only [Prod.mk.injEq, true_and, and_true]
  omega
/-- What has another sum is refused. -/
theorem getL_turned (x b : List UInt8) (hx : x.length ≤ 1048576) (hl : b.length = (frameL x).length) (ht : b.take (encI x.length).length = encI x.length) (hc : crc (~~~ (0 : BitVec 32)) b ≠ crc (~~~ (0 : BitVec 32)) (frameL x)) :
    getL b 0 = ([], 0, 4) := by
  rw [frameL_length] at hl
  obtain ⟨E, hE⟩ : ∃ E, E = encI x.length := ⟨_, rfl⟩
  rw [← hE] at hl ht
  have e1 : b = E ++ b.drop E.length := by
    have h := (List.take_append_drop E.length b).symm
    rw [ht] at h; exact h
  have e2 : b.drop E.length = (b.drop E.length).take x.length ++ ((b.drop E.length).drop x.length ++ []) := by rw [List.append_nil, List.take_append_drop]
  have hy : ((b.drop E.length).take x.length).length = x.length := by rw [List.length_take, List.length_drop]; omega
  have h4 : ((b.drop E.length).drop x.length).length = 4 := by rw [List.length_drop, List.length_drop]; omega
  have h := getL_whole [] ((b.drop E.length).take x.length) ((b.drop E.length).drop x.length) [] (by rw [hy]; exact hx) h4
  rw [hy, ← hE, ← e2, ← e1] at h
  have h0 : getL b 0 = getL ([] ++ b) (([] : List UInt8).length : Int) := rfl
  rw [List.nil_append] at h0
  rw [h0]
  rw [List.nil_append] at h
  rw [h, if_neg]
  intro hs
  apply hc
  have e3 : b = (E ++ (b.drop E.length).take x.length) ++ lowL (more 0 (E ++ (b.drop E.length).take x.length)) := by
    rw [← hs, List.append_assoc, List.take_append_drop, ← e1]
  rw [e3, crc_whole, frameL_eq, crc_whole]
/-- A number looks at ten bytes alone. -/
theorem numGo_take : ∀ (k i f : Nat) (s : List UInt8) (m : Nat), k ≤ m → numGo k i f (s.take m) = numGo k i f s
  | 0, i, f, s, m, _ => rfl
  | k + 1, i, f, [], m, _ => by rw [List.take_nil]
  | k + 1, i, f, c :: s, m, h => by
    obtain ⟨m, rfl⟩ : ∃ n, m = n + 1 := ⟨m - 1, by omega⟩
    rw [List.take_succ_cons]
    unfold numGo
    rw [numGo_take k _ _ s m (by omega)]
theorem cnt_take (s : List UInt8) (most : Int) : cnt (s.take 11) most = cnt s most := by
  have h : num (s.take 11) = num s := numGo_take 10 0 0 s 11 (by decide)
  unfold cnt
  rw [h]
/-- As the reference gets it. -/
def rgetL (l : List UInt8) (at_ : Int) : List UInt8 × Int × Int :=
  if at_ < 0 ∨ at_ > l.length then ([], 0, 2) else
  let q := cnt (l.drop at_.toNat) 1048576
  if q.2.2 ≠ 0 then ([], 0, q.2.2) else
  let n := q.1.toNat
  let f := at_.toNat + q.2.1.toNat
  if l.length < f + n + 4 then ([], 0, 3) else
  if (l.drop at_.toNat).take (q.2.1.toNat + n + 4) ≠ frameL ((l.drop f).take n) then ([], 0, 4) else
  ((l.drop f).take n, ((f + n + 4 : Nat) : Int), 0)
theorem rgetL_eq (l : List UInt8) (at_ : Int) : rgetL l at_ = getL l at_ := by
  unfold rgetL getL
  by_cases h1 : at_ < 0 ∨ at_ > l.length
  · rw [if_pos h1, if_pos h1]
  rw [if_neg h1, if_neg h1]
  obtain ⟨p, rfl⟩ : ∃ p : Nat, at_ = p := ⟨at_.toNat, by omega⟩
  simp only [Int.toNat_natCast]
  rw [cnt_take]
  obtain ⟨n, u, e, hq⟩ : ∃ n u e, cnt (l.drop p) 1048576 = (n, u, e) := ⟨_, _, _, rfl⟩
  rw [hq]
  dsimp only
  by_cases he : e ≠ 0
  · rw [if_pos he, if_pos he]
  rw [if_neg he, if_neg he]
  obtain rfl : e = 0 := Classical.not_not.1 he
  by_cases h2 : l.length < p + u.toNat + n.toNat + 4
  · rw [if_pos h2, if_pos h2]
  rw [if_neg h2, if_neg h2]
  obtain ⟨hn1, hn2, hn3⟩ := cnt_num _ _ _ _ hq
  obtain ⟨hu, ht, hl⟩ := num_form _ _ _ hn1
  obtain ⟨N, rfl⟩ : ∃ N : Nat, n = N := ⟨n.toNat, by omega⟩
  subst hu
  simp only [Int.toNat_natCast] at h2 ⊢
  obtain ⟨E, hE⟩ : ∃ E, E = encI (N : Int) := ⟨_, rfl⟩
  rw [← hE] at ht h2 ⊢
  have hx : ((l.drop (p + E.length)).take N).length = N := by rw [List.length_take, List.length_drop]; omega
  have e1 : (l.drop p).take (E.length + N) = E ++ (l.drop (p + E.length)).take N := by
    rw [List.take_add, ht, List.drop_drop]
  have e2 : (l.drop p).take (E.length + N + 4) = (E ++ (l.drop (p + E.length)).take N) ++ (l.drop (p + E.length + N)).take 4 := by
    rw [List.take_add, e1, List.drop_drop, ← Nat.add_assoc]
  rw [e2, e1, frameL_eq, hx, ← hE]
  by_cases h : (l.drop (p + E.length + N)).take 4 = lowL (more 0 (E ++ (l.drop (p + E.length)).take N))
  · rw [if_neg (fun h' => h' (by rw [h])), if_neg (fun h' => h' h)]
  · rw [if_pos (fun h' => h (List.append_cancel_left h')), if_pos h]
end Go.Proofs.Ytmjhcadciblcdaa
