import Derived.Test.YtgkcodkeikaeeaaD8
import Derived.Test.YtgkcodkeikaeeaaX12
namespace Go.Proofs.Ytgkcodkeikaeeaa
open Go Go.Sx
set_option linter.unusedVariables false
set_option linter.unusedSimpArgs false

set_option maxHeartbeats 4000000 in
theorem WireBounds_spec (n most : Int) (t : List UInt8) (h1 : -9223372036854775808 ≤ n) (h2 : n ≤ 9223372036854775807) (ht : t.length ≤ 140737488351232) :
    Does Try.prog 6 [.int .i64 n, .int .i64 most, .string (mkS t)] [] (fun v hp' => v = .bool true ∧ hp' = []) := by
  refine fn_enter Try.func6 rfl 107 rfl fun w0 h0 => ?_
  have hEn := encI_len h1 h2
  have hEt := encI_len (n := t.length) (by omega) (by omega)
  have hTl : (encT t).length = (encI t.length).length + t.length := by simp [encT]
  obtain ⟨x, A, e, hx⟩ : ∃ x A e, rd (0 : Int) 0 0 (cnt ((encI n).drop 0) most) = (x, A, e) := ⟨_, _, _, rfl⟩
  obtain ⟨y, B, e2, hy⟩ : ∃ y B e2, rd ([] : List UInt8) 0 0 (txt ((encT t).drop 0) most) = (y, B, e2) := ⟨_, _, _, rfl⟩
  have hA : n < 0 → x = 0 ∧ e = 4 := fun hn => by
    have h3 := num_encI h1 h2 []
    rw [List.append_nil] at h3
    rw [List.drop_zero] at hx
    unfold cnt at hx
    rw [h3] at hx
    dsimp only at hx
    rw [if_neg (by simp), if_pos hn] at hx
    cases hx
    exact ⟨rfl, rfl⟩
  have hc : 0 ≤ n → cnt ((encI n).drop 0) most = if n > max 0 most then (0, 0, 5) else (n, ((encI n).length : Int), 0) := fun hn => by
    have h3 := cnt_encI (most := most) hn h2 []
    rwa [List.append_nil] at h3
  have hB : 0 ≤ n → n ≤ most → x = n ∧ e = 0 := fun hn hm => by
    rw [hc hn, if_neg (by omega)] at hx
    cases hx
    exact ⟨rfl, rfl⟩
  have hC : 0 < n → most < n → x = 0 ∧ e = 5 := fun hn hm => by
    rw [hc (by omega), if_pos (by omega)] at hx
    cases hx
    exact ⟨rfl, rfl⟩
  have hT2 : ¬ ((t.length : Int) > 0 ∧ (t.length : Int) > most) → y = t ∧ B = (encT t).length ∧ e2 = 0 := fun hn => by
    have h3 := txt_encT t (by omega) most (by omega) []
    rw [List.append_nil] at h3
    rw [List.drop_zero, h3] at hy
    unfold rd at hy
    simp at hy
    exact ⟨hy.1.symm, hy.2.1.symm, hy.2.2.symm⟩
  have hT1 : (t.length : Int) > 0 → (t.length : Int) > most → y = [] ∧ e2 = 5 := fun hp hn => by
    have h3 := cnt_encI (most := most) (n := t.length) (by omega) (by omega) t
    rw [if_pos (by omega)] at h3
    rw [List.drop_zero] at hy
    unfold txt at hy
    rw [show encT t = encI t.length ++ t from rfl, h3] at hy
    dsimp only at hy
    rw [if_pos (by simp)] at hy
    cases hy
    exact ⟨rfl, rfl⟩
  refine wpc_seq ?_
  refine wpc_region [0] (by kernel_rfl) ?_
  refine wpr_run (l₂ := []) true [0] [] [(6, Value.bool false), (0, Value.int IntKind.i64 n), (1, Value.int IntKind.i64 most), (2, Value.string (mkS t))] [] [] (by kernel_rfl) (by kernel_rfl) trivial ?_
  refine wpr_nil ?_
  refine nx_then ?_
  refine wpc_seq ?_
  refine wpc_region [0, 1, 2, 3] (by kernel_rfl) ?_
  refine wpr_run (l₂ := [1, 2, 3]) true [0] [] [(11, Value.int IntKind.i64 n), (6, Value.bool false), (0, Value.int IntKind.i64 n), (1, Value.int IntKind.i64 most), (2, Value.string (mkS t))] [] [] (by kernel_rfl) (by kernel_rfl) trivial ?_
  refine wpr_ent (ent_nil 5 1) ?_
  refine wpr_call_all (dst := some 12) (by kernel_rfl) (PutInt_spec none 0 [] n h1 h2 (by decide)) give_all ?_
  rintro v hp' ⟨a1, c1, rfl, rfl⟩
  rw [List.nil_append]
  refine wpr_fact (fun w h => row_none h 0 rfl) fun hn1 => ?_
  refine wpr_call (dst := some 13) (rest := [row 5 1 a1 (encI n).length c1 (u8s (encI n))]) (by kernel_rfl) (NewReader_spec a1 c1 (encI n) (fun e => by simpa [u8s] using hn1 e)) (Give.view (c := (row 5 1 a1 (encI n).length c1 (u8s (encI n)))) (give (pre := []) (rest := [row 5 1 a1 (encI n).length c1 (u8s (encI n))]) [] (by kernel_rfl)) 0 (by kernel_rfl) view_row) ?_
  rintro v hp' ⟨r, rfl, rfl⟩
  refine wpr_run (l₂ := []) true [3] [] [(7, Value.pointer (some { block := r, off := 0 })), (6, Value.bool false), (0, Value.int IntKind.i64 n), (1, Value.int IntKind.i64 most), (2, Value.string (mkS t))] [Ch.blk r 52 [Value.bool true, Value.string (mkS (encI n)), Value.int IntKind.i64 0, Value.int IntKind.i64 0], row 5 1 a1 (encI n).length c1 (u8s (encI n))] [] (by kernel_rfl) (by kernel_rfl) trivial ?_
  refine wpr_nil ?_
  refine nx_then ?_
  refine wpc_seq ?_
  refine wpc_region [0, 1, 2, 3] (by kernel_rfl) ?_
  refine wpr_run (l₂ := [1, 2, 3]) true [0] [] [(14, Value.string (mkS t)), (7, Value.pointer (some { block := r, off := 0 })), (6, Value.bool false), (0, Value.int IntKind.i64 n), (1, Value.int IntKind.i64 most), (2, Value.string (mkS t))] [Ch.blk r 52 [Value.bool true, Value.string (mkS (encI n)), Value.int IntKind.i64 0, Value.int IntKind.i64 0], row 5 1 a1 (encI n).length c1 (u8s (encI n))] [] (by kernel_rfl) (by kernel_rfl) trivial ?_
  refine wpr_ent (ent_nil 5 1) ?_
  refine wpr_call (dst := some 15) (rest := [Ch.blk r 52 [Value.bool true, Value.string (mkS (encI n)), Value.int IntKind.i64 0, Value.int IntKind.i64 0], row 5 1 a1 (encI n).length c1 (u8s (encI n))]) (by kernel_rfl) (PutText_spec none 0 [] t (by decide) (by omega)) (give [0] (by kernel_rfl)) ?_
  rintro v hp' ⟨a2, c2, rfl, rfl⟩
  rw [List.nil_append]
  refine wpr_fact (fun w h => row_none h 0 rfl) fun hn2 => ?_
  refine wpr_call (dst := some 16) (rest := [row 5 1 a2 (encT t).length c2 (u8s (encT t)), Ch.blk r 52 [Value.bool true, Value.string (mkS (encI n)), Value.int IntKind.i64 0, Value.int IntKind.i64 0], row 5 1 a1 (encI n).length c1 (u8s (encI n))]) (by kernel_rfl) (NewReader_spec a2 c2 (encT t) (fun e => by simpa [u8s] using hn2 e)) (Give.view (c := (row 5 1 a2 (encT t).length c2 (u8s (encT t)))) (give (pre := []) (rest := [row 5 1 a2 (encT t).length c2 (u8s (encT t)), Ch.blk r 52 [Value.bool true, Value.string (mkS (encI n)), Value.int IntKind.i64 0, Value.int IntKind.i64 0], row 5 1 a1 (encI n).length c1 (u8s (encI n))]) [] (by kernel_rfl)) 0 (by kernel_rfl) view_row) ?_
  rintro v hp' ⟨q, rfl, rfl⟩
  refine wpr_run (l₂ := []) true [3] [] [(8, Value.pointer (some { block := q, off := 0 })), (7, Value.pointer (some { block := r, off := 0 })), (6, Value.bool false), (0, Value.int IntKind.i64 n), (1, Value.int IntKind.i64 most), (2, Value.string (mkS t))] [Ch.blk q 52 [Value.bool true, Value.string (mkS (encT t)), Value.int IntKind.i64 0, Value.int IntKind.i64 0], row 5 1 a2 (encT t).length c2 (u8s (encT t)), Ch.blk r 52 [Value.bool true, Value.string (mkS (encI n)), Value.int IntKind.i64 0, Value.int IntKind.i64 0], row 5 1 a1 (encI n).length c1 (u8s (encI n))] [] (by kernel_rfl) (by kernel_rfl) trivial ?_
  refine wpr_nil ?_
  refine nx_then ?_
  refine wpc_seq ?_
  refine wpc_seq ?_
  refine wpc_region [0, 1, 2, 3, 4, 5] (by kernel_rfl) ?_
  refine wpr_run (l₂ := []) true [0, 1, 2, 3, 4, 5] [] [(22, Value.bool false), (8, Value.pointer (some { block := q, off := 0 })), (7, Value.pointer (some { block := r, off := 0 })), (6, Value.bool false), (0, Value.int IntKind.i64 n), (1, Value.int IntKind.i64 most), (2, Value.string (mkS t))] [Ch.blk q 52 [Value.bool true, Value.string (mkS (encT t)), Value.int IntKind.i64 0, Value.int IntKind.i64 0], row 5 1 a2 (encT t).length c2 (u8s (encT t)), Ch.blk r 52 [Value.bool true, Value.string (mkS (encI n)), Value.int IntKind.i64 0, Value.int IntKind.i64 0], row 5 1 a1 (encI n).length c1 (u8s (encI n))] [] (by kernel_rfl) (by kernel_rfl) trivial ?_
  refine wpr_nil ?_
  refine nx_then ?_
  refine wpc_false (by kernel_rfl) ?_
  refine wpc_skip ?_
  refine nx_then ?_
  refine wpc_seq ?_
  refine wpc_region [0, 1, 2, 3, 4, 5, 6, 7] (by kernel_rfl) ?_
  refine wpr_run (l₂ := [2, 3, 4, 5, 6, 7]) true [0, 1] [] [(24, Value.int IntKind.i64 most), (23, Value.pointer (some { block := r, off := 0 })), (8, Value.pointer (some { block := q, off := 0 })), (7, Value.pointer (some { block := r, off := 0 })), (6, Value.bool false), (0, Value.int IntKind.i64 n), (1, Value.int IntKind.i64 most), (2, Value.string (mkS t))] [Ch.blk q 52 [Value.bool true, Value.string (mkS (encT t)), Value.int IntKind.i64 0, Value.int IntKind.i64 0], row 5 1 a2 (encT t).length c2 (u8s (encT t)), Ch.blk r 52 [Value.bool true, Value.string (mkS (encI n)), Value.int IntKind.i64 0, Value.int IntKind.i64 0], row 5 1 a1 (encI n).length c1 (u8s (encI n))] [] (by kernel_rfl) (by kernel_rfl) trivial ?_
  refine wpr_call (dst := some 25) (rest := [Ch.blk q 52 [Value.bool true, Value.string (mkS (encT t)), Value.int IntKind.i64 0, Value.int IntKind.i64 0], row 5 1 a2 (encT t).length c2 (u8s (encT t)), row 5 1 a1 (encI n).length c1 (u8s (encI n))]) (by kernel_rfl) (Count_spec r 0 (encI n) 0 most (by omega) (by omega)) (give [2] (by kernel_rfl)) ?_
  rintro v hp' ⟨rfl, rfl⟩
  rw [hx]
  refine wpr_run (l₂ := [5, 6, 7]) true [3, 4] [] [(27, Value.int IntKind.i64 most), (26, Value.pointer (some { block := q, off := 0 })), (25, Value.int IntKind.i64 x), (8, Value.pointer (some { block := q, off := 0 })), (7, Value.pointer (some { block := r, off := 0 })), (6, Value.bool false), (0, Value.int IntKind.i64 n), (1, Value.int IntKind.i64 most), (2, Value.string (mkS t))] [Ch.blk r 52 [Value.bool true, Value.string (mkS (encI n)), Value.int IntKind.i64 (↑A : Int), Value.int IntKind.i64 e], Ch.blk q 52 [Value.bool true, Value.string (mkS (encT t)), Value.int IntKind.i64 0, Value.int IntKind.i64 0], row 5 1 a2 (encT t).length c2 (u8s (encT t)), row 5 1 a1 (encI n).length c1 (u8s (encI n))] [] (by kernel_rfl) (by kernel_rfl) trivial ?_
  refine wpr_call (dst := some 28) (rest := [Ch.blk r 52 [Value.bool true, Value.string (mkS (encI n)), Value.int IntKind.i64 (↑A : Int), Value.int IntKind.i64 e], row 5 1 a2 (encT t).length c2 (u8s (encT t)), row 5 1 a1 (encI n).length c1 (u8s (encI n))]) (by kernel_rfl) (Text_spec q 0 (encT t) 0 most (by omega) (by omega)) (give [1] (by kernel_rfl)) ?_
  rintro v hp' ⟨rfl, rfl⟩
  rw [hy]
  refine wpr_run (l₂ := []) true [6, 7] [] [(10, Value.string (mkS y)), (9, Value.int IntKind.i64 x), (8, Value.pointer (some { block := q, off := 0 })), (7, Value.pointer (some { block := r, off := 0 })), (6, Value.bool false), (0, Value.int IntKind.i64 n), (1, Value.int IntKind.i64 most), (2, Value.string (mkS t))] [Ch.blk q 52 [Value.bool true, Value.string (mkS (encT t)), Value.int IntKind.i64 (↑B : Int), Value.int IntKind.i64 e2], Ch.blk r 52 [Value.bool true, Value.string (mkS (encI n)), Value.int IntKind.i64 (↑A : Int), Value.int IntKind.i64 e], row 5 1 a2 (encT t).length c2 (u8s (encT t)), row 5 1 a1 (encI n).length c1 (u8s (encI n))] [] (by kernel_rfl) (by kernel_rfl) trivial ?_
  refine wpr_nil ?_
  refine nx_then ?_
  refine wpc_seq ?_
  refine wpc_seq ?_
  refine wpc_region [0, 1, 2, 3, 4, 5, 6, 7, 8, 9, 10, 11, 12, 13, 14, 15, 16, 17, 18, 19, 20, 21, 22, 23, 24, 25, 26, 27, 28, 29, 30, 31, 32, 33, 34, 35, 36, 37, 38, 39, 40, 41, 42, 43, 44, 45, 46, 47] (by kernel_rfl) ?_
  refine wpr_run (l₂ := [3, 4, 5, 6, 7, 8, 9, 10, 11, 12, 13, 14, 15, 16, 17, 18, 19, 20, 21, 22, 23, 24, 25, 26, 27, 28, 29, 30, 31, 32, 33, 34, 35, 36, 37, 38, 39, 40, 41, 42, 43, 44, 45, 46, 47]) true [0, 1, 2] [] [(31, Value.bool (decide (n < 0))), (10, Value.string (mkS y)), (9, Value.int IntKind.i64 x), (8, Value.pointer (some { block := q, off := 0 })), (7, Value.pointer (some { block := r, off := 0 })), (6, Value.bool false), (0, Value.int IntKind.i64 n), (1, Value.int IntKind.i64 most), (2, Value.string (mkS t))] [Ch.blk q 52 [Value.bool true, Value.string (mkS (encT t)), Value.int IntKind.i64 (↑B : Int), Value.int IntKind.i64 e2], Ch.blk r 52 [Value.bool true, Value.string (mkS (encI n)), Value.int IntKind.i64 (↑A : Int), Value.int IntKind.i64 e], row 5 1 a2 (encT t).length c2 (u8s (encT t)), row 5 1 a1 (encI n).length c1 (u8s (encI n))] [] (by kernel_rfl) (by kernel_rfl) trivial ?_
  refine wpr_join ⟨[(76, Value.bool false), (6, (Value.bool false)), (7, (Value.pointer (some { block := r, off := 0 }))), (8, (Value.pointer (some { block := q, off := 0 }))), (10, (Value.string (mkS y))), (0, (Value.int IntKind.i64 n)), (1, (Value.int IntKind.i64 most)), (2, (Value.string (mkS t)))], [Ch.blk q 52 [Value.bool true, Value.string (mkS (encT t)), Value.int IntKind.i64 (↑B : Int), Value.int IntKind.i64 e2], Ch.blk r 52 [Value.bool true, Value.string (mkS (encI n)), Value.int IntKind.i64 (↑A : Int), Value.int IntKind.i64 e], row 5 1 a2 (encT t).length c2 (u8s (encT t)), row 5 1 a1 (encI n).length c1 (u8s (encI n))]⟩ (fun Q1 hQ1 hk => ?_) ?_
  · by_cases hn0 : n < 0
    · obtain ⟨rfl, rfl⟩ := hA hn0
      refine wpr_ent (ent_set 31 (Value.bool (decide (n < 0))) (Value.bool true) (by kernel_rfl) (congrArg _ (decide_eq_true hn0))) ?_
      refine wpr_run (l₂ := [7, 8, 9, 10, 11, 12, 13, 14, 15, 16, 17, 18, 19, 20, 21, 22, 23, 24, 25, 26, 27, 28, 29, 30, 31, 32, 33, 34, 35, 36, 37, 38, 39, 40, 41, 42, 43, 44, 45, 46, 47]) true [3, 4, 5, 6] [] [(35, Value.pointer (some { block := r, off := 0 })), (34, Value.bool false), (31, Value.bool true), (10, Value.string (mkS y)), (9, Value.int IntKind.i64 0), (8, Value.pointer (some { block := q, off := 0 })), (7, Value.pointer (some { block := r, off := 0 })), (6, Value.bool false), (0, Value.int IntKind.i64 n), (1, Value.int IntKind.i64 most), (2, Value.string (mkS t))] [Ch.blk q 52 [Value.bool true, Value.string (mkS (encT t)), Value.int IntKind.i64 (↑B : Int), Value.int IntKind.i64 e2], Ch.blk r 52 [Value.bool true, Value.string (mkS (encI n)), Value.int IntKind.i64 (↑A : Int), Value.int IntKind.i64 4], row 5 1 a2 (encT t).length c2 (u8s (encT t)), row 5 1 a1 (encI n).length c1 (u8s (encI n))] [] (by kernel_rfl) (by kernel_rfl) trivial ?_
      refine wpr_call (dst := some 36) (rest := [Ch.blk q 52 [Value.bool true, Value.string (mkS (encT t)), Value.int IntKind.i64 (↑B : Int), Value.int IntKind.i64 e2], row 5 1 a2 (encT t).length c2 (u8s (encT t)), row 5 1 a1 (encI n).length c1 (u8s (encI n))]) (by kernel_rfl) (Err_spec r (encI n) A 4) (give [1] (by kernel_rfl)) ?_
      rintro v hp' ⟨rfl, rfl⟩
      refine wpr_run (l₂ := [15, 16, 17, 18, 19, 20, 21, 22, 23, 24, 25, 26, 27, 28, 29, 30, 31, 32, 33, 34, 35, 36, 37, 38, 39, 40, 41, 42, 43, 44, 45, 46, 47]) true [8, 9, 10, 11, 12, 13, 14] [] [(43, Value.bool (decide (n ≥ 0))), (40, Value.bool false), (10, Value.string (mkS y)), (9, Value.int IntKind.i64 0), (8, Value.pointer (some { block := q, off := 0 })), (7, Value.pointer (some { block := r, off := 0 })), (6, Value.bool false), (0, Value.int IntKind.i64 n), (1, Value.int IntKind.i64 most), (2, Value.string (mkS t))] [Ch.blk r 52 [Value.bool true, Value.string (mkS (encI n)), Value.int IntKind.i64 (↑A : Int), Value.int IntKind.i64 4], Ch.blk q 52 [Value.bool true, Value.string (mkS (encT t)), Value.int IntKind.i64 (↑B : Int), Value.int IntKind.i64 e2], row 5 1 a2 (encT t).length c2 (u8s (encT t)), row 5 1 a1 (encI n).length c1 (u8s (encI n))] [] (by kernel_rfl) (by kernel_rfl) trivial ?_
      refine wpr_ent (ent_set 43 (Value.bool (decide (n ≥ 0))) (Value.bool false) (by kernel_rfl) (congrArg _ (decide_eq_false (by omega)))) ?_
      refine wpr_run (l₂ := [34, 35, 36, 37, 38, 39, 40, 41, 42, 43, 44, 45, 46, 47]) true [15, 16, 17, 18, 19, 20, 21, 22, 23, 24, 25, 26, 27, 28, 29, 30, 31, 32, 33] [] [(62, Value.bool (decide (n > 0))), (59, Value.bool false), (10, Value.string (mkS y)), (9, Value.int IntKind.i64 0), (8, Value.pointer (some { block := q, off := 0 })), (7, Value.pointer (some { block := r, off := 0 })), (6, Value.bool false), (0, Value.int IntKind.i64 n), (1, Value.int IntKind.i64 most), (2, Value.string (mkS t))] [Ch.blk r 52 [Value.bool true, Value.string (mkS (encI n)), Value.int IntKind.i64 (↑A : Int), Value.int IntKind.i64 4], Ch.blk q 52 [Value.bool true, Value.string (mkS (encT t)), Value.int IntKind.i64 (↑B : Int), Value.int IntKind.i64 e2], row 5 1 a2 (encT t).length c2 (u8s (encT t)), row 5 1 a1 (encI n).length c1 (u8s (encI n))] [] (by kernel_rfl) (by kernel_rfl) trivial ?_
      refine wpr_ent (ent_set 62 (Value.bool (decide (n > 0))) (Value.bool false) (by kernel_rfl) (congrArg _ (decide_eq_false (by omega)))) ?_
      refine wpr_run (l₂ := []) true [34, 35, 36, 37, 38, 39, 40, 41, 42, 43, 44, 45, 46, 47] [] [(76, Value.bool false), (10, Value.string (mkS y)), (8, Value.pointer (some { block := q, off := 0 })), (7, Value.pointer (some { block := r, off := 0 })), (6, Value.bool false), (0, Value.int IntKind.i64 n), (1, Value.int IntKind.i64 most), (2, Value.string (mkS t))] [Ch.blk r 52 [Value.bool true, Value.string (mkS (encI n)), Value.int IntKind.i64 (↑A : Int), Value.int IntKind.i64 4], Ch.blk q 52 [Value.bool true, Value.string (mkS (encT t)), Value.int IntKind.i64 (↑B : Int), Value.int IntKind.i64 e2], row 5 1 a2 (encT t).length c2 (u8s (encT t)), row 5 1 a1 (encI n).length c1 (u8s (encI n))] [] (by kernel_rfl) (by kernel_rfl) trivial ?_
      refine wpr_nil ?_
      exact nx_ent (ent_hp [1, 0, 0, 0] rfl) (nx_ent (ent_fr (by kernel_rfl)) hk)
    · refine wpr_ent (ent_set 31 (Value.bool (decide (n < 0))) (Value.bool false) (by kernel_rfl) (congrArg _ (decide_eq_false hn0))) ?_
      refine wpr_run (l₂ := [15, 16, 17, 18, 19, 20, 21, 22, 23, 24, 25, 26, 27, 28, 29, 30, 31, 32, 33, 34, 35, 36, 37, 38, 39, 40, 41, 42, 43, 44, 45, 46, 47]) true [3, 4, 5, 6, 7, 8, 9, 10, 11, 12, 13, 14] [] [(43, Value.bool (decide (n ≥ 0))), (40, Value.bool false), (10, Value.string (mkS y)), (9, Value.int IntKind.i64 x), (8, Value.pointer (some { block := q, off := 0 })), (7, Value.pointer (some { block := r, off := 0 })), (6, Value.bool false), (0, Value.int IntKind.i64 n), (1, Value.int IntKind.i64 most), (2, Value.string (mkS t))] [Ch.blk q 52 [Value.bool true, Value.string (mkS (encT t)), Value.int IntKind.i64 (↑B : Int), Value.int IntKind.i64 e2], Ch.blk r 52 [Value.bool true, Value.string (mkS (encI n)), Value.int IntKind.i64 (↑A : Int), Value.int IntKind.i64 e], row 5 1 a2 (encT t).length c2 (u8s (encT t)), row 5 1 a1 (encI n).length c1 (u8s (encI n))] [] (by kernel_rfl) (by kernel_rfl) trivial ?_
      refine wpr_ent (ent_set 43 (Value.bool (decide (n ≥ 0))) (Value.bool true) (by kernel_rfl) (congrArg _ (decide_eq_true (by omega)))) ?_
      refine wpr_run (l₂ := [20, 21, 22, 23, 24, 25, 26, 27, 28, 29, 30, 31, 32, 33, 34, 35, 36, 37, 38, 39, 40, 41, 42, 43, 44, 45, 46, 47]) true [15, 16, 17, 18, 19] [] [(48, Value.bool (decide (n ≤ most))), (40, Value.bool false), (10, Value.string (mkS y)), (9, Value.int IntKind.i64 x), (8, Value.pointer (some { block := q, off := 0 })), (7, Value.pointer (some { block := r, off := 0 })), (6, Value.bool false), (0, Value.int IntKind.i64 n), (1, Value.int IntKind.i64 most), (2, Value.string (mkS t))] [Ch.blk q 52 [Value.bool true, Value.string (mkS (encT t)), Value.int IntKind.i64 (↑B : Int), Value.int IntKind.i64 e2], Ch.blk r 52 [Value.bool true, Value.string (mkS (encI n)), Value.int IntKind.i64 (↑A : Int), Value.int IntKind.i64 e], row 5 1 a2 (encT t).length c2 (u8s (encT t)), row 5 1 a1 (encI n).length c1 (u8s (encI n))] [] (by kernel_rfl) (by kernel_rfl) trivial ?_
      by_cases hm : n ≤ most
      · obtain ⟨rfl, rfl⟩ := hB (by omega) hm
        refine wpr_ent (ent_set 48 (Value.bool (decide (x ≤ most))) (Value.bool true) (by kernel_rfl) (congrArg _ (decide_eq_true hm))) ?_
        refine wpr_run (l₂ := [24, 25, 26, 27, 28, 29, 30, 31, 32, 33, 34, 35, 36, 37, 38, 39, 40, 41, 42, 43, 44, 45, 46, 47]) true [20, 21, 22, 23] [] [(52, Value.bool (x != x)), (48, Value.bool true), (40, Value.bool false), (10, Value.string (mkS y)), (9, Value.int IntKind.i64 x), (8, Value.pointer (some { block := q, off := 0 })), (7, Value.pointer (some { block := r, off := 0 })), (6, Value.bool false), (0, Value.int IntKind.i64 x), (1, Value.int IntKind.i64 most), (2, Value.string (mkS t))] [Ch.blk q 52 [Value.bool true, Value.string (mkS (encT t)), Value.int IntKind.i64 (↑B : Int), Value.int IntKind.i64 e2], Ch.blk r 52 [Value.bool true, Value.string (mkS (encI x)), Value.int IntKind.i64 (↑A : Int), Value.int IntKind.i64 0], row 5 1 a2 (encT t).length c2 (u8s (encT t)), row 5 1 a1 (encI x).length c1 (u8s (encI x))] [] (by kernel_rfl) (by kernel_rfl) trivial ?_
        refine wpr_ent (ent_set 52 (Value.bool (x != x)) (Value.bool false) (by kernel_rfl) (congrArg _ (by simp))) ?_
        refine wpr_run (l₂ := [25, 26, 27, 28, 29, 30, 31, 32, 33, 34, 35, 36, 37, 38, 39, 40, 41, 42, 43, 44, 45, 46, 47]) true [24] [] [(53, Value.pointer (some { block := r, off := 0 })), (52, Value.bool false), (48, Value.bool true), (40, Value.bool false), (10, Value.string (mkS y)), (9, Value.int IntKind.i64 x), (8, Value.pointer (some { block := q, off := 0 })), (7, Value.pointer (some { block := r, off := 0 })), (6, Value.bool false), (0, Value.int IntKind.i64 x), (1, Value.int IntKind.i64 most), (2, Value.string (mkS t))] [Ch.blk q 52 [Value.bool true, Value.string (mkS (encT t)), Value.int IntKind.i64 (↑B : Int), Value.int IntKind.i64 e2], Ch.blk r 52 [Value.bool true, Value.string (mkS (encI x)), Value.int IntKind.i64 (↑A : Int), Value.int IntKind.i64 0], row 5 1 a2 (encT t).length c2 (u8s (encT t)), row 5 1 a1 (encI x).length c1 (u8s (encI x))] [] (by kernel_rfl) (by kernel_rfl) trivial ?_
        refine wpr_call (dst := some 54) (rest := [Ch.blk q 52 [Value.bool true, Value.string (mkS (encT t)), Value.int IntKind.i64 (↑B : Int), Value.int IntKind.i64 e2], row 5 1 a2 (encT t).length c2 (u8s (encT t)), row 5 1 a1 (encI x).length c1 (u8s (encI x))]) (by kernel_rfl) (Err_spec r (encI x) A 0) (give [1] (by kernel_rfl)) ?_
        rintro v hp' ⟨rfl, rfl⟩
        refine wpr_run (l₂ := [34, 35, 36, 37, 38, 39, 40, 41, 42, 43, 44, 45, 46, 47]) true [26, 27, 28, 29, 30, 31, 32, 33] [] [(62, Value.bool (decide (x > 0))), (59, Value.bool false), (10, Value.string (mkS y)), (9, Value.int IntKind.i64 x), (8, Value.pointer (some { block := q, off := 0 })), (7, Value.pointer (some { block := r, off := 0 })), (6, Value.bool false), (0, Value.int IntKind.i64 x), (1, Value.int IntKind.i64 most), (2, Value.string (mkS t))] [Ch.blk r 52 [Value.bool true, Value.string (mkS (encI x)), Value.int IntKind.i64 (↑A : Int), Value.int IntKind.i64 0], Ch.blk q 52 [Value.bool true, Value.string (mkS (encT t)), Value.int IntKind.i64 (↑B : Int), Value.int IntKind.i64 e2], row 5 1 a2 (encT t).length c2 (u8s (encT t)), row 5 1 a1 (encI x).length c1 (u8s (encI x))] [] (by kernel_rfl) (by kernel_rfl) trivial ?_
        refine wpr_casep 62 ((x > 0)) (by kernel_rfl) (fun h62 => ?_) (fun h62 => ?_)
        · refine wpr_run (l₂ := [39, 40, 41, 42, 43, 44, 45, 46, 47]) true [34, 35, 36, 37, 38] [] [(67, Value.bool (decide (x > most))), (59, Value.bool false), (10, Value.string (mkS y)), (9, Value.int IntKind.i64 x), (8, Value.pointer (some { block := q, off := 0 })), (7, Value.pointer (some { block := r, off := 0 })), (6, Value.bool false), (0, Value.int IntKind.i64 x), (1, Value.int IntKind.i64 most), (2, Value.string (mkS t))] [Ch.blk r 52 [Value.bool true, Value.string (mkS (encI x)), Value.int IntKind.i64 (↑A : Int), Value.int IntKind.i64 0], Ch.blk q 52 [Value.bool true, Value.string (mkS (encT t)), Value.int IntKind.i64 (↑B : Int), Value.int IntKind.i64 e2], row 5 1 a2 (encT t).length c2 (u8s (encT t)), row 5 1 a1 (encI x).length c1 (u8s (encI x))] [] (by kernel_rfl) (by kernel_rfl) trivial ?_
          refine wpr_ent (ent_set 67 (Value.bool (decide (x > most))) (Value.bool false) (by kernel_rfl) (congrArg _ (decide_eq_false (by omega)))) ?_
          refine wpr_run (l₂ := []) true [39, 40, 41, 42, 43, 44, 45, 46, 47] [] [(76, Value.bool false), (10, Value.string (mkS y)), (8, Value.pointer (some { block := q, off := 0 })), (7, Value.pointer (some { block := r, off := 0 })), (6, Value.bool false), (0, Value.int IntKind.i64 x), (1, Value.int IntKind.i64 most), (2, Value.string (mkS t))] [Ch.blk r 52 [Value.bool true, Value.string (mkS (encI x)), Value.int IntKind.i64 (↑A : Int), Value.int IntKind.i64 0], Ch.blk q 52 [Value.bool true, Value.string (mkS (encT t)), Value.int IntKind.i64 (↑B : Int), Value.int IntKind.i64 e2], row 5 1 a2 (encT t).length c2 (u8s (encT t)), row 5 1 a1 (encI x).length c1 (u8s (encI x))] [] (by kernel_rfl) (by kernel_rfl) trivial ?_
          refine wpr_nil ?_
          exact nx_ent (ent_hp [1, 0, 0, 0] rfl) (nx_ent (ent_fr (by kernel_rfl)) hk)
        · refine wpr_run (l₂ := []) true [34, 35, 36, 37, 38, 39, 40, 41, 42, 43, 44, 45, 46, 47] [] [(76, Value.bool false), (10, Value.string (mkS y)), (8, Value.pointer (some { block := q, off := 0 })), (7, Value.pointer (some { block := r, off := 0 })), (6, Value.bool false), (0, Value.int IntKind.i64 x), (1, Value.int IntKind.i64 most), (2, Value.string (mkS t))] [Ch.blk r 52 [Value.bool true, Value.string (mkS (encI x)), Value.int IntKind.i64 (↑A : Int), Value.int IntKind.i64 0], Ch.blk q 52 [Value.bool true, Value.string (mkS (encT t)), Value.int IntKind.i64 (↑B : Int), Value.int IntKind.i64 e2], row 5 1 a2 (encT t).length c2 (u8s (encT t)), row 5 1 a1 (encI x).length c1 (u8s (encI x))] [] (by kernel_rfl) (by kernel_rfl) trivial ?_
          refine wpr_nil ?_
          exact nx_ent (ent_hp [1, 0, 0, 0] rfl) (nx_ent (ent_fr (by kernel_rfl)) hk)
      · refine wpr_ent (ent_set 48 (Value.bool (decide (n ≤ most))) (Value.bool false) (by kernel_rfl) (congrArg _ (decide_eq_false hm))) ?_
        refine wpr_run (l₂ := [34, 35, 36, 37, 38, 39, 40, 41, 42, 43, 44, 45, 46, 47]) true [20, 21, 22, 23, 24, 25, 26, 27, 28, 29, 30, 31, 32, 33] [] [(62, Value.bool (decide (n > 0))), (59, Value.bool false), (10, Value.string (mkS y)), (9, Value.int IntKind.i64 x), (8, Value.pointer (some { block := q, off := 0 })), (7, Value.pointer (some { block := r, off := 0 })), (6, Value.bool false), (0, Value.int IntKind.i64 n), (1, Value.int IntKind.i64 most), (2, Value.string (mkS t))] [Ch.blk q 52 [Value.bool true, Value.string (mkS (encT t)), Value.int IntKind.i64 (↑B : Int), Value.int IntKind.i64 e2], Ch.blk r 52 [Value.bool true, Value.string (mkS (encI n)), Value.int IntKind.i64 (↑A : Int), Value.int IntKind.i64 e], row 5 1 a2 (encT t).length c2 (u8s (encT t)), row 5 1 a1 (encI n).length c1 (u8s (encI n))] [] (by kernel_rfl) (by kernel_rfl) trivial ?_
        by_cases hp0 : n > 0
        · obtain ⟨rfl, rfl⟩ := hC hp0 (by omega)
          refine wpr_ent (ent_set 62 (Value.bool (decide (n > 0))) (Value.bool true) (by kernel_rfl) (congrArg _ (decide_eq_true hp0))) ?_
          refine wpr_run (l₂ := [39, 40, 41, 42, 43, 44, 45, 46, 47]) true [34, 35, 36, 37, 38] [] [(67, Value.bool (decide (n > most))), (59, Value.bool false), (10, Value.string (mkS y)), (9, Value.int IntKind.i64 0), (8, Value.pointer (some { block := q, off := 0 })), (7, Value.pointer (some { block := r, off := 0 })), (6, Value.bool false), (0, Value.int IntKind.i64 n), (1, Value.int IntKind.i64 most), (2, Value.string (mkS t))] [Ch.blk q 52 [Value.bool true, Value.string (mkS (encT t)), Value.int IntKind.i64 (↑B : Int), Value.int IntKind.i64 e2], Ch.blk r 52 [Value.bool true, Value.string (mkS (encI n)), Value.int IntKind.i64 (↑A : Int), Value.int IntKind.i64 5], row 5 1 a2 (encT t).length c2 (u8s (encT t)), row 5 1 a1 (encI n).length c1 (u8s (encI n))] [] (by kernel_rfl) (by kernel_rfl) trivial ?_
          refine wpr_ent (ent_set 67 (Value.bool (decide (n > most))) (Value.bool true) (by kernel_rfl) (congrArg _ (decide_eq_true (by omega)))) ?_
          refine wpr_run (l₂ := [43, 44, 45, 46, 47]) true [39, 40, 41, 42] [] [(71, Value.pointer (some { block := r, off := 0 })), (70, Value.bool false), (67, Value.bool true), (59, Value.bool false), (10, Value.string (mkS y)), (8, Value.pointer (some { block := q, off := 0 })), (7, Value.pointer (some { block := r, off := 0 })), (6, Value.bool false), (0, Value.int IntKind.i64 n), (1, Value.int IntKind.i64 most), (2, Value.string (mkS t))] [Ch.blk q 52 [Value.bool true, Value.string (mkS (encT t)), Value.int IntKind.i64 (↑B : Int), Value.int IntKind.i64 e2], Ch.blk r 52 [Value.bool true, Value.string (mkS (encI n)), Value.int IntKind.i64 (↑A : Int), Value.int IntKind.i64 5], row 5 1 a2 (encT t).length c2 (u8s (encT t)), row 5 1 a1 (encI n).length c1 (u8s (encI n))] [] (by kernel_rfl) (by kernel_rfl) trivial ?_
          refine wpr_call (dst := some 72) (rest := [Ch.blk q 52 [Value.bool true, Value.string (mkS (encT t)), Value.int IntKind.i64 (↑B : Int), Value.int IntKind.i64 e2], row 5 1 a2 (encT t).length c2 (u8s (encT t)), row 5 1 a1 (encI n).length c1 (u8s (encI n))]) (by kernel_rfl) (Err_spec r (encI n) A 5) (give [1] (by kernel_rfl)) ?_
          rintro v hp' ⟨rfl, rfl⟩
          refine wpr_run (l₂ := []) true [44, 45, 46, 47] [] [(76, Value.bool false), (10, Value.string (mkS y)), (8, Value.pointer (some { block := q, off := 0 })), (7, Value.pointer (some { block := r, off := 0 })), (6, Value.bool false), (0, Value.int IntKind.i64 n), (1, Value.int IntKind.i64 most), (2, Value.string (mkS t))] [Ch.blk r 52 [Value.bool true, Value.string (mkS (encI n)), Value.int IntKind.i64 (↑A : Int), Value.int IntKind.i64 5], Ch.blk q 52 [Value.bool true, Value.string (mkS (encT t)), Value.int IntKind.i64 (↑B : Int), Value.int IntKind.i64 e2], row 5 1 a2 (encT t).length c2 (u8s (encT t)), row 5 1 a1 (encI n).length c1 (u8s (encI n))] [] (by kernel_rfl) (by kernel_rfl) trivial ?_
          refine wpr_nil ?_
          exact nx_ent (ent_hp [1, 0, 0, 0] rfl) (nx_ent (ent_fr (by kernel_rfl)) hk)
        · refine wpr_ent (ent_set 62 (Value.bool (decide (n > 0))) (Value.bool false) (by kernel_rfl) (congrArg _ (decide_eq_false hp0))) ?_
          refine wpr_run (l₂ := []) true [34, 35, 36, 37, 38, 39, 40, 41, 42, 43, 44, 45, 46, 47] [] [(76, Value.bool false), (10, Value.string (mkS y)), (8, Value.pointer (some { block := q, off := 0 })), (7, Value.pointer (some { block := r, off := 0 })), (6, Value.bool false), (0, Value.int IntKind.i64 n), (1, Value.int IntKind.i64 most), (2, Value.string (mkS t))] [Ch.blk q 52 [Value.bool true, Value.string (mkS (encT t)), Value.int IntKind.i64 (↑B : Int), Value.int IntKind.i64 e2], Ch.blk r 52 [Value.bool true, Value.string (mkS (encI n)), Value.int IntKind.i64 (↑A : Int), Value.int IntKind.i64 e], row 5 1 a2 (encT t).length c2 (u8s (encT t)), row 5 1 a1 (encI n).length c1 (u8s (encI n))] [] (by kernel_rfl) (by kernel_rfl) trivial ?_
          refine wpr_nil ?_
          exact nx_ent (ent_fr (by kernel_rfl)) hk
  refine nx_then ?_
  refine wpc_false (by kernel_rfl) ?_
  refine wpc_skip ?_
  refine nx_then ?_
  refine wpc_seq ?_
  refine wpc_seq ?_
  refine wpc_region [0, 1, 2, 3, 4, 5, 6, 7, 8] (by kernel_rfl) ?_
  refine wpr_run (l₂ := [4, 5, 6, 7, 8]) true [0, 1, 2, 3] [] [(80, Value.bool (decide ((↑t.length : Int) > 0))), (6, Value.bool false), (8, Value.pointer (some { block := q, off := 0 })), (10, Value.string (mkS y)), (1, Value.int IntKind.i64 most), (2, Value.string (mkS t))] [Ch.blk q 52 [Value.bool true, Value.string (mkS (encT t)), Value.int IntKind.i64 (↑B : Int), Value.int IntKind.i64 e2], Ch.blk r 52 [Value.bool true, Value.string (mkS (encI n)), Value.int IntKind.i64 (↑A : Int), Value.int IntKind.i64 e], row 5 1 a2 (encT t).length c2 (u8s (encT t)), row 5 1 a1 (encI n).length c1 (u8s (encI n))] [] (by kernel_rfl) (by kernel_rfl) trivial ?_
  by_cases hbig : (t.length : Int) > 0 ∧ (t.length : Int) > most
  · obtain ⟨rfl, rfl⟩ := hT1 hbig.1 hbig.2
    refine wpr_ent (ent_set 80 (Value.bool (decide ((↑t.length : Int) > 0))) (Value.bool true) (by kernel_rfl) (congrArg _ (decide_eq_true hbig.1))) ?_
    refine wpr_run (l₂ := []) true [4, 5, 6, 7, 8] [] [(85, Value.bool (decide ((↑t.length : Int) > most))), (6, Value.bool false), (8, Value.pointer (some { block := q, off := 0 })), (10, Value.string (mkS [])), (2, Value.string (mkS t))] [Ch.blk q 52 [Value.bool true, Value.string (mkS (encT t)), Value.int IntKind.i64 (↑B : Int), Value.int IntKind.i64 5], Ch.blk r 52 [Value.bool true, Value.string (mkS (encI n)), Value.int IntKind.i64 (↑A : Int), Value.int IntKind.i64 e], row 5 1 a2 (encT t).length c2 (u8s (encT t)), row 5 1 a1 (encI n).length c1 (u8s (encI n))] [] (by kernel_rfl) (by kernel_rfl) trivial ?_
    refine wpr_nil ?_
    refine nx_then ?_
    refine wpc_ent (ent_set 85 (Value.bool (decide ((↑t.length : Int) > most))) (Value.bool true) (by kernel_rfl) (congrArg _ (decide_eq_true hbig.2))) ?_
    refine wpc_true (by kernel_rfl) ?_
    refine wpc_seq ?_
    refine wpc_region [0, 1, 2, 3, 4, 5, 6, 7, 8, 9, 10] (by kernel_rfl) ?_
    refine wpr_run (l₂ := [4, 5, 6, 7, 8, 9, 10]) true [0, 1, 2, 3] [] [(89, Value.pointer (some { block := q, off := 0 })), (88, Value.bool true), (6, Value.bool false), (8, Value.pointer (some { block := q, off := 0 })), (10, Value.string (mkS [])), (2, Value.string (mkS t))] [Ch.blk q 52 [Value.bool true, Value.string (mkS (encT t)), Value.int IntKind.i64 (↑B : Int), Value.int IntKind.i64 5], Ch.blk r 52 [Value.bool true, Value.string (mkS (encI n)), Value.int IntKind.i64 (↑A : Int), Value.int IntKind.i64 e], row 5 1 a2 (encT t).length c2 (u8s (encT t)), row 5 1 a1 (encI n).length c1 (u8s (encI n))] [] (by kernel_rfl) (by kernel_rfl) trivial ?_
    refine wpr_call (dst := some 90) (rest := [Ch.blk r 52 [Value.bool true, Value.string (mkS (encI n)), Value.int IntKind.i64 (↑A : Int), Value.int IntKind.i64 e], row 5 1 a2 (encT t).length c2 (u8s (encT t)), row 5 1 a1 (encI n).length c1 (u8s (encI n))]) (by kernel_rfl) (Err_spec q (encT t) B 5) (give [0] (by kernel_rfl)) ?_
    rintro v hp' ⟨rfl, rfl⟩
    refine wpr_run (l₂ := [8, 9, 10]) true [5, 6, 7] [] [(93, Value.bool true), (6, Value.bool false), (8, Value.pointer (some { block := q, off := 0 })), (10, Value.string (mkS [])), (2, Value.string (mkS t))] [Ch.blk q 52 [Value.bool true, Value.string (mkS (encT t)), Value.int IntKind.i64 (↑B : Int), Value.int IntKind.i64 5], Ch.blk r 52 [Value.bool true, Value.string (mkS (encI n)), Value.int IntKind.i64 (↑A : Int), Value.int IntKind.i64 e], row 5 1 a2 (encT t).length c2 (u8s (encT t)), row 5 1 a1 (encI n).length c1 (u8s (encI n))] [] (by kernel_rfl) (by kernel_rfl) trivial ?_
    refine wpr_call (dst := some 94) (rest := [Ch.blk q 52 [Value.bool true, Value.string (mkS (encT t)), Value.int IntKind.i64 (↑B : Int), Value.int IntKind.i64 5], Ch.blk r 52 [Value.bool true, Value.string (mkS (encI n)), Value.int IntKind.i64 (↑A : Int), Value.int IntKind.i64 e], row 5 1 a2 (encT t).length c2 (u8s (encT t)), row 5 1 a1 (encI n).length c1 (u8s (encI n))]) (by kernel_rfl) (lives_spec) (give [] (by kernel_rfl)) ?_
    rintro v hp' ⟨rfl, rfl⟩
    refine wpr_run (l₂ := []) true [9, 10] [] [(6, Value.bool true), (8, Value.pointer (some { block := q, off := 0 })), (10, Value.string (mkS [])), (2, Value.string (mkS t))] [Ch.blk q 52 [Value.bool true, Value.string (mkS (encT t)), Value.int IntKind.i64 (↑B : Int), Value.int IntKind.i64 5], Ch.blk r 52 [Value.bool true, Value.string (mkS (encI n)), Value.int IntKind.i64 (↑A : Int), Value.int IntKind.i64 e], row 5 1 a2 (encT t).length c2 (u8s (encT t)), row 5 1 a1 (encI n).length c1 (u8s (encI n))] [] (by kernel_rfl) (by kernel_rfl) trivial ?_
    refine wpr_nil ?_
    refine nx_then ?_
    refine wpc_ret ?_
    refine nx_then_ret ?_
    refine nx_end (hp' := []) (rest := [Ch.blk q 52 [Value.bool true, Value.string (mkS (encT t)), Value.int IntKind.i64 (↑B : Int), Value.int IntKind.i64 5], Ch.blk r 52 [Value.bool true, Value.string (mkS (encI n)), Value.int IntKind.i64 (↑A : Int), Value.int IntKind.i64 e], row 5 1 a2 (encT t).length c2 (u8s (encT t)), row 5 1 a1 (encI n).length c1 (u8s (encI n))]) [] ((Value.bool true)) (by kernel_rfl) (by kernel_rfl) (give [] (by kernel_rfl)) (by first | ((repeat (first | exact trivial | refine ⟨trivial, ?_⟩)); done) | assumption) ?_ (.inr rfl)
    exact ⟨rfl, rfl⟩
  · by_cases hp : (t.length : Int) > 0
    · refine wpr_ent (ent_set 80 (Value.bool (decide ((↑t.length : Int) > 0))) (Value.bool true) (by kernel_rfl) (congrArg _ (decide_eq_true hp))) ?_
      refine wpr_run (l₂ := []) true [4, 5, 6, 7, 8] [] [(85, Value.bool (decide ((↑t.length : Int) > most))), (6, Value.bool false), (8, Value.pointer (some { block := q, off := 0 })), (10, Value.string (mkS y)), (2, Value.string (mkS t))] [Ch.blk q 52 [Value.bool true, Value.string (mkS (encT t)), Value.int IntKind.i64 (↑B : Int), Value.int IntKind.i64 e2], Ch.blk r 52 [Value.bool true, Value.string (mkS (encI n)), Value.int IntKind.i64 (↑A : Int), Value.int IntKind.i64 e], row 5 1 a2 (encT t).length c2 (u8s (encT t)), row 5 1 a1 (encI n).length c1 (u8s (encI n))] [] (by kernel_rfl) (by kernel_rfl) trivial ?_
      refine wpr_nil ?_
      refine nx_then ?_
      refine wpc_ent (ent_set 85 (Value.bool (decide ((↑t.length : Int) > most))) (Value.bool false) (by kernel_rfl) (congrArg _ (decide_eq_false (fun h => hbig ⟨hp, h⟩)))) ?_
      obtain ⟨rfl, rfl, rfl⟩ := hT2 hbig
      refine wpc_false (by kernel_rfl) ?_
      refine wpc_skip ?_
      refine nx_then ?_
      refine wpc_seq ?_
      refine wpc_region [0, 1, 2, 3, 4, 5, 6, 7, 8, 9, 10, 11] (by kernel_rfl) ?_
      refine wpr_run (l₂ := [4, 5, 6, 7, 8, 9, 10, 11]) true [0, 1, 2, 3] [] [(99, Value.bool (decide (y = y))), (6, Value.bool false), (8, Value.pointer (some { block := q, off := 0 }))] [Ch.blk q 52 [Value.bool true, Value.string (mkS (encT y)), Value.int IntKind.i64 (↑(encT y).length : Int), Value.int IntKind.i64 0], Ch.blk r 52 [Value.bool true, Value.string (mkS (encI n)), Value.int IntKind.i64 (↑A : Int), Value.int IntKind.i64 e], row 5 1 a2 (encT y).length c2 (u8s (encT y)), row 5 1 a1 (encI n).length c1 (u8s (encI n))] [] (by kernel_rfl) (by kernel_rfl) trivial ?_
      refine wpr_ent (ent_set 99 (Value.bool (decide (y = y))) (Value.bool true) (by kernel_rfl) (congrArg _ (by simp))) ?_
      refine wpr_run (l₂ := [5, 6, 7, 8, 9, 10, 11]) true [4] [] [(100, Value.pointer (some { block := q, off := 0 })), (99, Value.bool true), (6, Value.bool false)] [Ch.blk q 52 [Value.bool true, Value.string (mkS (encT y)), Value.int IntKind.i64 (↑(encT y).length : Int), Value.int IntKind.i64 0], Ch.blk r 52 [Value.bool true, Value.string (mkS (encI n)), Value.int IntKind.i64 (↑A : Int), Value.int IntKind.i64 e], row 5 1 a2 (encT y).length c2 (u8s (encT y)), row 5 1 a1 (encI n).length c1 (u8s (encI n))] [] (by kernel_rfl) (by kernel_rfl) trivial ?_
      refine wpr_call (dst := some 101) (rest := [Ch.blk r 52 [Value.bool true, Value.string (mkS (encI n)), Value.int IntKind.i64 (↑A : Int), Value.int IntKind.i64 e], row 5 1 a2 (encT y).length c2 (u8s (encT y)), row 5 1 a1 (encI n).length c1 (u8s (encI n))]) (by kernel_rfl) (End_spec q (encT y) (encT y).length 0) (give [0] (by kernel_rfl)) ?_
      rintro v hp' ⟨rfl, rfl⟩
      refine wpr_run (l₂ := [9, 10, 11]) true [6, 7, 8] [] [(104, Value.bool (endE (encT y) (↑(encT y).length : Int) 0 == 0)), (6, Value.bool false)] [Ch.blk q 52 [Value.bool true, Value.string (mkS (encT y)), Value.int IntKind.i64 (↑(encT y).length : Int), Value.int IntKind.i64 0], Ch.blk r 52 [Value.bool true, Value.string (mkS (encI n)), Value.int IntKind.i64 (↑A : Int), Value.int IntKind.i64 e], row 5 1 a2 (encT y).length c2 (u8s (encT y)), row 5 1 a1 (encI n).length c1 (u8s (encI n))] [] (by kernel_rfl) (by kernel_rfl) trivial ?_
      refine wpr_ent (ent_set 104 (Value.bool (endE (encT y) (↑(encT y).length : Int) 0 == 0)) (Value.bool true) (by kernel_rfl) (congrArg _ (by unfold endE; simp))) ?_
      refine wpr_call (dst := some 105) (rest := [Ch.blk q 52 [Value.bool true, Value.string (mkS (encT y)), Value.int IntKind.i64 (↑(encT y).length : Int), Value.int IntKind.i64 0], Ch.blk r 52 [Value.bool true, Value.string (mkS (encI n)), Value.int IntKind.i64 (↑A : Int), Value.int IntKind.i64 e], row 5 1 a2 (encT y).length c2 (u8s (encT y)), row 5 1 a1 (encI n).length c1 (u8s (encI n))]) (by kernel_rfl) (lives_spec) (give [] (by kernel_rfl)) ?_
      rintro v hp' ⟨rfl, rfl⟩
      refine wpr_run (l₂ := []) true [10, 11] [] [(6, Value.bool true)] [Ch.blk q 52 [Value.bool true, Value.string (mkS (encT y)), Value.int IntKind.i64 (↑(encT y).length : Int), Value.int IntKind.i64 0], Ch.blk r 52 [Value.bool true, Value.string (mkS (encI n)), Value.int IntKind.i64 (↑A : Int), Value.int IntKind.i64 e], row 5 1 a2 (encT y).length c2 (u8s (encT y)), row 5 1 a1 (encI n).length c1 (u8s (encI n))] [] (by kernel_rfl) (by kernel_rfl) trivial ?_
      refine wpr_nil ?_
      refine nx_then ?_
      refine wpc_ret ?_
      refine nx_end (hp' := []) (rest := [Ch.blk q 52 [Value.bool true, Value.string (mkS (encT y)), Value.int IntKind.i64 (↑(encT y).length : Int), Value.int IntKind.i64 0], Ch.blk r 52 [Value.bool true, Value.string (mkS (encI n)), Value.int IntKind.i64 (↑A : Int), Value.int IntKind.i64 e], row 5 1 a2 (encT y).length c2 (u8s (encT y)), row 5 1 a1 (encI n).length c1 (u8s (encI n))]) [] ((Value.bool true)) (by kernel_rfl) (by kernel_rfl) (give [] (by kernel_rfl)) (by first | ((repeat (first | exact trivial | refine ⟨trivial, ?_⟩)); done) | assumption) ?_ (.inr rfl)
      exact ⟨rfl, rfl⟩
    · refine wpr_ent (ent_set 80 (Value.bool (decide ((↑t.length : Int) > 0))) (Value.bool false) (by kernel_rfl) (congrArg _ (decide_eq_false hp))) ?_
      obtain ⟨rfl, rfl, rfl⟩ := hT2 hbig
      refine wpr_run (l₂ := []) true [4, 5, 6, 7, 8] [] [(85, Value.bool false), (6, Value.bool false), (8, Value.pointer (some { block := q, off := 0 })), (10, Value.string (mkS y)), (2, Value.string (mkS y))] [Ch.blk q 52 [Value.bool true, Value.string (mkS (encT y)), Value.int IntKind.i64 (↑(encT y).length : Int), Value.int IntKind.i64 0], Ch.blk r 52 [Value.bool true, Value.string (mkS (encI n)), Value.int IntKind.i64 (↑A : Int), Value.int IntKind.i64 e], row 5 1 a2 (encT y).length c2 (u8s (encT y)), row 5 1 a1 (encI n).length c1 (u8s (encI n))] [] (by kernel_rfl) (by kernel_rfl) trivial ?_
      refine wpr_nil ?_
      refine nx_then ?_
      refine wpc_false (by kernel_rfl) ?_
      refine wpc_skip ?_
      refine nx_then ?_
      refine wpc_seq ?_
      refine wpc_region [0, 1, 2, 3, 4, 5, 6, 7, 8, 9, 10, 11] (by kernel_rfl) ?_
      refine wpr_run (l₂ := [4, 5, 6, 7, 8, 9, 10, 11]) true [0, 1, 2, 3] [] [(99, Value.bool (decide (y = y))), (6, Value.bool false), (8, Value.pointer (some { block := q, off := 0 }))] [Ch.blk q 52 [Value.bool true, Value.string (mkS (encT y)), Value.int IntKind.i64 (↑(encT y).length : Int), Value.int IntKind.i64 0], Ch.blk r 52 [Value.bool true, Value.string (mkS (encI n)), Value.int IntKind.i64 (↑A : Int), Value.int IntKind.i64 e], row 5 1 a2 (encT y).length c2 (u8s (encT y)), row 5 1 a1 (encI n).length c1 (u8s (encI n))] [] (by kernel_rfl) (by kernel_rfl) trivial ?_
      refine wpr_ent (ent_set 99 (Value.bool (decide (y = y))) (Value.bool true) (by kernel_rfl) (congrArg _ (by simp))) ?_
      refine wpr_run (l₂ := [5, 6, 7, 8, 9, 10, 11]) true [4] [] [(100, Value.pointer (some { block := q, off := 0 })), (99, Value.bool true), (6, Value.bool false)] [Ch.blk q 52 [Value.bool true, Value.string (mkS (encT y)), Value.int IntKind.i64 (↑(encT y).length : Int), Value.int IntKind.i64 0], Ch.blk r 52 [Value.bool true, Value.string (mkS (encI n)), Value.int IntKind.i64 (↑A : Int), Value.int IntKind.i64 e], row 5 1 a2 (encT y).length c2 (u8s (encT y)), row 5 1 a1 (encI n).length c1 (u8s (encI n))] [] (by kernel_rfl) (by kernel_rfl) trivial ?_
      refine wpr_call (dst := some 101) (rest := [Ch.blk r 52 [Value.bool true, Value.string (mkS (encI n)), Value.int IntKind.i64 (↑A : Int), Value.int IntKind.i64 e], row 5 1 a2 (encT y).length c2 (u8s (encT y)), row 5 1 a1 (encI n).length c1 (u8s (encI n))]) (by kernel_rfl) (End_spec q (encT y) (encT y).length 0) (give [0] (by kernel_rfl)) ?_
      rintro v hp' ⟨rfl, rfl⟩
      refine wpr_run (l₂ := [9, 10, 11]) true [6, 7, 8] [] [(104, Value.bool (endE (encT y) (↑(encT y).length : Int) 0 == 0)), (6, Value.bool false)] [Ch.blk q 52 [Value.bool true, Value.string (mkS (encT y)), Value.int IntKind.i64 (↑(encT y).length : Int), Value.int IntKind.i64 0], Ch.blk r 52 [Value.bool true, Value.string (mkS (encI n)), Value.int IntKind.i64 (↑A : Int), Value.int IntKind.i64 e], row 5 1 a2 (encT y).length c2 (u8s (encT y)), row 5 1 a1 (encI n).length c1 (u8s (encI n))] [] (by kernel_rfl) (by kernel_rfl) trivial ?_
      refine wpr_ent (ent_set 104 (Value.bool (endE (encT y) (↑(encT y).length : Int) 0 == 0)) (Value.bool true) (by kernel_rfl) (congrArg _ (by unfold endE; simp))) ?_
      refine wpr_call (dst := some 105) (rest := [Ch.blk q 52 [Value.bool true, Value.string (mkS (encT y)), Value.int IntKind.i64 (↑(encT y).length : Int), Value.int IntKind.i64 0], Ch.blk r 52 [Value.bool true, Value.string (mkS (encI n)), Value.int IntKind.i64 (↑A : Int), Value.int IntKind.i64 e], row 5 1 a2 (encT y).length c2 (u8s (encT y)), row 5 1 a1 (encI n).length c1 (u8s (encI n))]) (by kernel_rfl) (lives_spec) (give [] (by kernel_rfl)) ?_
      rintro v hp' ⟨rfl, rfl⟩
      refine wpr_run (l₂ := []) true [10, 11] [] [(6, Value.bool true)] [Ch.blk q 52 [Value.bool true, Value.string (mkS (encT y)), Value.int IntKind.i64 (↑(encT y).length : Int), Value.int IntKind.i64 0], Ch.blk r 52 [Value.bool true, Value.string (mkS (encI n)), Value.int IntKind.i64 (↑A : Int), Value.int IntKind.i64 e], row 5 1 a2 (encT y).length c2 (u8s (encT y)), row 5 1 a1 (encI n).length c1 (u8s (encI n))] [] (by kernel_rfl) (by kernel_rfl) trivial ?_
      refine wpr_nil ?_
      refine nx_then ?_
      refine wpc_ret ?_
      refine nx_end (hp' := []) (rest := [Ch.blk q 52 [Value.bool true, Value.string (mkS (encT y)), Value.int IntKind.i64 (↑(encT y).length : Int), Value.int IntKind.i64 0], Ch.blk r 52 [Value.bool true, Value.string (mkS (encI n)), Value.int IntKind.i64 (↑A : Int), Value.int IntKind.i64 e], row 5 1 a2 (encT y).length c2 (u8s (encT y)), row 5 1 a1 (encI n).length c1 (u8s (encI n))]) [] ((Value.bool true)) (by kernel_rfl) (by kernel_rfl) (give [] (by kernel_rfl)) (by first | ((repeat (first | exact trivial | refine ⟨trivial, ?_⟩)); done) | assumption) ?_ (.inr rfl)
      exact ⟨rfl, rfl⟩
end Go.Proofs.Ytgkcodkeikaeeaa
