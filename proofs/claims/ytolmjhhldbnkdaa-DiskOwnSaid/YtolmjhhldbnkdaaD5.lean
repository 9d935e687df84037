import Derived.Test.YtolmjhhldbnkdaaD4
import Derived.Test.YtolmjhhldbnkdaaX8
namespace Go.Proofs.Ytolmjhhldbnkdaa
open Go Go.Sx
set_option linter.unusedVariables false
set_option linter.unusedSimpArgs false

theorem DiskSure_spec (a b : Option Addr) (ca cb : Nat) (keep : Int) (xs ys : List UInt8) (ha : a = none → xs = []) (hb : b = none → ys = []) (hla : xs.length ≤ 1048576) (hlb : ys.length ≤ 1048576) :
    Does Try.prog 3 [.slice a xs.length ca, .slice b ys.length cb, .int .i64 keep] [ro a (u8s xs), ro b (u8s ys)] (fun v hp' => v = .bool true ∧ hp' = []) := by
  refine fn_enter Try.func3 rfl 87 rfl fun w0 h0 => ?_
  have hL : (xs ++ ys).length = xs.length + ys.length := List.length_append
  obtain ⟨K, hK⟩ : ∃ K : Nat, (K : Int) = (xs.length : Int) + max 0 (min keep (((xs ++ ys).length : Int) - xs.length)) := ⟨_, Int.toNat_of_nonneg (by omega)⟩
  refine wpc_seq ?_
  refine wpc_region [0] (by kernel_rfl) ?_
  refine wpr_run (l₂ := []) true [0] [] [(6, Value.bool false), (0, Value.slice a xs.length ca), (1, Value.slice b ys.length cb), (2, Value.int IntKind.i64 keep)] [ro a (u8s xs), ro b (u8s ys)] [] (by kernel_rfl) (by kernel_rfl) trivial ?_
  refine wpr_nil ?_
  refine nx_then ?_
  refine wpc_seq ?_
  refine wpc_region [0, 1] (by kernel_rfl) ?_
  refine wpr_call (dst := some 10) (rest := [ro a (u8s xs), ro b (u8s ys)]) (by kernel_rfl) (New_spec) (give [] (by kernel_rfl)) ?_
  rintro v hp' ⟨d, rfl, rfl⟩
  refine wpr_run (l₂ := []) true [1] [] [(7, Value.pointer (some { block := d, off := 0 })), (6, Value.bool false), (0, Value.slice a xs.length ca), (1, Value.slice b ys.length cb), (2, Value.int IntKind.i64 keep)] [Ch.blk d 46 [Value.bool true, Value.slice none 0 0, Value.int IntKind.i64 0], ro a (u8s xs), ro b (u8s ys)] [] (by kernel_rfl) (by kernel_rfl) trivial ?_
  refine wpr_nil ?_
  refine nx_then ?_
  refine wpc_seq ?_
  refine wpc_seq ?_
  refine wpc_region [0, 1] (by kernel_rfl) ?_
  refine wpr_run (l₂ := []) true [0, 1] [] [(12, Value.bool false), (7, Value.pointer (some { block := d, off := 0 })), (6, Value.bool false), (0, Value.slice a xs.length ca), (1, Value.slice b ys.length cb), (2, Value.int IntKind.i64 keep)] [Ch.blk d 46 [Value.bool true, Value.slice none 0 0, Value.int IntKind.i64 0], ro a (u8s xs), ro b (u8s ys)] [] (by kernel_rfl) (by kernel_rfl) trivial ?_
  refine wpr_nil ?_
  refine nx_then ?_
  refine wpc_false (by kernel_rfl) ?_
  refine wpc_skip ?_
  refine nx_then ?_
  refine wpc_seq ?_
  refine wpc_region [0, 1, 2] (by kernel_rfl) ?_
  refine wpr_run (l₂ := [2]) true [0, 1] [] [(14, Value.slice a xs.length ca), (13, Value.pointer (some { block := d, off := 0 })), (7, Value.pointer (some { block := d, off := 0 })), (6, Value.bool false), (0, Value.slice a xs.length ca), (1, Value.slice b ys.length cb), (2, Value.int IntKind.i64 keep)] [Ch.blk d 46 [Value.bool true, Value.slice none 0 0, Value.int IntKind.i64 0], ro a (u8s xs), ro b (u8s ys)] [] (by kernel_rfl) (by kernel_rfl) trivial ?_
  refine wpr_ent (ent_nil 5 1) ?_
  refine wpr_call (dst := some 15) (rest := [ro a (u8s xs), ro b (u8s ys)]) (by kernel_rfl) (Append_spec d none a 0 ca 0 [] xs ha (by simp; omega)) (Give.reorder (Give.view (c := (ro a (u8s xs))) (give (pre := [Ch.blk d 46 [Value.bool true, Value.slice none 0 0, Value.int IntKind.i64 0], row 5 1 none 0 0 (u8s [])]) (rest := [ro a (u8s xs), ro b (u8s ys)]) [1, 0] (by kernel_rfl)) 0 (by kernel_rfl) view_ro) [1, 1, 0] (by kernel_rfl)) ?_
  rintro v hp' ⟨rfl, a1, c1, rfl⟩
  rw [List.nil_append]
  refine wpr_nil ?_
  refine nx_then ?_
  refine wpc_seq ?_
  refine wpc_region [0, 1] (by kernel_rfl) ?_
  refine wpr_run (l₂ := [1]) true [0] [] [(16, Value.pointer (some { block := d, off := 0 })), (7, Value.pointer (some { block := d, off := 0 })), (6, Value.bool false), (0, Value.slice a xs.length ca), (1, Value.slice b ys.length cb), (2, Value.int IntKind.i64 keep)] [Ch.blk d 46 [Value.bool true, Value.slice a1 xs.length c1, Value.int IntKind.i64 0], row 5 1 a1 xs.length c1 (u8s xs), ro a (u8s xs), ro b (u8s ys)] [] (by kernel_rfl) (by kernel_rfl) trivial ?_
  refine wpr_call (dst := some 17) (rest := [ro a (u8s xs), ro b (u8s ys)]) (by kernel_rfl) (Sync_spec d a1 c1 0 xs) (give [0, 0] (by kernel_rfl)) ?_
  rintro v hp' ⟨rfl, rfl⟩
  refine wpr_nil ?_
  refine nx_then ?_
  refine wpc_seq ?_
  refine wpc_region [0, 1, 2] (by kernel_rfl) ?_
  refine wpr_run (l₂ := [2]) true [0, 1] [] [(19, Value.slice b ys.length cb), (18, Value.pointer (some { block := d, off := 0 })), (7, Value.pointer (some { block := d, off := 0 })), (6, Value.bool false), (0, Value.slice a xs.length ca), (1, Value.slice b ys.length cb), (2, Value.int IntKind.i64 keep)] [Ch.blk d 46 [Value.bool true, Value.slice a1 xs.length c1, Value.int IntKind.i64 (↑xs.length : Int)], row 5 1 a1 xs.length c1 (u8s xs), ro a (u8s xs), ro b (u8s ys)] [] (by kernel_rfl) (by kernel_rfl) trivial ?_
  refine wpr_call (dst := some 20) (rest := [ro a (u8s xs), ro b (u8s ys)]) (by kernel_rfl) (Append_spec d a1 b c1 cb xs.length xs ys hb (by omega)) (Give.reorder (Give.view (c := (ro b (u8s ys))) (give (pre := [Ch.blk d 46 [Value.bool true, Value.slice a1 xs.length c1, Value.int IntKind.i64 (↑xs.length : Int)], row 5 1 a1 xs.length c1 (u8s xs)]) (rest := [ro a (u8s xs), ro b (u8s ys)]) [0, 0] (by kernel_rfl)) 1 (by kernel_rfl) view_ro) [1, 1, 0] (by kernel_rfl)) ?_
  rintro v hp' ⟨rfl, a2, c2, rfl⟩
  refine wpr_nil ?_
  refine nx_then ?_
  refine wpc_seq ?_
  refine wpc_region [0, 1, 2] (by kernel_rfl) ?_
  refine wpr_run (l₂ := [2]) true [0, 1] [] [(22, Value.int IntKind.i64 keep), (21, Value.pointer (some { block := d, off := 0 })), (7, Value.pointer (some { block := d, off := 0 })), (6, Value.bool false), (0, Value.slice a xs.length ca), (1, Value.slice b ys.length cb), (2, Value.int IntKind.i64 keep)] ([Ch.blk d 46 [Value.bool true, Value.slice a2 (xs ++ ys).length c2, Value.int IntKind.i64 (↑xs.length : Int)], row 5 1 a2 (xs ++ ys).length c2 (u8s (xs ++ ys)), ro a (u8s xs), ro b (u8s ys)]) [] (by kernel_rfl) (by kernel_rfl) trivial ?_
  refine wpr_call (dst := some 23) (rest := [ro a (u8s xs), ro b (u8s ys)]) (by kernel_rfl) (Crash_spec d a2 c2 xs.length keep (xs ++ ys) (by omega) (by omega) (by omega) K hK) (give [0, 0] (by kernel_rfl)) ?_
  rintro v hp' ⟨rfl, rfl⟩
  refine wpr_nil ?_
  refine nx_then ?_
  refine wpc_seq ?_
  refine wpc_region [0, 1, 2, 3] (by kernel_rfl) ?_
  refine wpr_run (l₂ := [1, 2, 3]) true [0] [] [(24, Value.pointer (some { block := d, off := 0 })), (7, Value.pointer (some { block := d, off := 0 })), (6, Value.bool false), (0, Value.slice a xs.length ca), (1, Value.slice b ys.length cb), (2, Value.int IntKind.i64 keep)] ([Ch.blk d 46 [Value.bool true, Value.slice a2 (List.take K (xs ++ ys)).length K, Value.int IntKind.i64 (↑K : Int)], row 5 1 a2 (List.take K (xs ++ ys)).length K (u8s (List.take K (xs ++ ys))), ro a (u8s xs), ro b (u8s ys)]) [] (by kernel_rfl) (by kernel_rfl) trivial ?_
  refine wpr_call (dst := some 25) (rest := [ro a (u8s xs), ro b (u8s ys)]) (by kernel_rfl) (Bytes_spec d a2 K K ((xs ++ ys).take K) (by simp; omega)) (give [0, 0] (by kernel_rfl)) ?_
  rintro v hp' ⟨a3, c3, rfl, rfl⟩
  refine wpr_eq (b2s (a := 22) (b := 9) (ad := a3) (n := ((List.take K (xs ++ ys)).length)) (c := c3) (dst := some 26) (by kernel_rfl) (by kernel_rfl) ((xs ++ ys).take K) (by first | rfl | simp) (fun w h => b2s_row h 2 rfl)) ?_
  refine wpr_run (l₂ := []) true [3] [] ([(8, Value.string (mkS (List.take K (xs ++ ys)))), (7, Value.pointer (some { block := d, off := 0 })), (6, Value.bool false), (0, Value.slice a xs.length ca), (1, Value.slice b ys.length cb), (2, Value.int IntKind.i64 keep)]) ([Ch.blk d 46 [Value.bool true, Value.slice a2 (List.take K (xs ++ ys)).length K, Value.int IntKind.i64 (↑K : Int)], row 5 1 a2 (List.take K (xs ++ ys)).length K (u8s (List.take K (xs ++ ys))), row 5 1 a3 (List.take K (xs ++ ys)).length c3 (u8s (List.take K (xs ++ ys))), ro a (u8s xs), ro b (u8s ys)]) [] (by kernel_rfl) (by kernel_rfl) trivial ?_
  refine wpr_nil ?_
  refine nx_then ?_
  refine wpc_seq ?_
  refine wpc_region [0, 1, 2, 3, 4, 5] (by kernel_rfl) ?_
  refine wpr_run (l₂ := [1, 2, 3, 4, 5]) true [0] [] ([(27, Value.slice a xs.length ca), (8, Value.string (mkS (List.take K (xs ++ ys)))), (7, Value.pointer (some { block := d, off := 0 })), (6, Value.bool false), (0, Value.slice a xs.length ca), (1, Value.slice b ys.length cb), (2, Value.int IntKind.i64 keep)]) ([Ch.blk d 46 [Value.bool true, Value.slice a2 (List.take K (xs ++ ys)).length K, Value.int IntKind.i64 (↑K : Int)], row 5 1 a2 (List.take K (xs ++ ys)).length K (u8s (List.take K (xs ++ ys))), row 5 1 a3 (List.take K (xs ++ ys)).length c3 (u8s (List.take K (xs ++ ys))), ro a (u8s xs), ro b (u8s ys)]) [] (by kernel_rfl) (by kernel_rfl) trivial ?_
  refine wpr_eq (b2s (a := 22) (b := 9) (ad := a) (n := xs.length) (c := ca) (dst := some 28) (by kernel_rfl) (by kernel_rfl) xs (by first | rfl | simp) (fun w h => b2s_ro h 3 rfl)) ?_
  refine wpr_run (l₂ := [3, 4, 5]) true [2] [] ([(29, Value.slice b ys.length cb), (28, Value.string (mkS xs)), (8, Value.string (mkS (List.take K (xs ++ ys)))), (7, Value.pointer (some { block := d, off := 0 })), (6, Value.bool false), (0, Value.slice a xs.length ca), (1, Value.slice b ys.length cb), (2, Value.int IntKind.i64 keep)]) ([Ch.blk d 46 [Value.bool true, Value.slice a2 (List.take K (xs ++ ys)).length K, Value.int IntKind.i64 (↑K : Int)], row 5 1 a2 (List.take K (xs ++ ys)).length K (u8s (List.take K (xs ++ ys))), row 5 1 a3 (List.take K (xs ++ ys)).length c3 (u8s (List.take K (xs ++ ys))), ro a (u8s xs), ro b (u8s ys)]) [] (by kernel_rfl) (by kernel_rfl) trivial ?_
  refine wpr_eq (b2s (a := 22) (b := 9) (ad := b) (n := ys.length) (c := cb) (dst := some 30) (by kernel_rfl) (by kernel_rfl) ys (by first | rfl | simp) (fun w h => b2s_ro h 4 rfl)) ?_
  have hT : (List.take K (xs ++ ys)).length = K := by simp; omega
  have hA : (xs ++ ys).length = xs.length + ys.length := by simp
  refine wpr_run (l₂ := []) true [4, 5] [] ([(9, Value.string (mkS (xs ++ ys))), (8, Value.string (mkS (List.take K (xs ++ ys)))), (7, Value.pointer (some { block := d, off := 0 })), (6, Value.bool false), (0, Value.slice a xs.length ca), (1, Value.slice b ys.length cb), (2, Value.int IntKind.i64 keep)]) ([Ch.blk d 46 [Value.bool true, Value.slice a2 (List.take K (xs ++ ys)).length K, Value.int IntKind.i64 (↑K : Int)], row 5 1 a2 (List.take K (xs ++ ys)).length K (u8s (List.take K (xs ++ ys))), row 5 1 a3 (List.take K (xs ++ ys)).length c3 (u8s (List.take K (xs ++ ys))), ro a (u8s xs), ro b (u8s ys)]) ([xs.length + ys.length ≤ 9223372036854775807]) (by kernel_rfl) (by kernel_rfl) ⟨by omega, trivial⟩ ?_
  refine wpr_nil ?_
  refine nx_then ?_
  refine wpc_seq ?_
  refine wpc_seq ?_
  refine wpc_region [0, 1, 2, 3, 4, 5, 6, 7, 8, 9, 10, 11, 12, 13, 14, 15, 16, 17, 18, 19, 20, 21, 22, 23, 24, 25, 26, 27, 28, 29, 30, 31, 32, 33, 34, 35, 36, 37, 38, 39, 40, 41] (by kernel_rfl) ?_
  refine wpr_run (l₂ := [6, 7, 8, 9, 10, 11, 12, 13, 14, 15, 16, 17, 18, 19, 20, 21, 22, 23, 24, 25, 26, 27, 28, 29, 30, 31, 32, 33, 34, 35, 36, 37, 38, 39, 40, 41]) true [0, 1, 2, 3, 4, 5] [] ([(37, Value.bool (decide ((↑(List.take K (xs ++ ys)).length : Int) < (↑xs.length : Int)))), (9, Value.string (mkS (xs ++ ys))), (8, Value.string (mkS (List.take K (xs ++ ys)))), (7, Value.pointer (some { block := d, off := 0 })), (6, Value.bool false), (0, Value.slice a xs.length ca), (1, Value.slice b ys.length cb), (2, Value.int IntKind.i64 keep)]) ([Ch.blk d 46 [Value.bool true, Value.slice a2 (List.take K (xs ++ ys)).length K, Value.int IntKind.i64 (↑K : Int)], row 5 1 a2 (List.take K (xs ++ ys)).length K (u8s (List.take K (xs ++ ys))), row 5 1 a3 (List.take K (xs ++ ys)).length c3 (u8s (List.take K (xs ++ ys))), ro a (u8s xs), ro b (u8s ys)]) [] (by kernel_rfl) (by kernel_rfl) trivial ?_
  refine wpr_ent (ent_set 37 (Value.bool (decide ((↑(List.take K (xs ++ ys)).length : Int) < (↑xs.length : Int)))) (Value.bool false) (by kernel_rfl) (congrArg _ (decide_eq_false (by omega)))) ?_
  refine wpr_run (l₂ := [13, 14, 15, 16, 17, 18, 19, 20, 21, 22, 23, 24, 25, 26, 27, 28, 29, 30, 31, 32, 33, 34, 35, 36, 37, 38, 39, 40, 41]) true [6, 7, 8, 9, 10, 11, 12] [] ([(44, Value.bool (decide ((↑(List.take K (xs ++ ys)).length : Int) > (↑(xs ++ ys).length : Int)))), (9, Value.string (mkS (xs ++ ys))), (8, Value.string (mkS (List.take K (xs ++ ys)))), (7, Value.pointer (some { block := d, off := 0 })), (6, Value.bool false), (0, Value.slice a xs.length ca), (1, Value.slice b ys.length cb), (2, Value.int IntKind.i64 keep)]) ([Ch.blk d 46 [Value.bool true, Value.slice a2 (List.take K (xs ++ ys)).length K, Value.int IntKind.i64 (↑K : Int)], row 5 1 a2 (List.take K (xs ++ ys)).length K (u8s (List.take K (xs ++ ys))), row 5 1 a3 (List.take K (xs ++ ys)).length c3 (u8s (List.take K (xs ++ ys))), ro a (u8s xs), ro b (u8s ys)]) [] (by kernel_rfl) (by kernel_rfl) trivial ?_
  refine wpr_ent (ent_set 44 (Value.bool (decide ((↑(List.take K (xs ++ ys)).length : Int) > (↑(xs ++ ys).length : Int)))) (Value.bool false) (by kernel_rfl) (congrArg _ (decide_eq_false (by omega)))) ?_
  refine wpr_run (l₂ := [21, 22, 23, 24, 25, 26, 27, 28, 29, 30, 31, 32, 33, 34, 35, 36, 37, 38, 39, 40, 41]) true [13, 14, 15, 16, 17, 18, 19, 20] [] ([(52, Value.bool !decide (List.take K (xs ++ ys) = List.take ((↑(List.take K (xs ++ ys)).length : Int) - 0).toNat (List.drop (Int.toNat 0) (xs ++ ys)))), (9, Value.string (mkS (xs ++ ys))), (8, Value.string (mkS (List.take K (xs ++ ys)))), (7, Value.pointer (some { block := d, off := 0 })), (6, Value.bool false), (0, Value.slice a xs.length ca), (1, Value.slice b ys.length cb), (2, Value.int IntKind.i64 keep)]) ([Ch.blk d 46 [Value.bool true, Value.slice a2 (List.take K (xs ++ ys)).length K, Value.int IntKind.i64 (↑K : Int)], row 5 1 a2 (List.take K (xs ++ ys)).length K (u8s (List.take K (xs ++ ys))), row 5 1 a3 (List.take K (xs ++ ys)).length c3 (u8s (List.take K (xs ++ ys))), ro a (u8s xs), ro b (u8s ys)]) ([0 ≤ (↑(List.take K (xs ++ ys)).length : Int) ∧ (↑(List.take K (xs ++ ys)).length : Int) ≤ (↑(xs ++ ys).length : Int)]) (by kernel_rfl) (by kernel_rfl) ⟨by omega, trivial⟩ ?_
  refine wpr_ent (ent_set 52 (Value.bool !decide (List.take K (xs ++ ys) = List.take ((↑(List.take K (xs ++ ys)).length : Int) - 0).toNat (List.drop (Int.toNat 0) (xs ++ ys)))) (Value.bool false) (by kernel_rfl) (congrArg _ (by rw [hT]; simp))) ?_
  refine wpr_run (l₂ := [26, 27, 28, 29, 30, 31, 32, 33, 34, 35, 36, 37, 38, 39, 40, 41]) true [21, 22, 23, 24, 25] [] ([(57, Value.bool (decide (keep ≥ (↑ys.length : Int)))), (52, Value.bool false), (9, Value.string (mkS (xs ++ ys))), (8, Value.string (mkS (List.take K (xs ++ ys)))), (7, Value.pointer (some { block := d, off := 0 })), (6, Value.bool false), (0, Value.slice a xs.length ca), (1, Value.slice b ys.length cb), (2, Value.int IntKind.i64 keep)]) ([Ch.blk d 46 [Value.bool true, Value.slice a2 (List.take K (xs ++ ys)).length K, Value.int IntKind.i64 (↑K : Int)], row 5 1 a2 (List.take K (xs ++ ys)).length K (u8s (List.take K (xs ++ ys))), row 5 1 a3 (List.take K (xs ++ ys)).length c3 (u8s (List.take K (xs ++ ys))), ro a (u8s xs), ro b (u8s ys)]) [] (by kernel_rfl) (by kernel_rfl) trivial ?_
  refine wpr_join ⟨[(73, Value.bool false), (8, (Value.string (mkS (List.take K (xs ++ ys))))), (7, (Value.pointer (some { block := d, off := 0 }))), (6, (Value.bool false)), (0, (Value.slice a xs.length ca)), (1, (Value.slice b ys.length cb)), (2, (Value.int IntKind.i64 keep))], ([Ch.blk d 46 [Value.bool true, Value.slice a2 (List.take K (xs ++ ys)).length K, Value.int IntKind.i64 (↑K : Int)], row 5 1 a2 (List.take K (xs ++ ys)).length K (u8s (List.take K (xs ++ ys))), row 5 1 a3 (List.take K (xs ++ ys)).length c3 (u8s (List.take K (xs ++ ys))), ro a (u8s xs), ro b (u8s ys)])⟩ (fun Q1 hQ1 hk => ?_) ?_
  · refine wpr_casep 57 ((keep ≥ (↑ys.length : Int))) (by kernel_rfl) (fun h1 => ?_) (fun h1 => ?_)
    · refine wpr_run (l₂ := [32, 33, 34, 35, 36, 37, 38, 39, 40, 41]) true [26, 27, 28, 29, 30, 31] [] ([(63, Value.bool !decide (List.take K (xs ++ ys) = xs ++ ys)), (8, Value.string (mkS (List.take K (xs ++ ys)))), (7, Value.pointer (some { block := d, off := 0 })), (6, Value.bool false), (0, Value.slice a xs.length ca), (1, Value.slice b ys.length cb), (2, Value.int IntKind.i64 keep)]) ([Ch.blk d 46 [Value.bool true, Value.slice a2 (List.take K (xs ++ ys)).length K, Value.int IntKind.i64 (↑K : Int)], row 5 1 a2 (List.take K (xs ++ ys)).length K (u8s (List.take K (xs ++ ys))), row 5 1 a3 (List.take K (xs ++ ys)).length c3 (u8s (List.take K (xs ++ ys))), ro a (u8s xs), ro b (u8s ys)]) [] (by kernel_rfl) (by kernel_rfl) trivial ?_
      refine wpr_ent (ent_set 63 (Value.bool !decide (List.take K (xs ++ ys) = xs ++ ys)) (Value.bool false) (by kernel_rfl) (congrArg _ (by rw [List.take_of_length_le (by omega)]; simp))) ?_
      refine wpr_run (l₂ := [35, 36, 37, 38, 39, 40, 41]) true [32, 33, 34] [] ([(66, Value.bool (decide (keep ≤ 0))), (63, Value.bool false), (8, Value.string (mkS (List.take K (xs ++ ys)))), (7, Value.pointer (some { block := d, off := 0 })), (6, Value.bool false), (0, Value.slice a xs.length ca), (1, Value.slice b ys.length cb), (2, Value.int IntKind.i64 keep)]) ([Ch.blk d 46 [Value.bool true, Value.slice a2 (List.take K (xs ++ ys)).length K, Value.int IntKind.i64 (↑K : Int)], row 5 1 a2 (List.take K (xs ++ ys)).length K (u8s (List.take K (xs ++ ys))), row 5 1 a3 (List.take K (xs ++ ys)).length c3 (u8s (List.take K (xs ++ ys))), ro a (u8s xs), ro b (u8s ys)]) [] (by kernel_rfl) (by kernel_rfl) trivial ?_
      refine wpr_casep 66 ((keep ≤ 0)) (by kernel_rfl) (fun h2 => ?_) (fun h2 => ?_)
      · refine wpr_run (l₂ := []) true [35, 36, 37, 38, 39, 40, 41] [] ([(73, Value.bool ((↑(List.take K (xs ++ ys)).length : Int) != (↑xs.length : Int))), (8, Value.string (mkS (List.take K (xs ++ ys)))), (7, Value.pointer (some { block := d, off := 0 })), (6, Value.bool false), (0, Value.slice a xs.length ca), (1, Value.slice b ys.length cb), (2, Value.int IntKind.i64 keep)]) ([Ch.blk d 46 [Value.bool true, Value.slice a2 (List.take K (xs ++ ys)).length K, Value.int IntKind.i64 (↑K : Int)], row 5 1 a2 (List.take K (xs ++ ys)).length K (u8s (List.take K (xs ++ ys))), row 5 1 a3 (List.take K (xs ++ ys)).length c3 (u8s (List.take K (xs ++ ys))), ro a (u8s xs), ro b (u8s ys)]) [] (by kernel_rfl) (by kernel_rfl) trivial ?_
        refine wpr_nil ?_
        refine nx_ent (ent_set 73 (Value.bool ((↑(List.take K (xs ++ ys)).length : Int) != (↑xs.length : Int))) (Value.bool false) (by kernel_rfl) (congrArg _ (by rw [hT]; simp; omega))) ?_
        exact nx_ent (ent_fr (by kernel_rfl)) hk
      · refine wpr_run (l₂ := []) true [35, 36, 37, 38, 39, 40, 41] [] ([(73, Value.bool false), (8, Value.string (mkS (List.take K (xs ++ ys)))), (7, Value.pointer (some { block := d, off := 0 })), (6, Value.bool false), (0, Value.slice a xs.length ca), (1, Value.slice b ys.length cb), (2, Value.int IntKind.i64 keep)]) ([Ch.blk d 46 [Value.bool true, Value.slice a2 (List.take K (xs ++ ys)).length K, Value.int IntKind.i64 (↑K : Int)], row 5 1 a2 (List.take K (xs ++ ys)).length K (u8s (List.take K (xs ++ ys))), row 5 1 a3 (List.take K (xs ++ ys)).length c3 (u8s (List.take K (xs ++ ys))), ro a (u8s xs), ro b (u8s ys)]) [] (by kernel_rfl) (by kernel_rfl) trivial ?_
        refine wpr_nil ?_
        exact nx_ent (ent_fr (by kernel_rfl)) hk
    · refine wpr_run (l₂ := [35, 36, 37, 38, 39, 40, 41]) true [26, 27, 28, 29, 30, 31, 32, 33, 34] [] ([(66, Value.bool (decide (keep ≤ 0))), (63, Value.bool false), (8, Value.string (mkS (List.take K (xs ++ ys)))), (7, Value.pointer (some { block := d, off := 0 })), (6, Value.bool false), (0, Value.slice a xs.length ca), (1, Value.slice b ys.length cb), (2, Value.int IntKind.i64 keep)]) ([Ch.blk d 46 [Value.bool true, Value.slice a2 (List.take K (xs ++ ys)).length K, Value.int IntKind.i64 (↑K : Int)], row 5 1 a2 (List.take K (xs ++ ys)).length K (u8s (List.take K (xs ++ ys))), row 5 1 a3 (List.take K (xs ++ ys)).length c3 (u8s (List.take K (xs ++ ys))), ro a (u8s xs), ro b (u8s ys)]) [] (by kernel_rfl) (by kernel_rfl) trivial ?_
      refine wpr_casep 66 ((keep ≤ 0)) (by kernel_rfl) (fun h2 => ?_) (fun h2 => ?_)
      · refine wpr_run (l₂ := []) true [35, 36, 37, 38, 39, 40, 41] [] ([(73, Value.bool ((↑(List.take K (xs ++ ys)).length : Int) != (↑xs.length : Int))), (8, Value.string (mkS (List.take K (xs ++ ys)))), (7, Value.pointer (some { block := d, off := 0 })), (6, Value.bool false), (0, Value.slice a xs.length ca), (1, Value.slice b ys.length cb), (2, Value.int IntKind.i64 keep)]) ([Ch.blk d 46 [Value.bool true, Value.slice a2 (List.take K (xs ++ ys)).length K, Value.int IntKind.i64 (↑K : Int)], row 5 1 a2 (List.take K (xs ++ ys)).length K (u8s (List.take K (xs ++ ys))), row 5 1 a3 (List.take K (xs ++ ys)).length c3 (u8s (List.take K (xs ++ ys))), ro a (u8s xs), ro b (u8s ys)]) [] (by kernel_rfl) (by kernel_rfl) trivial ?_
        refine wpr_nil ?_
        refine nx_ent (ent_set 73 (Value.bool ((↑(List.take K (xs ++ ys)).length : Int) != (↑xs.length : Int))) (Value.bool false) (by kernel_rfl) (congrArg _ (by rw [hT]; simp; omega))) ?_
        exact nx_ent (ent_fr (by kernel_rfl)) hk
      · refine wpr_run (l₂ := []) true [35, 36, 37, 38, 39, 40, 41] [] ([(73, Value.bool false), (8, Value.string (mkS (List.take K (xs ++ ys)))), (7, Value.pointer (some { block := d, off := 0 })), (6, Value.bool false), (0, Value.slice a xs.length ca), (1, Value.slice b ys.length cb), (2, Value.int IntKind.i64 keep)]) ([Ch.blk d 46 [Value.bool true, Value.slice a2 (List.take K (xs ++ ys)).length K, Value.int IntKind.i64 (↑K : Int)], row 5 1 a2 (List.take K (xs ++ ys)).length K (u8s (List.take K (xs ++ ys))), row 5 1 a3 (List.take K (xs ++ ys)).length c3 (u8s (List.take K (xs ++ ys))), ro a (u8s xs), ro b (u8s ys)]) [] (by kernel_rfl) (by kernel_rfl) trivial ?_
        refine wpr_nil ?_
        exact nx_ent (ent_fr (by kernel_rfl)) hk
  refine nx_then ?_
  refine wpc_false (by kernel_rfl) ?_
  refine wpc_skip ?_
  refine nx_then ?_
  refine wpc_seq ?_
  refine wpc_region [0, 1, 2] (by kernel_rfl) ?_
  refine wpr_run (l₂ := [2]) true [0, 1] [] ([(75, Value.slice b ys.length cb), (74, Value.pointer (some { block := d, off := 0 })), (8, Value.string (mkS (List.take K (xs ++ ys)))), (7, Value.pointer (some { block := d, off := 0 })), (6, Value.bool false)]) ([Ch.blk d 46 [Value.bool true, Value.slice a2 (List.take K (xs ++ ys)).length K, Value.int IntKind.i64 (↑K : Int)], row 5 1 a2 (List.take K (xs ++ ys)).length K (u8s (List.take K (xs ++ ys))), row 5 1 a3 (List.take K (xs ++ ys)).length c3 (u8s (List.take K (xs ++ ys))), ro a (u8s xs), ro b (u8s ys)]) [] (by kernel_rfl) (by kernel_rfl) trivial ?_
  refine wpr_call (dst := some 76) (rest := ([row 5 1 a3 (List.take K (xs ++ ys)).length c3 (u8s (List.take K (xs ++ ys))), ro a (u8s xs), ro b (u8s ys)])) (by kernel_rfl) (Append_spec d a2 b K cb K (List.take K (xs ++ ys)) ys hb (by omega)) (Give.reorder (Give.view (c := (ro b (u8s ys))) (give (pre := ([Ch.blk d 46 [Value.bool true, Value.slice a2 (List.take K (xs ++ ys)).length K, Value.int IntKind.i64 (↑K : Int)], row 5 1 a2 (List.take K (xs ++ ys)).length K (u8s (List.take K (xs ++ ys)))])) (rest := ([row 5 1 a3 (List.take K (xs ++ ys)).length c3 (u8s (List.take K (xs ++ ys))), ro a (u8s xs), ro b (u8s ys)])) [0, 0] (by kernel_rfl)) 2 (by kernel_rfl) view_ro) [1, 1, 0] (by kernel_rfl)) ?_
  rintro v hp' ⟨rfl, a4, c4, rfl⟩
  refine wpr_nil ?_
  refine nx_then ?_
  refine wpc_seq ?_
  refine wpc_region [0, 1] (by kernel_rfl) ?_
  refine wpr_run (l₂ := [1]) true [0] [] ([(77, Value.pointer (some { block := d, off := 0 })), (8, Value.string (mkS (List.take K (xs ++ ys)))), (7, Value.pointer (some { block := d, off := 0 })), (6, Value.bool false)]) ([Ch.blk d 46 [Value.bool true, Value.slice a4 (List.take K (xs ++ ys) ++ ys).length c4, Value.int IntKind.i64 (↑K : Int)], row 5 1 a4 (List.take K (xs ++ ys) ++ ys).length c4 (u8s (List.take K (xs ++ ys) ++ ys)), row 5 1 a3 (List.take K (xs ++ ys)).length c3 (u8s (List.take K (xs ++ ys))), ro a (u8s xs), ro b (u8s ys)]) [] (by kernel_rfl) (by kernel_rfl) trivial ?_
  have hB : (List.take K (xs ++ ys) ++ ys).length = K + ys.length := by rw [List.length_append, hT]
  refine wpr_call (dst := some 78) (rest := ([row 5 1 a3 (List.take K (xs ++ ys)).length c3 (u8s (List.take K (xs ++ ys))), ro a (u8s xs), ro b (u8s ys)])) (by kernel_rfl) (Crash_spec d a4 c4 K 0 (List.take K (xs ++ ys) ++ ys) (by omega) (by omega) (by omega) K (by omega)) (give [0, 0] (by kernel_rfl)) ?_
  rintro v hp' ⟨rfl, rfl⟩
  refine wpr_nil ?_
  refine nx_then ?_
  refine wpc_seq ?_
  refine wpc_region [0, 1, 2, 3, 4, 5, 6, 7, 8] (by kernel_rfl) ?_
  refine wpr_run (l₂ := [1, 2, 3, 4, 5, 6, 7, 8]) true [0] [] ([(79, Value.pointer (some { block := d, off := 0 })), (8, Value.string (mkS (List.take K (xs ++ ys)))), (6, Value.bool false)]) ([Ch.blk d 46 [Value.bool true, Value.slice a4 (List.take K (List.take K (xs ++ ys) ++ ys)).length K, Value.int IntKind.i64 (↑K : Int)], row 5 1 a4 (List.take K (List.take K (xs ++ ys) ++ ys)).length K (u8s (List.take K (List.take K (xs ++ ys) ++ ys))), row 5 1 a3 (List.take K (xs ++ ys)).length c3 (u8s (List.take K (xs ++ ys))), ro a (u8s xs), ro b (u8s ys)]) [] (by kernel_rfl) (by kernel_rfl) trivial ?_
  refine wpr_call (dst := some 80) (rest := ([row 5 1 a3 (List.take K (xs ++ ys)).length c3 (u8s (List.take K (xs ++ ys))), ro a (u8s xs), ro b (u8s ys)])) (by kernel_rfl) (Bytes_spec d a4 K K (List.take K (List.take K (xs ++ ys) ++ ys)) (by simp; omega)) (give [0, 0] (by kernel_rfl)) ?_
  rintro v hp' ⟨a5, c5, rfl, rfl⟩
  refine wpr_eq (b2s (a := 22) (b := 9) (ad := a5) (n := ((List.take K (List.take K (xs ++ ys) ++ ys)).length)) (c := c5) (dst := some 81) (by kernel_rfl) (by kernel_rfl) (List.take K (List.take K (xs ++ ys) ++ ys)) (by first | rfl | simp) (fun w h => b2s_row h 2 rfl)) ?_
  refine wpr_run (l₂ := [6, 7, 8]) true [3, 4, 5] [] ([(84, Value.bool (decide (List.take K (List.take K (xs ++ ys) ++ ys) = List.take K (xs ++ ys)))), (6, Value.bool false)]) ([Ch.blk d 46 [Value.bool true, Value.slice a4 (List.take K (List.take K (xs ++ ys) ++ ys)).length K, Value.int IntKind.i64 (↑K : Int)], row 5 1 a4 (List.take K (List.take K (xs ++ ys) ++ ys)).length K (u8s (List.take K (List.take K (xs ++ ys) ++ ys))), row 5 1 a5 (List.take K (List.take K (xs ++ ys) ++ ys)).length c5 (u8s (List.take K (List.take K (xs ++ ys) ++ ys))), row 5 1 a3 (List.take K (xs ++ ys)).length c3 (u8s (List.take K (xs ++ ys))), ro a (u8s xs), ro b (u8s ys)]) [] (by kernel_rfl) (by kernel_rfl) trivial ?_
  have hE : List.take K (List.take K (xs ++ ys) ++ ys) = List.take K (xs ++ ys) := by
    rw [List.take_append, hT, Nat.sub_self, List.take_zero, List.append_nil, List.take_take, Nat.min_self]
  refine wpr_ent (ent_set 84 (Value.bool (decide (List.take K (List.take K (xs ++ ys) ++ ys) = List.take K (xs ++ ys)))) (Value.bool true) (by kernel_rfl) (congrArg _ (decide_eq_true hE))) ?_
  refine wpr_call (dst := some 85) (rest := ([Ch.blk d 46 [Value.bool true, Value.slice a4 (List.take K (List.take K (xs ++ ys) ++ ys)).length K, Value.int IntKind.i64 (↑K : Int)], row 5 1 a4 (List.take K (List.take K (xs ++ ys) ++ ys)).length K (u8s (List.take K (List.take K (xs ++ ys) ++ ys))), row 5 1 a5 (List.take K (List.take K (xs ++ ys) ++ ys)).length c5 (u8s (List.take K (List.take K (xs ++ ys) ++ ys))), row 5 1 a3 (List.take K (xs ++ ys)).length c3 (u8s (List.take K (xs ++ ys))), ro a (u8s xs), ro b (u8s ys)])) (by kernel_rfl) (lives_spec) (give [] (by kernel_rfl)) ?_
  rintro v hp' ⟨rfl, rfl⟩
  refine wpr_run (l₂ := []) true [7, 8] [] [(6, Value.bool true)] ([Ch.blk d 46 [Value.bool true, Value.slice a4 (List.take K (List.take K (xs ++ ys) ++ ys)).length K, Value.int IntKind.i64 (↑K : Int)], row 5 1 a4 (List.take K (List.take K (xs ++ ys) ++ ys)).length K (u8s (List.take K (List.take K (xs ++ ys) ++ ys))), row 5 1 a5 (List.take K (List.take K (xs ++ ys) ++ ys)).length c5 (u8s (List.take K (List.take K (xs ++ ys) ++ ys))), row 5 1 a3 (List.take K (xs ++ ys)).length c3 (u8s (List.take K (xs ++ ys))), ro a (u8s xs), ro b (u8s ys)]) [] (by kernel_rfl) (by kernel_rfl) trivial ?_
  refine wpr_nil ?_
  refine nx_then ?_
  refine wpc_ret ?_
  refine nx_end (hp' := []) (rest := ([Ch.blk d 46 [Value.bool true, Value.slice a4 (List.take K (List.take K (xs ++ ys) ++ ys)).length K, Value.int IntKind.i64 (↑K : Int)], row 5 1 a4 (List.take K (List.take K (xs ++ ys) ++ ys)).length K (u8s (List.take K (List.take K (xs ++ ys) ++ ys))), row 5 1 a5 (List.take K (List.take K (xs ++ ys) ++ ys)).length c5 (u8s (List.take K (List.take K (xs ++ ys) ++ ys))), row 5 1 a3 (List.take K (xs ++ ys)).length c3 (u8s (List.take K (xs ++ ys))), ro a (u8s xs), ro b (u8s ys)])) [] ((Value.bool true)) (by kernel_rfl) (by kernel_rfl) (give [] (by kernel_rfl)) (by first | ((repeat (first | exact trivial | refine ⟨trivial, ?_⟩)); done) | assumption) ?_ (.inr rfl)
  exact ⟨rfl, rfl⟩
end Go.Proofs.Ytolmjhhldbnkdaa
