import Derived.Test.YtolmjhhldbnkdaaD7
import Derived.Test.YtolmjhhldbnkdaaX10
namespace Go.Proofs.Ytolmjhhldbnkdaa
open Go Go.Sx
set_option linter.unusedVariables false
set_option linter.unusedSimpArgs false

theorem RSync (l : List UInt8) (k : Int) : Does Try.prog 13 [.agg #[.string (mkS l), .int .i64 k]] [] (fun v hp' => v = .agg #[.string (mkS l), .int .i64 l.length] ∧ hp' = []) := by
  refine fn_enter Try.func13 rfl 9 rfl fun w0 h0 => ?_
  refine wpc_seq ?_
  refine wpc_region [0, 1] (by kernel_rfl) ?_
  refine wpr_new (l₂ := [1]) true [0] [] (fun g1 => [(1, Value.pointer (some { block := g1, off := 0 }))]) (fun g1 => [Ch.blk g1 35 [Value.string (mkS l), Value.int IntKind.i64 k]]) (fun g1 => []) (fun g1 => by kernel_rfl) (fun g1 => by kernel_rfl) (fun g1 => trivial) fun g1 => ?_
  refine wpr_new (l₂ := []) true [1] [] (fun g2 => [(2, Value.pointer (some { block := g2, off := 0 })), (1, Value.pointer (some { block := g1, off := 0 }))]) (fun g2 => [Ch.blk g1 35 [Value.string (mkS l), Value.int IntKind.i64 k], Ch.blk g2 35 [Value.string { data := #[] }, Value.int IntKind.i64 0]]) (fun g2 => []) (fun g2 => by kernel_rfl) (fun g2 => by kernel_rfl) (fun g2 => trivial) fun g2 => ?_
  refine wpr_nil ?_
  refine nx_then ?_
  refine wpc_seq ?_
  refine wpc_region [0, 1, 2, 3, 4, 5, 6] (by kernel_rfl) ?_
  refine wpr_run (l₂ := []) true [0, 1, 2, 3, 4, 5, 6] [0, 0, 1, 1] [(2, Value.pointer (some { block := g2, off := 0 }))] [Ch.blk g1 35 [Value.string (mkS l), Value.int IntKind.i64 k], Ch.blk g2 35 [Value.string (mkS l), Value.int IntKind.i64 (↑l.length : Int)]] [] (by kernel_rfl) (by kernel_rfl) trivial ?_
  refine wpr_nil ?_
  refine nx_then ?_
  refine wpc_ret ?_
  refine nx_end (hp' := []) (rest := [Ch.blk g1 35 [Value.string (mkS l), Value.int IntKind.i64 k], Ch.blk g2 35 [Value.string (mkS l), Value.int IntKind.i64 (↑l.length : Int)]]) [1, 1] ((Value.agg #[Value.string (mkS l), Value.int IntKind.i64 (↑l.length : Int)])) (by kernel_rfl) (by kernel_rfl) (give [] (by kernel_rfl)) (by first | ((repeat (first | exact trivial | refine ⟨trivial, ?_⟩)); done) | assumption) ?_ (.inr rfl)
  exact ⟨rfl, rfl⟩
theorem RAppend (l m : List UInt8) (k : Int) (hl : l.length + m.length ≤ 1099511627776) : Does Try.prog 18 [.agg #[.string (mkS l), .int .i64 k], .string (mkS m)] [] (fun v hp' => v = .agg #[.string (mkS (l ++ m)), .int .i64 k] ∧ hp' = []) := by
  refine fn_enter Try.func18 rfl 12 rfl fun w0 h0 => ?_
  refine wpc_seq ?_
  refine wpc_region [0, 1] (by kernel_rfl) ?_
  refine wpr_new (l₂ := [1]) true [0] [] (fun g1 => [(2, Value.pointer (some { block := g1, off := 0 })), (1, Value.string (mkS m))]) (fun g1 => [Ch.blk g1 35 [Value.string (mkS l), Value.int IntKind.i64 k]]) (fun g1 => []) (fun g1 => by kernel_rfl) (fun g1 => by kernel_rfl) (fun g1 => trivial) fun g1 => ?_
  refine wpr_new (l₂ := []) true [1] [] (fun g2 => [(4, Value.pointer (some { block := g2, off := 0 })), (2, Value.pointer (some { block := g1, off := 0 })), (1, Value.string (mkS m))]) (fun g2 => [Ch.blk g1 35 [Value.string (mkS l), Value.int IntKind.i64 k], Ch.blk g2 35 [Value.string { data := #[] }, Value.int IntKind.i64 0]]) (fun g2 => []) (fun g2 => by kernel_rfl) (fun g2 => by kernel_rfl) (fun g2 => trivial) fun g2 => ?_
  refine wpr_nil ?_
  refine nx_then ?_
  refine wpc_seq ?_
  refine wpc_region [0, 1, 2, 3, 4, 5, 6, 7] (by kernel_rfl) ?_
  refine wpr_run (l₂ := []) true [0, 1, 2, 3, 4, 5, 6, 7] [0, 0, 1, 1] [(4, Value.pointer (some { block := g2, off := 0 }))] ([Ch.blk g1 35 [Value.string (mkS l), Value.int IntKind.i64 k], Ch.blk g2 35 [Value.string (mkS (l ++ m)), Value.int IntKind.i64 k]]) ([l.length + m.length ≤ 9223372036854775807]) (by kernel_rfl) (by kernel_rfl) ⟨by omega, trivial⟩ ?_
  refine wpr_nil ?_
  refine nx_then ?_
  refine wpc_ret ?_
  refine nx_end (hp' := []) (rest := ([Ch.blk g1 35 [Value.string (mkS l), Value.int IntKind.i64 k], Ch.blk g2 35 [Value.string (mkS (l ++ m)), Value.int IntKind.i64 k]])) [1, 1] ((Value.agg #[Value.string (mkS (l ++ m)), Value.int IntKind.i64 k])) (by kernel_rfl) (by kernel_rfl) (give [] (by kernel_rfl)) (by first | ((repeat (first | exact trivial | refine ⟨trivial, ?_⟩)); done) | assumption) ?_ (.inr rfl)
  exact ⟨rfl, rfl⟩
theorem RLoose (l : List UInt8) (k : Int) (hk : 0 ≤ k) (hk2 : k ≤ l.length) (hl : l.length ≤ 1099511627776) : Does Try.prog 20 [.agg #[.string (mkS l), .int .i64 k]] [] (fun v hp' => v = .int .i64 (l.length - k) ∧ hp' = []) := by
  refine fn_enter Try.func20 rfl 9 rfl fun w0 h0 => ?_
  refine wpc_seq ?_
  refine wpc_region [0, 1] (by kernel_rfl) ?_
  refine wpr_new (l₂ := [1]) true [0] [] (fun g1 => [(1, Value.pointer (some { block := g1, off := 0 }))]) (fun g1 => [Ch.blk g1 35 [Value.string (mkS l), Value.int IntKind.i64 k]]) (fun g1 => []) (fun g1 => by kernel_rfl) (fun g1 => by kernel_rfl) (fun g1 => trivial) fun g1 => ?_
  refine wpr_run (l₂ := []) true [1] [] [(2, Value.int IntKind.i64 0), (1, Value.pointer (some { block := g1, off := 0 }))] [Ch.blk g1 35 [Value.string (mkS l), Value.int IntKind.i64 k]] [] (by kernel_rfl) (by kernel_rfl) trivial ?_
  refine wpr_nil ?_
  refine nx_then ?_
  refine wpc_seq ?_
  refine wpc_region [0, 1, 2, 3, 4, 5, 6] (by kernel_rfl) ?_
  refine wpr_run (l₂ := []) true [0, 1, 2, 3, 4, 5, 6] [0, 0] [(2, Value.int IntKind.i64 ((↑l.length : Int) - k))] [Ch.blk g1 35 [Value.string (mkS l), Value.int IntKind.i64 k]] [inI64 ((↑l.length : Int) - k)] (by kernel_rfl) (by kernel_rfl) ⟨by unfold inI64; omega, trivial⟩ ?_
  refine wpr_nil ?_
  refine nx_then ?_
  refine wpc_ret ?_
  refine nx_end (hp' := []) (rest := [Ch.blk g1 35 [Value.string (mkS l), Value.int IntKind.i64 k]]) [] ((Value.int IntKind.i64 ((↑l.length : Int) - k))) (by kernel_rfl) (by kernel_rfl) (give [] (by kernel_rfl)) (by first | ((repeat (first | exact trivial | refine ⟨trivial, ?_⟩)); done) | assumption) ?_ (.inr rfl)
  exact ⟨rfl, rfl⟩
theorem RCrash (l : List UInt8) (k keep : Int) (hs : 0 ≤ k) (hs2 : k ≤ l.length) (hl : l.length ≤ 1099511627776) (K : Nat) (hK : (K : Int) = k + max 0 (min keep (l.length - k))) : Does Try.prog 14 [.agg #[.string (mkS l), .int .i64 k], .int .i64 keep] [] (fun v hp' => v = .agg #[.string (mkS (l.take K)), .int .i64 K] ∧ hp' = []) := by
  refine fn_enter Try.func14 rfl 24 rfl fun w0 h0 => ?_
  refine wpc_seq ?_
  refine wpc_region [0, 1] (by kernel_rfl) ?_
  refine wpr_new (l₂ := [1]) true [0] [] (fun g1 => [(2, Value.pointer (some { block := g1, off := 0 })), (1, Value.int IntKind.i64 keep)]) (fun g1 => [Ch.blk g1 35 [Value.string (mkS l), Value.int IntKind.i64 k]]) (fun g1 => []) (fun g1 => by kernel_rfl) (fun g1 => by kernel_rfl) (fun g1 => trivial) fun g1 => ?_
  refine wpr_new (l₂ := []) true [1] [] (fun g2 => [(4, Value.pointer (some { block := g2, off := 0 })), (2, Value.pointer (some { block := g1, off := 0 })), (1, Value.int IntKind.i64 keep)]) (fun g2 => [Ch.blk g1 35 [Value.string (mkS l), Value.int IntKind.i64 k], Ch.blk g2 35 [Value.string { data := #[] }, Value.int IntKind.i64 0]]) (fun g2 => []) (fun g2 => by kernel_rfl) (fun g2 => by kernel_rfl) (fun g2 => trivial) fun g2 => ?_
  refine wpr_nil ?_
  refine nx_then ?_
  refine wpc_seq ?_
  refine wpc_region [0, 1, 2, 3, 4, 5, 6, 7, 8, 9, 10, 11, 12] (by kernel_rfl) ?_
  refine wpr_run (l₂ := []) true [0, 1, 2, 3, 4, 5, 6, 7, 8, 9, 10, 11, 12] [0, 0, 0] ([(5, Value.int IntKind.i64 (k + if (if (↑l.length : Int) - k < keep then (↑l.length : Int) - k else keep) > 0 then if (↑l.length : Int) - k < keep then (↑l.length : Int) - k else keep else 0)), (4, Value.pointer (some { block := g2, off := 0 })), (2, Value.pointer (some { block := g1, off := 0 }))]) [Ch.blk g1 35 [Value.string (mkS l), Value.int IntKind.i64 k], Ch.blk g2 35 [Value.string { data := #[] }, Value.int IntKind.i64 0]] ([inI64 ((↑l.length : Int) - k), inI64 (k + if (if (↑l.length : Int) - k < keep then (↑l.length : Int) - k else keep) > 0 then if (↑l.length : Int) - k < keep then (↑l.length : Int) - k else keep else 0)]) (by kernel_rfl) (by kernel_rfl) ⟨by unfold inI64; omega, by unfold inI64; omega, trivial⟩ ?_
  refine wpr_nil ?_
  refine nx_then ?_
  refine wpc_seq ?_
  refine wpc_region [0, 1, 2, 3, 4, 5, 6] (by kernel_rfl) ?_
  refine wpr_run (l₂ := []) true [0, 1, 2, 3, 4, 5, 6] [0, 1, 1] [(4, Value.pointer (some { block := g2, off := 0 }))] ([Ch.blk g1 35 [Value.string (mkS l), Value.int IntKind.i64 k], Ch.blk g2 35 [Value.string (mkS (List.take ((k + if (if (↑l.length : Int) - k < keep then (↑l.length : Int) - k else keep) > 0 then if (↑l.length : Int) - k < keep then (↑l.length : Int) - k else keep else 0) - 0).toNat (List.drop (Int.toNat 0) l))), Value.int IntKind.i64 (k + if (if (↑l.length : Int) - k < keep then (↑l.length : Int) - k else keep) > 0 then if (↑l.length : Int) - k < keep then (↑l.length : Int) - k else keep else 0)]]) ([(0 ≤ k + if (if (↑l.length : Int) - k < keep then (↑l.length : Int) - k else keep) > 0 then if (↑l.length : Int) - k < keep then (↑l.length : Int) - k else keep else 0) ∧ (k + if (if (↑l.length : Int) - k < keep then (↑l.length : Int) - k else keep) > 0 then if (↑l.length : Int) - k < keep then (↑l.length : Int) - k else keep else 0) ≤ (↑l.length : Int)]) (by kernel_rfl) (by kernel_rfl) ⟨by omega, trivial⟩ ?_
  refine wpr_nil ?_
  refine nx_then ?_
  refine wpc_ret ?_
  simp only [minmax, ← hK, Int.sub_zero, Int.toNat_natCast, Int.toNat_zero, List.drop_zero]
  refine nx_end (hp' := []) (rest := [Ch.blk g1 35 [Value.string (mkS l), Value.int IntKind.i64 k], Ch.blk g2 35 [Value.string (mkS (List.take K l)), Value.int IntKind.i64 (↑K : Int)]]) [1, 1] ((Value.agg #[Value.string (mkS (List.take K l)), Value.int IntKind.i64 (↑K : Int)])) (by kernel_rfl) (by kernel_rfl) (give [] (by kernel_rfl)) (by first | ((repeat (first | exact trivial | refine ⟨trivial, ?_⟩)); done) | assumption) ?_ (.inr rfl)
  exact ⟨rfl, rfl⟩
theorem RCut (l : List UInt8) (k : Int) (n : Nat) (hn : n ≤ l.length) (hl : l.length ≤ 1099511627776) : Does Try.prog 16 [.agg #[.string (mkS l), .int .i64 k], .int .i64 n] [] (fun v hp' => v = .tuple #[.agg #[.string (mkS (l.take n)), .int .i64 (min k n)], .bool true] ∧ hp' = []) := by
  refine fn_enter Try.func16 rfl 25 rfl fun w0 h0 => ?_
  refine wpc_seq ?_
  refine wpc_region [0, 1, 2] (by kernel_rfl) ?_
  refine wpr_new (l₂ := [1, 2]) true [0] [] (fun g1 => [(2, Value.pointer (some { block := g1, off := 0 })), (1, Value.int IntKind.i64 (↑n : Int))]) (fun g1 => [Ch.blk g1 35 [Value.string (mkS l), Value.int IntKind.i64 k]]) (fun g1 => []) (fun g1 => by kernel_rfl) (fun g1 => by kernel_rfl) (fun g1 => trivial) fun g1 => ?_
  refine wpr_new (l₂ := [2]) true [1] [] (fun g2 => [(4, Value.pointer (some { block := g2, off := 0 })), (2, Value.pointer (some { block := g1, off := 0 })), (1, Value.int IntKind.i64 (↑n : Int))]) (fun g2 => [Ch.blk g1 35 [Value.string (mkS l), Value.int IntKind.i64 k], Ch.blk g2 35 [Value.string { data := #[] }, Value.int IntKind.i64 0]]) (fun g2 => []) (fun g2 => by kernel_rfl) (fun g2 => by kernel_rfl) (fun g2 => trivial) fun g2 => ?_
  refine wpr_run (l₂ := []) true [2] [] [(5, Value.bool false), (4, Value.pointer (some { block := g2, off := 0 })), (2, Value.pointer (some { block := g1, off := 0 })), (1, Value.int IntKind.i64 (↑n : Int))] [Ch.blk g1 35 [Value.string (mkS l), Value.int IntKind.i64 k], Ch.blk g2 35 [Value.string { data := #[] }, Value.int IntKind.i64 0]] [] (by kernel_rfl) (by kernel_rfl) trivial ?_
  refine wpr_nil ?_
  refine nx_then ?_
  refine wpc_seq ?_
  refine wpc_seq ?_
  refine wpc_region [0, 1, 2, 3, 4, 5, 6, 7, 8] (by kernel_rfl) ?_
  refine wpr_run (l₂ := []) true [0, 1, 2, 3, 4, 5, 6, 7, 8] [0] [(14, Value.bool (decide ((↑n : Int) > (↑l.length : Int)))), (5, Value.bool false), (4, Value.pointer (some { block := g2, off := 0 })), (2, Value.pointer (some { block := g1, off := 0 })), (1, Value.int IntKind.i64 (↑n : Int))] [Ch.blk g1 35 [Value.string (mkS l), Value.int IntKind.i64 k], Ch.blk g2 35 [Value.string { data := #[] }, Value.int IntKind.i64 0]] [] (by kernel_rfl) (by kernel_rfl) trivial ?_
  refine wpr_nil ?_
  refine nx_then ?_
  refine wpc_if (((↑n : Int) > (↑l.length : Int))) (by kernel_rfl) (fun h => ?_) (fun h => ?_)
  · omega
  · refine wpc_skip ?_
    refine nx_then ?_
    refine wpc_seq ?_
    refine wpc_draw (by kernel_rfl) [Ch.blk g1 35 [Value.string (mkS l), Value.int IntKind.i64 k]] (sub_of [0] (by kernel_rfl)) 11 (by kernel_rfl) ?_
    refine wpa_take true [(0, []), (1, [0]), (2, []), (3, []), (4, []), (5, [0]), (6, []), (7, []), (8, [])] [(24, Value.agg #[Value.string (mkS (List.take ((↑n : Int) - 0).toNat (List.drop (Int.toNat 0) l))), Value.int IntKind.i64 (if (↑n : Int) < k then (↑n : Int) else k)]), (5, Value.bool false), (4, Value.pointer (some { block := g2, off := 0 }))] (#[true, true, true, true, true, true, true, true, true, false, false]) [0 ≤ (↑n : Int) ∧ (↑n : Int) ≤ (↑l.length : Int)] (n := 2) (by kernel_rfl) (by kernel_rfl) (by kernel_rfl) ⟨by omega, trivial⟩ ?_
    refine wpa_one (n := 1) true 9 [1, 1] [(5, Value.bool false), (4, Value.pointer (some { block := g2, off := 0 }))] [Ch.blk g1 35 [Value.string (mkS l), Value.int IntKind.i64 k], Ch.blk g2 35 [Value.string (mkS (List.take ((↑n : Int) - 0).toNat (List.drop (Int.toNat 0) l))), Value.int IntKind.i64 (if (↑n : Int) < k then (↑n : Int) else k)]] [] (by kernel_rfl) (by kernel_rfl) (by kernel_rfl) trivial (sub_of [0] (by kernel_rfl)) ?_
    refine wpa_take true [(10, [])] [(5, Value.bool true), (4, Value.pointer (some { block := g2, off := 0 }))] (#[true, true, true, true, true, true, true, true, true, true, true]) [] (n := 0) (by kernel_rfl) (by kernel_rfl) (by kernel_rfl) trivial ?_
    refine wpa_done 0 (by kernel_rfl) ?_
    refine nx_then ?_
    refine wpc_ret ?_
    simp only [minE, Int.sub_zero, Int.toNat_natCast, Int.toNat_zero, List.drop_zero]
    refine nx_end (hp' := []) (rest := [Ch.blk g1 35 [Value.string (mkS l), Value.int IntKind.i64 k], Ch.blk g2 35 [Value.string (mkS (List.take n l)), Value.int IntKind.i64 (min k (↑n : Int))]]) [1, 1] ((Value.tuple #[Value.agg #[Value.string (mkS (List.take n l)), Value.int IntKind.i64 (min k (↑n : Int))], Value.bool true])) (by kernel_rfl) (by kernel_rfl) (give [] (by kernel_rfl)) (by first | ((repeat (first | exact trivial | refine ⟨trivial, ?_⟩)); done) | assumption) ?_ (.inr rfl)
    exact ⟨rfl, rfl⟩
theorem RCut_bad (l : List UInt8) (k n : Int) (hn : n < 0 ∨ (l.length : Int) < n) : Does Try.prog 16 [.agg #[.string (mkS l), .int .i64 k], .int .i64 n] [] (fun v hp' => v = .tuple #[.agg #[.string (mkS l), .int .i64 k], .bool false] ∧ hp' = []) := by
  refine fn_enter Try.func16 rfl 25 rfl fun w0 h0 => ?_
  refine wpc_seq ?_
  refine wpc_region [0, 1, 2] (by kernel_rfl) ?_
  refine wpr_new (l₂ := [1, 2]) true [0] [] (fun g1 => [(2, Value.pointer (some { block := g1, off := 0 })), (1, Value.int IntKind.i64 n)]) (fun g1 => [Ch.blk g1 35 [Value.string (mkS l), Value.int IntKind.i64 k]]) (fun g1 => []) (fun g1 => by kernel_rfl) (fun g1 => by kernel_rfl) (fun g1 => trivial) fun g1 => ?_
  refine wpr_new (l₂ := [2]) true [1] [] (fun g2 => [(4, Value.pointer (some { block := g2, off := 0 })), (2, Value.pointer (some { block := g1, off := 0 })), (1, Value.int IntKind.i64 n)]) (fun g2 => [Ch.blk g1 35 [Value.string (mkS l), Value.int IntKind.i64 k], Ch.blk g2 35 [Value.string { data := #[] }, Value.int IntKind.i64 0]]) (fun g2 => []) (fun g2 => by kernel_rfl) (fun g2 => by kernel_rfl) (fun g2 => trivial) fun g2 => ?_
  refine wpr_run (l₂ := []) true [2] [] [(5, Value.bool false), (4, Value.pointer (some { block := g2, off := 0 })), (2, Value.pointer (some { block := g1, off := 0 })), (1, Value.int IntKind.i64 n)] [Ch.blk g1 35 [Value.string (mkS l), Value.int IntKind.i64 k], Ch.blk g2 35 [Value.string { data := #[] }, Value.int IntKind.i64 0]] [] (by kernel_rfl) (by kernel_rfl) trivial ?_
  refine wpr_nil ?_
  refine nx_then ?_
  refine wpc_seq ?_
  refine wpc_seq ?_
  refine wpc_region [0, 1, 2, 3, 4, 5, 6, 7, 8] (by kernel_rfl) ?_
  refine wpr_run (l₂ := [3, 4, 5, 6, 7, 8]) true [0, 1, 2] [] [(8, Value.bool (decide (n < 0))), (5, Value.bool false), (4, Value.pointer (some { block := g2, off := 0 })), (2, Value.pointer (some { block := g1, off := 0 })), (1, Value.int IntKind.i64 n)] [Ch.blk g1 35 [Value.string (mkS l), Value.int IntKind.i64 k], Ch.blk g2 35 [Value.string { data := #[] }, Value.int IntKind.i64 0]] [] (by kernel_rfl) (by kernel_rfl) trivial ?_
  refine wpr_casep 8 ((n < 0)) (by kernel_rfl) (fun h => ?_) (fun h => ?_)
  · refine wpr_run (l₂ := []) true [3, 4, 5, 6, 7, 8] [] [(14, Value.bool true), (5, Value.bool false), (4, Value.pointer (some { block := g2, off := 0 })), (2, Value.pointer (some { block := g1, off := 0 })), (1, Value.int IntKind.i64 n)] [Ch.blk g1 35 [Value.string (mkS l), Value.int IntKind.i64 k], Ch.blk g2 35 [Value.string { data := #[] }, Value.int IntKind.i64 0]] [] (by kernel_rfl) (by kernel_rfl) trivial ?_
    refine wpr_nil ?_
    refine nx_then ?_
    refine wpc_true (by kernel_rfl) ?_
    refine wpc_seq ?_
    refine wpc_region [0, 1, 2] (by kernel_rfl) ?_
    refine wpr_run (l₂ := []) true [0, 1, 2] [0, 0, 1, 1] [(5, Value.bool false), (4, Value.pointer (some { block := g2, off := 0 })), (2, Value.pointer (some { block := g1, off := 0 })), (1, Value.int IntKind.i64 n)] [Ch.blk g1 35 [Value.string (mkS l), Value.int IntKind.i64 k], Ch.blk g2 35 [Value.string (mkS l), Value.int IntKind.i64 k]] [] (by kernel_rfl) (by kernel_rfl) trivial ?_
    refine wpr_nil ?_
    refine nx_then ?_
    refine wpc_ret ?_
    refine nx_then_ret ?_
    refine nx_end (hp' := []) (rest := [Ch.blk g1 35 [Value.string (mkS l), Value.int IntKind.i64 k], Ch.blk g2 35 [Value.string (mkS l), Value.int IntKind.i64 k]]) [1, 1] ((Value.tuple #[Value.agg #[Value.string (mkS l), Value.int IntKind.i64 k], Value.bool false])) (by kernel_rfl) (by kernel_rfl) (give [] (by kernel_rfl)) (by first | ((repeat (first | exact trivial | refine ⟨trivial, ?_⟩)); done) | assumption) ?_ (.inr rfl)
    exact ⟨rfl, rfl⟩
  · refine wpr_run (l₂ := []) true [3, 4, 5, 6, 7, 8] [0] [(14, Value.bool (decide (n > (↑l.length : Int)))), (5, Value.bool false), (4, Value.pointer (some { block := g2, off := 0 })), (2, Value.pointer (some { block := g1, off := 0 })), (1, Value.int IntKind.i64 n)] [Ch.blk g1 35 [Value.string (mkS l), Value.int IntKind.i64 k], Ch.blk g2 35 [Value.string { data := #[] }, Value.int IntKind.i64 0]] [] (by kernel_rfl) (by kernel_rfl) trivial ?_
    refine wpr_nil ?_
    refine nx_then ?_
    refine wpc_if ((n > (↑l.length : Int))) (by kernel_rfl) (fun h2 => ?_) (fun h2 => ?_)
    · refine wpc_seq ?_
      refine wpc_region [0, 1, 2] (by kernel_rfl) ?_
      refine wpr_run (l₂ := []) true [0, 1, 2] [0, 0, 1, 1] [(5, Value.bool false), (4, Value.pointer (some { block := g2, off := 0 })), (2, Value.pointer (some { block := g1, off := 0 })), (1, Value.int IntKind.i64 n)] [Ch.blk g1 35 [Value.string (mkS l), Value.int IntKind.i64 k], Ch.blk g2 35 [Value.string (mkS l), Value.int IntKind.i64 k]] [] (by kernel_rfl) (by kernel_rfl) trivial ?_
      refine wpr_nil ?_
      refine nx_then ?_
      refine wpc_ret ?_
      refine nx_then_ret ?_
      refine nx_end (hp' := []) (rest := [Ch.blk g1 35 [Value.string (mkS l), Value.int IntKind.i64 k], Ch.blk g2 35 [Value.string (mkS l), Value.int IntKind.i64 k]]) [1, 1] ((Value.tuple #[Value.agg #[Value.string (mkS l), Value.int IntKind.i64 k], Value.bool false])) (by kernel_rfl) (by kernel_rfl) (give [] (by kernel_rfl)) (by first | ((repeat (first | exact trivial | refine ⟨trivial, ?_⟩)); done) | assumption) ?_ (.inr rfl)
      exact ⟨rfl, rfl⟩
    · omega
end Go.Proofs.Ytolmjhhldbnkdaa
