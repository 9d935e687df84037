import Derived.Test.YtgkcodkeikaeeaaProg
import Derived.Test.YtgkcodkeikaeeaaX12
namespace Go.Proofs.Ytgkcodkeikaeeaa
open Go Go.Sx
set_option linter.unusedVariables false
set_option linter.unusedSimpArgs false

theorem fold_spec (n : Int) (h1 : -9223372036854775808 ≤ n) (h2 : n ≤ 9223372036854775807) : Does Try.prog 27 [.int .i64 n] [] (fun v hp' => v = .int .u64 (foldN n) ∧ hp' = []) := by
  refine fn_enter Try.func27 rfl 10 rfl fun w0 h0 => ?_
  refine wpc_seq ?_
  refine wpc_region [0] (by kernel_rfl) ?_
  refine wpr_run (l₂ := []) true [0] [] [(2, Value.int IntKind.u64 0), (0, Value.int IntKind.i64 n)] [] [] (by kernel_rfl) (by kernel_rfl) trivial ?_
  refine wpr_nil ?_
  refine nx_then ?_
  refine wpc_seq ?_
  refine wpc_region [0, 1, 2, 3, 4, 5, 6, 7] (by kernel_rfl) ?_
  refine wpr_run (l₂ := []) true [0, 1, 2, 3, 4, 5, 6, 7] [] [(2, Value.int IntKind.u64 (IntKind.u64.wrap (↑(BitVec.ofInt IntKind.u64.bits (IntKind.u64.wrap (IntKind.u64.wrap n * 2 ^ min (Int.toNat 1) IntKind.u64.bits)) ^^^ BitVec.ofInt IntKind.u64.bits (IntKind.u64.wrap (n.fdiv (2 ^ min (Int.toNat 63) IntKind.i64.bits)))).toNat : Int)))] [] [(0 : Int) ≤ (1 : Int), (0 : Int) ≤ (63 : Int)] (by kernel_rfl) (by kernel_rfl) ⟨by omega, by omega, trivial⟩ ?_
  refine wpr_nil ?_
  refine nx_then ?_
  refine wpc_ret ?_
  refine nx_end (hp' := []) (rest := []) [] ((Value.int IntKind.u64 (IntKind.u64.wrap (↑(BitVec.ofInt IntKind.u64.bits (IntKind.u64.wrap (IntKind.u64.wrap n * 2 ^ min (Int.toNat 1) IntKind.u64.bits)) ^^^ BitVec.ofInt IntKind.u64.bits (IntKind.u64.wrap (n.fdiv (2 ^ min (Int.toNat 63) IntKind.i64.bits)))).toNat : Int)))) (by kernel_rfl) (by kernel_rfl) give_all (by first | ((repeat (first | exact trivial | refine ⟨trivial, ?_⟩)); done) | assumption) ?_ (.inr rfl)
  exact ⟨congrArg _ (fold_math n h1 h2), rfl⟩
theorem unfold_spec (n : Int) (h1 : 0 ≤ n) (h2 : n < 18446744073709551616) : Does Try.prog 42 [.int .u64 n] [] (fun v hp' => v = .int .i64 (unfoldN n) ∧ hp' = []) := by
  refine fn_enter Try.func42 rfl 11 rfl fun w0 h0 => ?_
  refine wpc_seq ?_
  refine wpc_region [0] (by kernel_rfl) ?_
  refine wpr_run (l₂ := []) true [0] [] [(2, Value.int IntKind.i64 0), (0, Value.int IntKind.u64 n)] [] [] (by kernel_rfl) (by kernel_rfl) trivial ?_
  refine wpr_nil ?_
  refine nx_then ?_
  refine wpc_seq ?_
  refine wpc_region [0, 1, 2, 3, 4, 5, 6, 7, 8] (by kernel_rfl) ?_
  refine wpr_run (l₂ := []) true [0, 1, 2, 3, 4, 5, 6, 7, 8] [] [(2, Value.int IntKind.i64 (IntKind.i64.wrap (↑(BitVec.ofInt IntKind.i64.bits (IntKind.i64.wrap (n.fdiv (2 ^ min (Int.toNat 1) IntKind.u64.bits))) ^^^ BitVec.ofInt IntKind.i64.bits (IntKind.i64.wrap (0 - IntKind.i64.wrap (IntKind.u64.wrap (↑(BitVec.ofInt IntKind.u64.bits n &&& BitVec.ofInt IntKind.u64.bits 1).toNat : Int))))).toNat : Int)))] [] [(0 : Int) ≤ (1 : Int)] (by kernel_rfl) (by kernel_rfl) ⟨by omega, trivial⟩ ?_
  refine wpr_nil ?_
  refine nx_then ?_
  refine wpc_ret ?_
  refine nx_end (hp' := []) (rest := []) [] ((Value.int IntKind.i64 (IntKind.i64.wrap (↑(BitVec.ofInt IntKind.i64.bits (IntKind.i64.wrap (n.fdiv (2 ^ min (Int.toNat 1) IntKind.u64.bits))) ^^^ BitVec.ofInt IntKind.i64.bits (IntKind.i64.wrap (0 - IntKind.i64.wrap (IntKind.u64.wrap (↑(BitVec.ofInt IntKind.u64.bits n &&& BitVec.ofInt IntKind.u64.bits 1).toNat : Int))))).toNat : Int)))) (by kernel_rfl) (by kernel_rfl) give_all (by first | ((repeat (first | exact trivial | refine ⟨trivial, ?_⟩)); done) | assumption) ?_ (.inr rfl)
  exact ⟨congrArg _ (unfold_math n h1 h2), rfl⟩
theorem rfold_spec (n : Int) (h1 : -9223372036854775808 ≤ n) (h2 : n ≤ 9223372036854775807) : Does Try.prog 28 [.int .i64 n] [] (fun v hp' => v = .int .u64 (foldN n) ∧ hp' = []) := by
  refine fn_enter Try.func28 rfl 14 rfl fun w0 h0 => ?_
  refine wpc_seq ?_
  refine wpc_region [0] (by kernel_rfl) ?_
  refine wpr_run (l₂ := []) true [0] [] [(2, Value.int IntKind.u64 0), (0, Value.int IntKind.i64 n)] [] [] (by kernel_rfl) (by kernel_rfl) trivial ?_
  refine wpr_nil ?_
  refine nx_then ?_
  refine wpc_seq ?_
  refine wpc_seq ?_
  refine wpc_region [0, 1] (by kernel_rfl) ?_
  refine wpr_run (l₂ := []) true [0, 1] [] [(4, Value.bool (decide (n < 0))), (2, Value.int IntKind.u64 0), (0, Value.int IntKind.i64 n)] [] [] (by kernel_rfl) (by kernel_rfl) trivial ?_
  refine wpr_nil ?_
  refine nx_then ?_
  refine wpc_if ((n < 0)) (by kernel_rfl) (fun h => ?_) (fun h => ?_)
  · refine wpc_seq ?_
    refine wpc_region [0, 1, 2, 3, 4, 5, 6] (by kernel_rfl) ?_
    refine wpr_run (l₂ := []) true [0, 1, 2, 3, 4, 5, 6] [] ([(2, Value.int IntKind.u64 (IntKind.u64.wrap (IntKind.u64.wrap (IntKind.u64.wrap (IntKind.i64.wrap (0 - (n + 1))) * 2) + 1))), (0, Value.int IntKind.i64 n)]) [] ([inI64 (n + (1 : Int))]) (by kernel_rfl) (by kernel_rfl) ⟨by unfold inI64; omega, trivial⟩ ?_
    refine wpr_nil ?_
    refine nx_then ?_
    refine wpc_ret ?_
    refine nx_then_ret ?_
    refine nx_end (hp' := []) (rest := []) [] ((Value.int IntKind.u64 (IntKind.u64.wrap (IntKind.u64.wrap (IntKind.u64.wrap (IntKind.i64.wrap (0 - (n + 1))) * 2) + 1)))) (by kernel_rfl) (by kernel_rfl) give_all (by first | ((repeat (first | exact trivial | refine ⟨trivial, ?_⟩)); done) | assumption) ?_ (.inr rfl)
    exact ⟨congrArg _ (by simp only [u64_wrap, i64_wrap, foldN]; rw [if_pos h]; split <;> omega), rfl⟩
  · refine wpc_skip ?_
    refine nx_then ?_
    refine wpc_seq ?_
    refine wpc_region [0, 1, 2, 3] (by kernel_rfl) ?_
    refine wpr_run (l₂ := []) true [0, 1, 2, 3] [] [(2, Value.int IntKind.u64 (IntKind.u64.wrap (IntKind.u64.wrap n * 2)))] [] [] (by kernel_rfl) (by kernel_rfl) trivial ?_
    refine wpr_nil ?_
    refine nx_then ?_
    refine wpc_ret ?_
    refine nx_end (hp' := []) (rest := []) [] ((Value.int IntKind.u64 (IntKind.u64.wrap (IntKind.u64.wrap n * 2)))) (by kernel_rfl) (by kernel_rfl) give_all (by first | ((repeat (first | exact trivial | refine ⟨trivial, ?_⟩)); done) | assumption) ?_ (.inr rfl)
    exact ⟨congrArg _ (by simp only [u64_wrap, foldN]; rw [if_neg h]; omega), rfl⟩
theorem runfold_spec (n : Int) (h1 : 0 ≤ n) (h2 : n < 18446744073709551616) : Does Try.prog 46 [.int .u64 n] [] (fun v hp' => v = .int .i64 (unfoldN n) ∧ hp' = []) := by
  refine fn_enter Try.func46 rfl 14 rfl fun w0 h0 => ?_
  have ht : n.tdiv 2 = n / 2 := Int.tdiv_eq_ediv_of_nonneg h1
  have hm : n.tmod 2 = n % 2 := Int.tmod_eq_emod_of_nonneg h1
  have hq0 : 0 ≤ n.tdiv 2 := by omega
  have hw1 : IntKind.i64.wrap (n.tdiv 2) = n / 2 := by rw [ht, i64_wrap]; split <;> omega
  have hw : IntKind.i64.wrap (0 - IntKind.i64.wrap (n.tdiv 2)) = - (n / 2) := by rw [hw1, i64_wrap]; split <;> omega
  refine wpc_seq ?_
  refine wpc_region [0] (by kernel_rfl) ?_
  refine wpr_run (l₂ := []) true [0] [] [(2, Value.int IntKind.i64 0), (0, Value.int IntKind.u64 n)] [] [] (by kernel_rfl) (by kernel_rfl) trivial ?_
  refine wpr_nil ?_
  refine nx_then ?_
  refine wpc_seq ?_
  refine wpc_seq ?_
  refine wpc_region [0, 1, 2] (by kernel_rfl) ?_
  refine wpr_run (l₂ := []) true [0, 1, 2] [] [(5, Value.bool (n.tmod 2 == 1)), (2, Value.int IntKind.i64 0), (0, Value.int IntKind.u64 n)] [] [(2 : Int) ≠ (0 : Int)] (by kernel_rfl) (by kernel_rfl) ⟨by omega, trivial⟩ ?_
  refine wpr_nil ?_
  refine nx_then ?_
  refine wpc_cond ((n.tmod 2 == 1)) (by kernel_rfl) (fun h => ?_) (fun h => ?_)
  · refine wpc_seq ?_
    refine wpc_region [0, 1, 2, 3, 4, 5] (by kernel_rfl) ?_
    refine wpr_run (l₂ := []) true [0, 1, 2, 3, 4, 5] [] [(2, Value.int IntKind.i64 (IntKind.i64.wrap (0 - IntKind.i64.wrap (n.tdiv 2)) - 1)), (0, Value.int IntKind.u64 n)] [] [(2 : Int) ≠ (0 : Int) ∧ (0 : Int) ≤ n.tdiv (2 : Int) ∧ n.tdiv (2 : Int) < (18446744073709551616 : Int), inI64 (IntKind.i64.wrap ((0 : Int) - IntKind.i64.wrap (n.tdiv (2 : Int))) - (1 : Int))] (by kernel_rfl) (by kernel_rfl) ⟨by omega, by unfold inI64; omega, trivial⟩ ?_
    refine wpr_nil ?_
    refine nx_then ?_
    refine wpc_ret ?_
    refine nx_then_ret ?_
    refine nx_end (hp' := []) (rest := []) [] ((Value.int IntKind.i64 (IntKind.i64.wrap (0 - IntKind.i64.wrap (n.tdiv 2)) - 1))) (by kernel_rfl) (by kernel_rfl) give_all (by first | ((repeat (first | exact trivial | refine ⟨trivial, ?_⟩)); done) | assumption) ?_ (.inr rfl)
    have h' : n % 2 = 1 := by rw [← hm]; simpa using h
    exact ⟨congrArg _ (by rw [hw, unfoldN, if_pos h']), rfl⟩
  · refine wpc_skip ?_
    refine nx_then ?_
    refine wpc_seq ?_
    refine wpc_region [0, 1, 2, 3] (by kernel_rfl) ?_
    refine wpr_run (l₂ := []) true [0, 1, 2, 3] [] [(2, Value.int IntKind.i64 (IntKind.i64.wrap (n.tdiv 2)))] [] [(2 : Int) ≠ (0 : Int) ∧ (0 : Int) ≤ n.tdiv (2 : Int) ∧ n.tdiv (2 : Int) < (18446744073709551616 : Int)] (by kernel_rfl) (by kernel_rfl) ⟨by omega, trivial⟩ ?_
    refine wpr_nil ?_
    refine nx_then ?_
    refine wpc_ret ?_
    refine nx_end (hp' := []) (rest := []) [] ((Value.int IntKind.i64 (IntKind.i64.wrap (n.tdiv 2)))) (by kernel_rfl) (by kernel_rfl) give_all (by first | ((repeat (first | exact trivial | refine ⟨trivial, ?_⟩)); done) | assumption) ?_ (.inr rfl)
    have h' : ¬ n % 2 = 1 := by rw [← hm]; simpa using h
    exact ⟨congrArg _ (by rw [hw1, unfoldN, if_neg h']), rfl⟩
end Go.Proofs.Ytgkcodkeikaeeaa
