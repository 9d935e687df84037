import Derived.Test.YtgkcodkeikaeeaaD7
import Derived.Test.YtgkcodkeikaeeaaX12
namespace Go.Proofs.Ytgkcodkeikaeeaa
open Go Go.Sx
set_option linter.unusedVariables false
set_option linter.unusedSimpArgs false

def UN (d : Nat) : Ch := .blk d 52 [.bool false, .string (mkS []), .int .i64 0, .int .i64 0]
theorem Err_nil : Does Try.prog 19 [.pointer none] [] (fun v hp' => v = .int .i64 1 ∧ hp' = []) := by
  refine fn_enter Try.func19 rfl 16 rfl fun w0 h0 => ?_
  refine wpc_seq ?_
  refine wpc_region [0] (by kernel_rfl) ?_
  refine wpr_run (l₂ := []) true [0] [] [(2, Value.int IntKind.i64 0), (0, Value.pointer none)] [] [] (by kernel_rfl) (by kernel_rfl) trivial ?_
  refine wpr_nil ?_
  refine nx_then ?_
  refine wpc_seq ?_
  refine wpc_seq ?_
  refine wpc_region [0, 1, 2, 3, 4, 5, 6, 7, 8] (by kernel_rfl) ?_
  refine wpr_run (l₂ := []) true [0, 1, 2, 3, 4, 5, 6, 7, 8] [] [(11, Value.bool true), (2, Value.int IntKind.i64 0), (0, Value.pointer none)] [] [] (by kernel_rfl) (by kernel_rfl) trivial ?_
  refine wpr_nil ?_
  refine nx_then ?_
  refine wpc_true (by kernel_rfl) ?_
  refine wpc_seq ?_
  refine wpc_region [0] (by kernel_rfl) ?_
  refine wpr_run (l₂ := []) true [0] [] [(2, Value.int IntKind.i64 1), (0, Value.pointer none)] [] [] (by kernel_rfl) (by kernel_rfl) trivial ?_
  refine wpr_nil ?_
  refine nx_then ?_
  refine wpc_ret ?_
  refine nx_then_ret ?_
  refine nx_end (hp' := []) (rest := []) [] ((Value.int IntKind.i64 1)) (by kernel_rfl) (by kernel_rfl) give_all (by first | ((repeat (first | exact trivial | refine ⟨trivial, ?_⟩)); done) | assumption) ?_ (.inr rfl)
  exact ⟨rfl, rfl⟩
theorem Err_un (d : Nat) : Does Try.prog 19 [.pointer (some ⟨d, 0, none⟩)] [UN d] (fun v hp' => v = .int .i64 1 ∧ hp' = [UN d]) := by
  refine fn_enter Try.func19 rfl 16 rfl fun w0 h0 => ?_
  unfold UN
  refine wpc_seq ?_
  refine wpc_region [0] (by kernel_rfl) ?_
  refine wpr_run (l₂ := []) true [0] [] [(2, Value.int IntKind.i64 0), (0, Value.pointer (some { block := d, off := 0 }))] [Ch.blk d 52 [Value.bool false, Value.string (mkS []), Value.int IntKind.i64 0, Value.int IntKind.i64 0]] [] (by kernel_rfl) (by kernel_rfl) trivial ?_
  refine wpr_nil ?_
  refine nx_then ?_
  refine wpc_seq ?_
  refine wpc_seq ?_
  refine wpc_region [0, 1, 2, 3, 4, 5, 6, 7, 8] (by kernel_rfl) ?_
  refine wpr_run (l₂ := []) true [0, 1, 2, 3, 4, 5, 6, 7, 8] [0] [(11, Value.bool true), (2, Value.int IntKind.i64 0), (0, Value.pointer (some { block := d, off := 0 }))] [Ch.blk d 52 [Value.bool false, Value.string (mkS []), Value.int IntKind.i64 0, Value.int IntKind.i64 0]] [] (by kernel_rfl) (by kernel_rfl) trivial ?_
  refine wpr_nil ?_
  refine nx_then ?_
  refine wpc_true (by kernel_rfl) ?_
  refine wpc_seq ?_
  refine wpc_region [0] (by kernel_rfl) ?_
  refine wpr_run (l₂ := []) true [0] [] [(2, Value.int IntKind.i64 1), (0, Value.pointer (some { block := d, off := 0 }))] [Ch.blk d 52 [Value.bool false, Value.string (mkS []), Value.int IntKind.i64 0, Value.int IntKind.i64 0]] [] (by kernel_rfl) (by kernel_rfl) trivial ?_
  refine wpr_nil ?_
  refine nx_then ?_
  refine wpc_ret ?_
  refine nx_then_ret ?_
  refine nx_end (hp' := [Ch.blk d 52 [Value.bool false, Value.string (mkS []), Value.int IntKind.i64 0, Value.int IntKind.i64 0]]) (rest := []) [] ((Value.int IntKind.i64 1)) (by kernel_rfl) (by kernel_rfl) give_all (by first | ((repeat (first | exact trivial | refine ⟨trivial, ?_⟩)); done) | assumption) ?_ (.inr rfl)
  exact ⟨rfl, rfl⟩
theorem At_nil : Does Try.prog 20 [.pointer none] [] (fun v hp' => v = .int .i64 0 ∧ hp' = []) := by
  refine fn_enter Try.func20 rfl 9 rfl fun w0 h0 => ?_
  refine wpc_seq ?_
  refine wpc_region [0] (by kernel_rfl) ?_
  refine wpr_run (l₂ := []) true [0] [] [(2, Value.int IntKind.i64 0), (0, Value.pointer none)] [] [] (by kernel_rfl) (by kernel_rfl) trivial ?_
  refine wpr_nil ?_
  refine nx_then ?_
  refine wpc_seq ?_
  refine wpc_seq ?_
  refine wpc_region [0, 1] (by kernel_rfl) ?_
  refine wpr_run (l₂ := []) true [0, 1] [] [(4, Value.bool true), (2, Value.int IntKind.i64 0), (0, Value.pointer none)] [] [] (by kernel_rfl) (by kernel_rfl) trivial ?_
  refine wpr_nil ?_
  refine nx_then ?_
  refine wpc_true (by kernel_rfl) ?_
  refine wpc_seq ?_
  refine wpc_region [0] (by kernel_rfl) ?_
  refine wpr_run (l₂ := []) true [0] [] [(2, Value.int IntKind.i64 0), (0, Value.pointer none)] [] [] (by kernel_rfl) (by kernel_rfl) trivial ?_
  refine wpr_nil ?_
  refine nx_then ?_
  refine wpc_ret ?_
  refine nx_then_ret ?_
  refine nx_end (hp' := []) (rest := []) [] ((Value.int IntKind.i64 0)) (by kernel_rfl) (by kernel_rfl) give_all (by first | ((repeat (first | exact trivial | refine ⟨trivial, ?_⟩)); done) | assumption) ?_ (.inr rfl)
  exact ⟨rfl, rfl⟩
theorem At_un (d : Nat) : Does Try.prog 20 [.pointer (some ⟨d, 0, none⟩)] [UN d] (fun v hp' => v = .int .i64 0 ∧ hp' = [UN d]) := by
  refine fn_enter Try.func20 rfl 9 rfl fun w0 h0 => ?_
  unfold UN
  refine wpc_seq ?_
  refine wpc_region [0] (by kernel_rfl) ?_
  refine wpr_run (l₂ := []) true [0] [] [(2, Value.int IntKind.i64 0), (0, Value.pointer (some { block := d, off := 0 }))] [Ch.blk d 52 [Value.bool false, Value.string (mkS []), Value.int IntKind.i64 0, Value.int IntKind.i64 0]] [] (by kernel_rfl) (by kernel_rfl) trivial ?_
  refine wpr_nil ?_
  refine nx_then ?_
  refine wpc_seq ?_
  refine wpc_seq ?_
  refine wpc_region [0, 1] (by kernel_rfl) ?_
  refine wpr_run (l₂ := []) true [0, 1] [] [(4, Value.bool false), (2, Value.int IntKind.i64 0), (0, Value.pointer (some { block := d, off := 0 }))] [Ch.blk d 52 [Value.bool false, Value.string (mkS []), Value.int IntKind.i64 0, Value.int IntKind.i64 0]] [] (by kernel_rfl) (by kernel_rfl) trivial ?_
  refine wpr_nil ?_
  refine nx_then ?_
  refine wpc_false (by kernel_rfl) ?_
  refine wpc_skip ?_
  refine nx_then ?_
  refine wpc_seq ?_
  refine wpc_region [0, 1, 2, 3, 4] (by kernel_rfl) ?_
  refine wpr_run (l₂ := []) true [0, 1, 2, 3, 4] [0] [(2, Value.int IntKind.i64 0)] [Ch.blk d 52 [Value.bool false, Value.string (mkS []), Value.int IntKind.i64 0, Value.int IntKind.i64 0]] [] (by kernel_rfl) (by kernel_rfl) trivial ?_
  refine wpr_nil ?_
  refine nx_then ?_
  refine wpc_ret ?_
  refine nx_end (hp' := [Ch.blk d 52 [Value.bool false, Value.string (mkS []), Value.int IntKind.i64 0, Value.int IntKind.i64 0]]) (rest := []) [] ((Value.int IntKind.i64 0)) (by kernel_rfl) (by kernel_rfl) give_all (by first | ((repeat (first | exact trivial | refine ⟨trivial, ?_⟩)); done) | assumption) ?_ (.inr rfl)
  exact ⟨rfl, rfl⟩
theorem End_nil : Does Try.prog 22 [.pointer none] [] (fun v hp' => v = .int .i64 1 ∧ hp' = []) := by
  refine fn_enter Try.func22 rfl 19 rfl fun w0 h0 => ?_
  refine wpc_seq ?_
  refine wpc_region [0] (by kernel_rfl) ?_
  refine wpr_run (l₂ := []) true [0] [] [(2, Value.int IntKind.i64 0), (0, Value.pointer none)] [] [] (by kernel_rfl) (by kernel_rfl) trivial ?_
  refine wpr_nil ?_
  refine nx_then ?_
  refine wpc_seq ?_
  refine wpc_seq ?_
  refine wpc_region [0, 1, 2] (by kernel_rfl) ?_
  refine wpr_run (l₂ := [1, 2]) true [0] [] [(4, Value.pointer none), (2, Value.int IntKind.i64 0), (0, Value.pointer none)] [] [] (by kernel_rfl) (by kernel_rfl) trivial ?_
  refine wpr_call_all (dst := some 5) (by kernel_rfl) (Err_nil) give_all ?_
  rintro v hp' ⟨rfl, rfl⟩
  refine wpr_run (l₂ := []) true [2] [] [(3, Value.int IntKind.i64 1), (2, Value.int IntKind.i64 0), (0, Value.pointer none)] [] [] (by kernel_rfl) (by kernel_rfl) trivial ?_
  refine wpr_nil ?_
  refine nx_then ?_
  refine wpc_seq ?_
  refine wpc_region [0, 1] (by kernel_rfl) ?_
  refine wpr_run (l₂ := []) true [0, 1] [] [(7, Value.bool true), (3, Value.int IntKind.i64 1), (2, Value.int IntKind.i64 0), (0, Value.pointer none)] [] [] (by kernel_rfl) (by kernel_rfl) trivial ?_
  refine wpr_nil ?_
  refine nx_then ?_
  refine wpc_true (by kernel_rfl) ?_
  refine wpc_seq ?_
  refine wpc_region [0, 1] (by kernel_rfl) ?_
  refine wpr_run (l₂ := []) true [0, 1] [] [(2, Value.int IntKind.i64 1), (0, Value.pointer none)] [] [] (by kernel_rfl) (by kernel_rfl) trivial ?_
  refine wpr_nil ?_
  refine nx_then ?_
  refine wpc_ret ?_
  refine nx_then_ret ?_
  refine nx_end (hp' := []) (rest := []) [] ((Value.int IntKind.i64 1)) (by kernel_rfl) (by kernel_rfl) give_all (by first | ((repeat (first | exact trivial | refine ⟨trivial, ?_⟩)); done) | assumption) ?_ (.inr rfl)
  exact ⟨rfl, rfl⟩
theorem End_un (d : Nat) : Does Try.prog 22 [.pointer (some ⟨d, 0, none⟩)] [UN d] (fun v hp' => v = .int .i64 1 ∧ hp' = [UN d]) := by
  refine fn_enter Try.func22 rfl 19 rfl fun w0 h0 => ?_
  refine wpc_seq ?_
  refine wpc_region [0] (by kernel_rfl) ?_
  refine wpr_run (l₂ := []) true [0] [] [(2, Value.int IntKind.i64 0), (0, Value.pointer (some { block := d, off := 0 }))] [Ch.blk d 52 [Value.bool false, Value.string (mkS []), Value.int IntKind.i64 0, Value.int IntKind.i64 0]] [] (by kernel_rfl) (by kernel_rfl) trivial ?_
  refine wpr_nil ?_
  refine nx_then ?_
  refine wpc_seq ?_
  refine wpc_seq ?_
  refine wpc_region [0, 1, 2] (by kernel_rfl) ?_
  refine wpr_run (l₂ := [1, 2]) true [0] [] [(4, Value.pointer (some { block := d, off := 0 })), (2, Value.int IntKind.i64 0), (0, Value.pointer (some { block := d, off := 0 }))] [Ch.blk d 52 [Value.bool false, Value.string (mkS []), Value.int IntKind.i64 0, Value.int IntKind.i64 0]] [] (by kernel_rfl) (by kernel_rfl) trivial ?_
  refine wpr_call_all (dst := some 5) (by kernel_rfl) (Err_un d) give_all ?_
  rintro v hp' ⟨rfl, rfl⟩
  unfold UN
  refine wpr_run (l₂ := []) true [2] [] [(3, Value.int IntKind.i64 1), (2, Value.int IntKind.i64 0), (0, Value.pointer (some { block := d, off := 0 }))] [Ch.blk d 52 [Value.bool false, Value.string (mkS []), Value.int IntKind.i64 0, Value.int IntKind.i64 0]] [] (by kernel_rfl) (by kernel_rfl) trivial ?_
  refine wpr_nil ?_
  refine nx_then ?_
  refine wpc_seq ?_
  refine wpc_region [0, 1] (by kernel_rfl) ?_
  refine wpr_run (l₂ := []) true [0, 1] [] [(7, Value.bool true), (3, Value.int IntKind.i64 1), (2, Value.int IntKind.i64 0), (0, Value.pointer (some { block := d, off := 0 }))] [Ch.blk d 52 [Value.bool false, Value.string (mkS []), Value.int IntKind.i64 0, Value.int IntKind.i64 0]] [] (by kernel_rfl) (by kernel_rfl) trivial ?_
  refine wpr_nil ?_
  refine nx_then ?_
  refine wpc_true (by kernel_rfl) ?_
  refine wpc_seq ?_
  refine wpc_region [0, 1] (by kernel_rfl) ?_
  refine wpr_run (l₂ := []) true [0, 1] [] [(2, Value.int IntKind.i64 1), (0, Value.pointer (some { block := d, off := 0 }))] [Ch.blk d 52 [Value.bool false, Value.string (mkS []), Value.int IntKind.i64 0, Value.int IntKind.i64 0]] [] (by kernel_rfl) (by kernel_rfl) trivial ?_
  refine wpr_nil ?_
  refine nx_then ?_
  refine wpc_ret ?_
  refine nx_then_ret ?_
  refine nx_end (hp' := [Ch.blk d 52 [Value.bool false, Value.string (mkS []), Value.int IntKind.i64 0, Value.int IntKind.i64 0]]) (rest := []) [] ((Value.int IntKind.i64 1)) (by kernel_rfl) (by kernel_rfl) give_all (by first | ((repeat (first | exact trivial | refine ⟨trivial, ?_⟩)); done) | assumption) ?_ (.inr rfl)
  exact ⟨rfl, rfl⟩
theorem read_number_nil : Does Try.prog 29 [.pointer none, .func (.func 30) #[] #[]] [] (fun v hp' => v = .int .i64 0 ∧ hp' = []) := by
  refine fn_enter Try.func29 rfl 44 rfl fun w0 h0 => ?_
  refine wpc_seq ?_
  refine wpc_region [0] (by kernel_rfl) ?_
  refine wpr_run (l₂ := []) true [0] [] [(4, Value.int IntKind.i64 0), (0, Value.pointer none), (1, Value.func (Fn.func 30) #[] #[])] [] [] (by kernel_rfl) (by kernel_rfl) trivial ?_
  refine wpr_nil ?_
  refine nx_then ?_
  refine wpc_seq ?_
  refine wpc_region [0] (by kernel_rfl) ?_
  refine wpr_run (l₂ := []) true [0] [] [(5, Value.int IntKind.i64 0), (4, Value.int IntKind.i64 0), (0, Value.pointer none), (1, Value.func (Fn.func 30) #[] #[])] [] [] (by kernel_rfl) (by kernel_rfl) trivial ?_
  refine wpr_nil ?_
  refine nx_then ?_
  refine wpc_seq ?_
  refine wpc_seq ?_
  refine wpc_region [0, 1, 2] (by kernel_rfl) ?_
  refine wpr_run (l₂ := [1, 2]) true [0] [] [(9, Value.pointer none), (5, Value.int IntKind.i64 0), (4, Value.int IntKind.i64 0), (0, Value.pointer none), (1, Value.func (Fn.func 30) #[] #[])] [] [] (by kernel_rfl) (by kernel_rfl) trivial ?_
  refine wpr_call_all (dst := some 10) (by kernel_rfl) (Err_nil) give_all ?_
  rintro v hp' ⟨rfl, rfl⟩
  refine wpr_run (l₂ := []) true [2] [] [(11, Value.bool true), (5, Value.int IntKind.i64 0), (4, Value.int IntKind.i64 0), (0, Value.pointer none), (1, Value.func (Fn.func 30) #[] #[])] [] [] (by kernel_rfl) (by kernel_rfl) trivial ?_
  refine wpr_nil ?_
  refine nx_then ?_
  refine wpc_true (by kernel_rfl) ?_
  refine wpc_seq ?_
  refine wpc_region [0, 1] (by kernel_rfl) ?_
  refine wpr_run (l₂ := []) true [0, 1] [] [(4, Value.int IntKind.i64 0), (5, Value.int IntKind.i64 0), (0, Value.pointer none), (1, Value.func (Fn.func 30) #[] #[])] [] [] (by kernel_rfl) (by kernel_rfl) trivial ?_
  refine wpr_nil ?_
  refine nx_then ?_
  refine wpc_ret ?_
  refine nx_then_ret ?_
  refine nx_end (hp' := []) (rest := []) [] ((Value.int IntKind.i64 0)) (by kernel_rfl) (by kernel_rfl) give_all (by first | ((repeat (first | exact trivial | refine ⟨trivial, ?_⟩)); done) | assumption) ?_ (.inr rfl)
  exact ⟨rfl, rfl⟩
theorem read_number_un (d : Nat) : Does Try.prog 29 [.pointer (some ⟨d, 0, none⟩), .func (.func 30) #[] #[]] [UN d] (fun v hp' => v = .int .i64 0 ∧ hp' = [UN d]) := by
  refine fn_enter Try.func29 rfl 44 rfl fun w0 h0 => ?_
  refine wpc_seq ?_
  refine wpc_region [0] (by kernel_rfl) ?_
  refine wpr_run (l₂ := []) true [0] [] [(4, Value.int IntKind.i64 0), (0, Value.pointer (some { block := d, off := 0 })), (1, Value.func (Fn.func 30) #[] #[])] [Ch.blk d 52 [Value.bool false, Value.string (mkS []), Value.int IntKind.i64 0, Value.int IntKind.i64 0]] [] (by kernel_rfl) (by kernel_rfl) trivial ?_
  refine wpr_nil ?_
  refine nx_then ?_
  refine wpc_seq ?_
  refine wpc_region [0] (by kernel_rfl) ?_
  refine wpr_run (l₂ := []) true [0] [] [(5, Value.int IntKind.i64 0), (4, Value.int IntKind.i64 0), (0, Value.pointer (some { block := d, off := 0 })), (1, Value.func (Fn.func 30) #[] #[])] [Ch.blk d 52 [Value.bool false, Value.string (mkS []), Value.int IntKind.i64 0, Value.int IntKind.i64 0]] [] (by kernel_rfl) (by kernel_rfl) trivial ?_
  refine wpr_nil ?_
  refine nx_then ?_
  refine wpc_seq ?_
  refine wpc_seq ?_
  refine wpc_region [0, 1, 2] (by kernel_rfl) ?_
  refine wpr_run (l₂ := [1, 2]) true [0] [] [(9, Value.pointer (some { block := d, off := 0 })), (5, Value.int IntKind.i64 0), (4, Value.int IntKind.i64 0), (0, Value.pointer (some { block := d, off := 0 })), (1, Value.func (Fn.func 30) #[] #[])] [Ch.blk d 52 [Value.bool false, Value.string (mkS []), Value.int IntKind.i64 0, Value.int IntKind.i64 0]] [] (by kernel_rfl) (by kernel_rfl) trivial ?_
  refine wpr_call_all (dst := some 10) (by kernel_rfl) (Err_un d) give_all ?_
  rintro v hp' ⟨rfl, rfl⟩
  unfold UN
  refine wpr_run (l₂ := []) true [2] [] [(11, Value.bool true), (5, Value.int IntKind.i64 0), (4, Value.int IntKind.i64 0), (0, Value.pointer (some { block := d, off := 0 })), (1, Value.func (Fn.func 30) #[] #[])] [Ch.blk d 52 [Value.bool false, Value.string (mkS []), Value.int IntKind.i64 0, Value.int IntKind.i64 0]] [] (by kernel_rfl) (by kernel_rfl) trivial ?_
  refine wpr_nil ?_
  refine nx_then ?_
  refine wpc_true (by kernel_rfl) ?_
  refine wpc_seq ?_
  refine wpc_region [0, 1] (by kernel_rfl) ?_
  refine wpr_run (l₂ := []) true [0, 1] [] [(4, Value.int IntKind.i64 0), (5, Value.int IntKind.i64 0), (0, Value.pointer (some { block := d, off := 0 })), (1, Value.func (Fn.func 30) #[] #[])] [Ch.blk d 52 [Value.bool false, Value.string (mkS []), Value.int IntKind.i64 0, Value.int IntKind.i64 0]] [] (by kernel_rfl) (by kernel_rfl) trivial ?_
  refine wpr_nil ?_
  refine nx_then ?_
  refine wpc_ret ?_
  refine nx_then_ret ?_
  refine nx_end (hp' := [Ch.blk d 52 [Value.bool false, Value.string (mkS []), Value.int IntKind.i64 0, Value.int IntKind.i64 0]]) (rest := []) [] ((Value.int IntKind.i64 0)) (by kernel_rfl) (by kernel_rfl) give_all (by first | ((repeat (first | exact trivial | refine ⟨trivial, ?_⟩)); done) | assumption) ?_ (.inr rfl)
  exact ⟨rfl, rfl⟩
theorem read_bol1_nil : Does Try.prog 36 [.pointer none, .func (.func 37) #[] #[]] [] (fun v hp' => v = .bool false ∧ hp' = []) := by
  refine fn_enter Try.func36 rfl 44 rfl fun w0 h0 => ?_
  refine wpc_seq ?_
  refine wpc_region [0] (by kernel_rfl) ?_
  refine wpr_run (l₂ := []) true [0] [] [(4, Value.bool false), (0, Value.pointer none), (1, Value.func (Fn.func 37) #[] #[])] [] [] (by kernel_rfl) (by kernel_rfl) trivial ?_
  refine wpr_nil ?_
  refine nx_then ?_
  refine wpc_seq ?_
  refine wpc_region [0] (by kernel_rfl) ?_
  refine wpr_run (l₂ := []) true [0] [] [(5, Value.bool false), (4, Value.bool false), (0, Value.pointer none), (1, Value.func (Fn.func 37) #[] #[])] [] [] (by kernel_rfl) (by kernel_rfl) trivial ?_
  refine wpr_nil ?_
  refine nx_then ?_
  refine wpc_seq ?_
  refine wpc_seq ?_
  refine wpc_region [0, 1, 2] (by kernel_rfl) ?_
  refine wpr_run (l₂ := [1, 2]) true [0] [] [(9, Value.pointer none), (5, Value.bool false), (4, Value.bool false), (0, Value.pointer none), (1, Value.func (Fn.func 37) #[] #[])] [] [] (by kernel_rfl) (by kernel_rfl) trivial ?_
  refine wpr_call_all (dst := some 10) (by kernel_rfl) (Err_nil) give_all ?_
  rintro v hp' ⟨rfl, rfl⟩
  refine wpr_run (l₂ := []) true [2] [] [(11, Value.bool true), (5, Value.bool false), (4, Value.bool false), (0, Value.pointer none), (1, Value.func (Fn.func 37) #[] #[])] [] [] (by kernel_rfl) (by kernel_rfl) trivial ?_
  refine wpr_nil ?_
  refine nx_then ?_
  refine wpc_true (by kernel_rfl) ?_
  refine wpc_seq ?_
  refine wpc_region [0, 1] (by kernel_rfl) ?_
  refine wpr_run (l₂ := []) true [0, 1] [] [(4, Value.bool false), (5, Value.bool false), (0, Value.pointer none), (1, Value.func (Fn.func 37) #[] #[])] [] [] (by kernel_rfl) (by kernel_rfl) trivial ?_
  refine wpr_nil ?_
  refine nx_then ?_
  refine wpc_ret ?_
  refine nx_then_ret ?_
  refine nx_end (hp' := []) (rest := []) [] ((Value.bool false)) (by kernel_rfl) (by kernel_rfl) give_all (by first | ((repeat (first | exact trivial | refine ⟨trivial, ?_⟩)); done) | assumption) ?_ (.inr rfl)
  exact ⟨rfl, rfl⟩
theorem read_bol1_un (d : Nat) : Does Try.prog 36 [.pointer (some ⟨d, 0, none⟩), .func (.func 37) #[] #[]] [UN d] (fun v hp' => v = .bool false ∧ hp' = [UN d]) := by
  refine fn_enter Try.func36 rfl 44 rfl fun w0 h0 => ?_
  refine wpc_seq ?_
  refine wpc_region [0] (by kernel_rfl) ?_
  refine wpr_run (l₂ := []) true [0] [] [(4, Value.bool false), (0, Value.pointer (some { block := d, off := 0 })), (1, Value.func (Fn.func 37) #[] #[])] [Ch.blk d 52 [Value.bool false, Value.string (mkS []), Value.int IntKind.i64 0, Value.int IntKind.i64 0]] [] (by kernel_rfl) (by kernel_rfl) trivial ?_
  refine wpr_nil ?_
  refine nx_then ?_
  refine wpc_seq ?_
  refine wpc_region [0] (by kernel_rfl) ?_
  refine wpr_run (l₂ := []) true [0] [] [(5, Value.bool false), (4, Value.bool false), (0, Value.pointer (some { block := d, off := 0 })), (1, Value.func (Fn.func 37) #[] #[])] [Ch.blk d 52 [Value.bool false, Value.string (mkS []), Value.int IntKind.i64 0, Value.int IntKind.i64 0]] [] (by kernel_rfl) (by kernel_rfl) trivial ?_
  refine wpr_nil ?_
  refine nx_then ?_
  refine wpc_seq ?_
  refine wpc_seq ?_
  refine wpc_region [0, 1, 2] (by kernel_rfl) ?_
  refine wpr_run (l₂ := [1, 2]) true [0] [] [(9, Value.pointer (some { block := d, off := 0 })), (5, Value.bool false), (4, Value.bool false), (0, Value.pointer (some { block := d, off := 0 })), (1, Value.func (Fn.func 37) #[] #[])] [Ch.blk d 52 [Value.bool false, Value.string (mkS []), Value.int IntKind.i64 0, Value.int IntKind.i64 0]] [] (by kernel_rfl) (by kernel_rfl) trivial ?_
  refine wpr_call_all (dst := some 10) (by kernel_rfl) (Err_un d) give_all ?_
  rintro v hp' ⟨rfl, rfl⟩
  unfold UN
  refine wpr_run (l₂ := []) true [2] [] [(11, Value.bool true), (5, Value.bool false), (4, Value.bool false), (0, Value.pointer (some { block := d, off := 0 })), (1, Value.func (Fn.func 37) #[] #[])] [Ch.blk d 52 [Value.bool false, Value.string (mkS []), Value.int IntKind.i64 0, Value.int IntKind.i64 0]] [] (by kernel_rfl) (by kernel_rfl) trivial ?_
  refine wpr_nil ?_
  refine nx_then ?_
  refine wpc_true (by kernel_rfl) ?_
  refine wpc_seq ?_
  refine wpc_region [0, 1] (by kernel_rfl) ?_
  refine wpr_run (l₂ := []) true [0, 1] [] [(4, Value.bool false), (5, Value.bool false), (0, Value.pointer (some { block := d, off := 0 })), (1, Value.func (Fn.func 37) #[] #[])] [Ch.blk d 52 [Value.bool false, Value.string (mkS []), Value.int IntKind.i64 0, Value.int IntKind.i64 0]] [] (by kernel_rfl) (by kernel_rfl) trivial ?_
  refine wpr_nil ?_
  refine nx_then ?_
  refine wpc_ret ?_
  refine nx_then_ret ?_
  refine nx_end (hp' := [Ch.blk d 52 [Value.bool false, Value.string (mkS []), Value.int IntKind.i64 0, Value.int IntKind.i64 0]]) (rest := []) [] ((Value.bool false)) (by kernel_rfl) (by kernel_rfl) give_all (by first | ((repeat (first | exact trivial | refine ⟨trivial, ?_⟩)); done) | assumption) ?_ (.inr rfl)
  exact ⟨rfl, rfl⟩
theorem read_count_nil (t : Nat) : Does Try.prog 29 [.pointer none, .func (.func 35) #[] #[.pointer (some ⟨t, 0, none⟩)]] [] (fun v hp' => v = .int .i64 0 ∧ hp' = []) := by
  refine fn_enter Try.func29 rfl 44 rfl fun w0 h0 => ?_
  refine wpc_seq ?_
  refine wpc_region [0] (by kernel_rfl) ?_
  refine wpr_run (l₂ := []) true [0] [] [(4, Value.int IntKind.i64 0), (0, Value.pointer none), (1, Value.func (Fn.func 35) #[] #[Value.pointer (some { block := t, off := 0 })])] [] [] (by kernel_rfl) (by kernel_rfl) trivial ?_
  refine wpr_nil ?_
  refine nx_then ?_
  refine wpc_seq ?_
  refine wpc_region [0] (by kernel_rfl) ?_
  refine wpr_run (l₂ := []) true [0] [] [(5, Value.int IntKind.i64 0), (4, Value.int IntKind.i64 0), (0, Value.pointer none), (1, Value.func (Fn.func 35) #[] #[Value.pointer (some { block := t, off := 0 })])] [] [] (by kernel_rfl) (by kernel_rfl) trivial ?_
  refine wpr_nil ?_
  refine nx_then ?_
  refine wpc_seq ?_
  refine wpc_seq ?_
  refine wpc_region [0, 1, 2] (by kernel_rfl) ?_
  refine wpr_run (l₂ := [1, 2]) true [0] [] [(9, Value.pointer none), (5, Value.int IntKind.i64 0), (4, Value.int IntKind.i64 0), (0, Value.pointer none), (1, Value.func (Fn.func 35) #[] #[Value.pointer (some { block := t, off := 0 })])] [] [] (by kernel_rfl) (by kernel_rfl) trivial ?_
  refine wpr_call_all (dst := some 10) (by kernel_rfl) (Err_nil) give_all ?_
  rintro v hp' ⟨rfl, rfl⟩
  refine wpr_run (l₂ := []) true [2] [] [(11, Value.bool true), (5, Value.int IntKind.i64 0), (4, Value.int IntKind.i64 0), (0, Value.pointer none), (1, Value.func (Fn.func 35) #[] #[Value.pointer (some { block := t, off := 0 })])] [] [] (by kernel_rfl) (by kernel_rfl) trivial ?_
  refine wpr_nil ?_
  refine nx_then ?_
  refine wpc_true (by kernel_rfl) ?_
  refine wpc_seq ?_
  refine wpc_region [0, 1] (by kernel_rfl) ?_
  refine wpr_run (l₂ := []) true [0, 1] [] [(4, Value.int IntKind.i64 0), (5, Value.int IntKind.i64 0), (0, Value.pointer none), (1, Value.func (Fn.func 35) #[] #[Value.pointer (some { block := t, off := 0 })])] [] [] (by kernel_rfl) (by kernel_rfl) trivial ?_
  refine wpr_nil ?_
  refine nx_then ?_
  refine wpc_ret ?_
  refine nx_then_ret ?_
  refine nx_end (hp' := []) (rest := []) [] ((Value.int IntKind.i64 0)) (by kernel_rfl) (by kernel_rfl) give_all (by first | ((repeat (first | exact trivial | refine ⟨trivial, ?_⟩)); done) | assumption) ?_ (.inr rfl)
  exact ⟨rfl, rfl⟩
theorem read_count_un (d : Nat) (t : Nat) : Does Try.prog 29 [.pointer (some ⟨d, 0, none⟩), .func (.func 35) #[] #[.pointer (some ⟨t, 0, none⟩)]] [UN d] (fun v hp' => v = .int .i64 0 ∧ hp' = [UN d]) := by
  refine fn_enter Try.func29 rfl 44 rfl fun w0 h0 => ?_
  refine wpc_seq ?_
  refine wpc_region [0] (by kernel_rfl) ?_
  refine wpr_run (l₂ := []) true [0] [] [(4, Value.int IntKind.i64 0), (0, Value.pointer (some { block := d, off := 0 })), (1, Value.func (Fn.func 35) #[] #[Value.pointer (some { block := t, off := 0 })])] [Ch.blk d 52 [Value.bool false, Value.string (mkS []), Value.int IntKind.i64 0, Value.int IntKind.i64 0]] [] (by kernel_rfl) (by kernel_rfl) trivial ?_
  refine wpr_nil ?_
  refine nx_then ?_
  refine wpc_seq ?_
  refine wpc_region [0] (by kernel_rfl) ?_
  refine wpr_run (l₂ := []) true [0] [] [(5, Value.int IntKind.i64 0), (4, Value.int IntKind.i64 0), (0, Value.pointer (some { block := d, off := 0 })), (1, Value.func (Fn.func 35) #[] #[Value.pointer (some { block := t, off := 0 })])] [Ch.blk d 52 [Value.bool false, Value.string (mkS []), Value.int IntKind.i64 0, Value.int IntKind.i64 0]] [] (by kernel_rfl) (by kernel_rfl) trivial ?_
  refine wpr_nil ?_
  refine nx_then ?_
  refine wpc_seq ?_
  refine wpc_seq ?_
  refine wpc_region [0, 1, 2] (by kernel_rfl) ?_
  refine wpr_run (l₂ := [1, 2]) true [0] [] [(9, Value.pointer (some { block := d, off := 0 })), (5, Value.int IntKind.i64 0), (4, Value.int IntKind.i64 0), (0, Value.pointer (some { block := d, off := 0 })), (1, Value.func (Fn.func 35) #[] #[Value.pointer (some { block := t, off := 0 })])] [Ch.blk d 52 [Value.bool false, Value.string (mkS []), Value.int IntKind.i64 0, Value.int IntKind.i64 0]] [] (by kernel_rfl) (by kernel_rfl) trivial ?_
  refine wpr_call_all (dst := some 10) (by kernel_rfl) (Err_un d) give_all ?_
  rintro v hp' ⟨rfl, rfl⟩
  unfold UN
  refine wpr_run (l₂ := []) true [2] [] [(11, Value.bool true), (5, Value.int IntKind.i64 0), (4, Value.int IntKind.i64 0), (0, Value.pointer (some { block := d, off := 0 })), (1, Value.func (Fn.func 35) #[] #[Value.pointer (some { block := t, off := 0 })])] [Ch.blk d 52 [Value.bool false, Value.string (mkS []), Value.int IntKind.i64 0, Value.int IntKind.i64 0]] [] (by kernel_rfl) (by kernel_rfl) trivial ?_
  refine wpr_nil ?_
  refine nx_then ?_
  refine wpc_true (by kernel_rfl) ?_
  refine wpc_seq ?_
  refine wpc_region [0, 1] (by kernel_rfl) ?_
  refine wpr_run (l₂ := []) true [0, 1] [] [(4, Value.int IntKind.i64 0), (5, Value.int IntKind.i64 0), (0, Value.pointer (some { block := d, off := 0 })), (1, Value.func (Fn.func 35) #[] #[Value.pointer (some { block := t, off := 0 })])] [Ch.blk d 52 [Value.bool false, Value.string (mkS []), Value.int IntKind.i64 0, Value.int IntKind.i64 0]] [] (by kernel_rfl) (by kernel_rfl) trivial ?_
  refine wpr_nil ?_
  refine nx_then ?_
  refine wpc_ret ?_
  refine nx_then_ret ?_
  refine nx_end (hp' := [Ch.blk d 52 [Value.bool false, Value.string (mkS []), Value.int IntKind.i64 0, Value.int IntKind.i64 0]]) (rest := []) [] ((Value.int IntKind.i64 0)) (by kernel_rfl) (by kernel_rfl) give_all (by first | ((repeat (first | exact trivial | refine ⟨trivial, ?_⟩)); done) | assumption) ?_ (.inr rfl)
  exact ⟨rfl, rfl⟩
theorem read_text_nil (t : Nat) : Does Try.prog 31 [.pointer none, .func (.func 32) #[] #[.pointer (some ⟨t, 0, none⟩)]] [] (fun v hp' => v = .string (mkS []) ∧ hp' = []) := by
  refine fn_enter Try.func31 rfl 44 rfl fun w0 h0 => ?_
  refine wpc_seq ?_
  refine wpc_region [0] (by kernel_rfl) ?_
  refine wpr_run (l₂ := []) true [0] [] [(4, Value.string { data := #[] }), (0, Value.pointer none), (1, Value.func (Fn.func 32) #[] #[Value.pointer (some { block := t, off := 0 })])] [] [] (by kernel_rfl) (by kernel_rfl) trivial ?_
  refine wpr_nil ?_
  refine nx_then ?_
  refine wpc_seq ?_
  refine wpc_region [0] (by kernel_rfl) ?_
  refine wpr_run (l₂ := []) true [0] [] [(5, Value.string { data := #[] }), (4, Value.string { data := #[] }), (0, Value.pointer none), (1, Value.func (Fn.func 32) #[] #[Value.pointer (some { block := t, off := 0 })])] [] [] (by kernel_rfl) (by kernel_rfl) trivial ?_
  refine wpr_nil ?_
  refine nx_then ?_
  refine wpc_seq ?_
  refine wpc_seq ?_
  refine wpc_region [0, 1, 2] (by kernel_rfl) ?_
  refine wpr_run (l₂ := [1, 2]) true [0] [] [(9, Value.pointer none), (5, Value.string { data := #[] }), (4, Value.string { data := #[] }), (0, Value.pointer none), (1, Value.func (Fn.func 32) #[] #[Value.pointer (some { block := t, off := 0 })])] [] [] (by kernel_rfl) (by kernel_rfl) trivial ?_
  refine wpr_call_all (dst := some 10) (by kernel_rfl) (Err_nil) give_all ?_
  rintro v hp' ⟨rfl, rfl⟩
  refine wpr_run (l₂ := []) true [2] [] [(11, Value.bool true), (5, Value.string { data := #[] }), (4, Value.string { data := #[] }), (0, Value.pointer none), (1, Value.func (Fn.func 32) #[] #[Value.pointer (some { block := t, off := 0 })])] [] [] (by kernel_rfl) (by kernel_rfl) trivial ?_
  refine wpr_nil ?_
  refine nx_then ?_
  refine wpc_true (by kernel_rfl) ?_
  refine wpc_seq ?_
  refine wpc_region [0, 1] (by kernel_rfl) ?_
  refine wpr_run (l₂ := []) true [0, 1] [] [(4, Value.string { data := #[] }), (5, Value.string { data := #[] }), (0, Value.pointer none), (1, Value.func (Fn.func 32) #[] #[Value.pointer (some { block := t, off := 0 })])] [] [] (by kernel_rfl) (by kernel_rfl) trivial ?_
  refine wpr_nil ?_
  refine nx_then ?_
  refine wpc_ret ?_
  refine nx_then_ret ?_
  refine nx_end (hp' := []) (rest := []) [] ((Value.string { data := #[] })) (by kernel_rfl) (by kernel_rfl) give_all (by first | ((repeat (first | exact trivial | refine ⟨trivial, ?_⟩)); done) | assumption) ?_ (.inr rfl)
  exact ⟨rfl, rfl⟩
theorem read_text_un (d : Nat) (t : Nat) : Does Try.prog 31 [.pointer (some ⟨d, 0, none⟩), .func (.func 32) #[] #[.pointer (some ⟨t, 0, none⟩)]] [UN d] (fun v hp' => v = .string (mkS []) ∧ hp' = [UN d]) := by
  refine fn_enter Try.func31 rfl 44 rfl fun w0 h0 => ?_
  refine wpc_seq ?_
  refine wpc_region [0] (by kernel_rfl) ?_
  refine wpr_run (l₂ := []) true [0] [] [(4, Value.string { data := #[] }), (0, Value.pointer (some { block := d, off := 0 })), (1, Value.func (Fn.func 32) #[] #[Value.pointer (some { block := t, off := 0 })])] [Ch.blk d 52 [Value.bool false, Value.string (mkS []), Value.int IntKind.i64 0, Value.int IntKind.i64 0]] [] (by kernel_rfl) (by kernel_rfl) trivial ?_
  refine wpr_nil ?_
  refine nx_then ?_
  refine wpc_seq ?_
  refine wpc_region [0] (by kernel_rfl) ?_
  refine wpr_run (l₂ := []) true [0] [] [(5, Value.string { data := #[] }), (4, Value.string { data := #[] }), (0, Value.pointer (some { block := d, off := 0 })), (1, Value.func (Fn.func 32) #[] #[Value.pointer (some { block := t, off := 0 })])] [Ch.blk d 52 [Value.bool false, Value.string (mkS []), Value.int IntKind.i64 0, Value.int IntKind.i64 0]] [] (by kernel_rfl) (by kernel_rfl) trivial ?_
  refine wpr_nil ?_
  refine nx_then ?_
  refine wpc_seq ?_
  refine wpc_seq ?_
  refine wpc_region [0, 1, 2] (by kernel_rfl) ?_
  refine wpr_run (l₂ := [1, 2]) true [0] [] [(9, Value.pointer (some { block := d, off := 0 })), (5, Value.string { data := #[] }), (4, Value.string { data := #[] }), (0, Value.pointer (some { block := d, off := 0 })), (1, Value.func (Fn.func 32) #[] #[Value.pointer (some { block := t, off := 0 })])] [Ch.blk d 52 [Value.bool false, Value.string (mkS []), Value.int IntKind.i64 0, Value.int IntKind.i64 0]] [] (by kernel_rfl) (by kernel_rfl) trivial ?_
  refine wpr_call_all (dst := some 10) (by kernel_rfl) (Err_un d) give_all ?_
  rintro v hp' ⟨rfl, rfl⟩
  unfold UN
  refine wpr_run (l₂ := []) true [2] [] [(11, Value.bool true), (5, Value.string { data := #[] }), (4, Value.string { data := #[] }), (0, Value.pointer (some { block := d, off := 0 })), (1, Value.func (Fn.func 32) #[] #[Value.pointer (some { block := t, off := 0 })])] [Ch.blk d 52 [Value.bool false, Value.string (mkS []), Value.int IntKind.i64 0, Value.int IntKind.i64 0]] [] (by kernel_rfl) (by kernel_rfl) trivial ?_
  refine wpr_nil ?_
  refine nx_then ?_
  refine wpc_true (by kernel_rfl) ?_
  refine wpc_seq ?_
  refine wpc_region [0, 1] (by kernel_rfl) ?_
  refine wpr_run (l₂ := []) true [0, 1] [] [(4, Value.string { data := #[] }), (5, Value.string { data := #[] }), (0, Value.pointer (some { block := d, off := 0 })), (1, Value.func (Fn.func 32) #[] #[Value.pointer (some { block := t, off := 0 })])] [Ch.blk d 52 [Value.bool false, Value.string (mkS []), Value.int IntKind.i64 0, Value.int IntKind.i64 0]] [] (by kernel_rfl) (by kernel_rfl) trivial ?_
  refine wpr_nil ?_
  refine nx_then ?_
  refine wpc_ret ?_
  refine nx_then_ret ?_
  refine nx_end (hp' := [Ch.blk d 52 [Value.bool false, Value.string (mkS []), Value.int IntKind.i64 0, Value.int IntKind.i64 0]]) (rest := []) [] ((Value.string { data := #[] })) (by kernel_rfl) (by kernel_rfl) give_all (by first | ((repeat (first | exact trivial | refine ⟨trivial, ?_⟩)); done) | assumption) ?_ (.inr rfl)
  exact ⟨rfl, rfl⟩
theorem Int_nil : Does Try.prog 18 [.pointer none] [] (fun v hp' => v = .int .i64 0 ∧ hp' = []) := by
  refine fn_enter Try.func18 rfl 5 rfl fun w0 h0 => ?_
  refine wpc_seq ?_
  refine wpc_region [0] (by kernel_rfl) ?_
  refine wpr_run (l₂ := []) true [0] [] [(2, Value.int IntKind.i64 0), (0, Value.pointer none)] [] [] (by kernel_rfl) (by kernel_rfl) trivial ?_
  refine wpr_nil ?_
  refine nx_then ?_
  refine wpc_seq ?_
  refine wpc_region [0, 1, 2] (by kernel_rfl) ?_
  refine wpr_run (l₂ := [1, 2]) true [0] [] [(3, Value.pointer none), (2, Value.int IntKind.i64 0)] [] [] (by kernel_rfl) (by kernel_rfl) trivial ?_
  refine wpr_call_all (dst := some 4) (by kernel_rfl) (read_number_nil) give_all ?_
  rintro v hp' ⟨rfl, rfl⟩
  refine wpr_run (l₂ := []) true [2] [] [(2, Value.int IntKind.i64 0)] [] [] (by kernel_rfl) (by kernel_rfl) trivial ?_
  refine wpr_nil ?_
  refine nx_then ?_
  refine wpc_ret ?_
  refine nx_end (hp' := []) (rest := []) [] ((Value.int IntKind.i64 0)) (by kernel_rfl) (by kernel_rfl) give_all (by first | ((repeat (first | exact trivial | refine ⟨trivial, ?_⟩)); done) | assumption) ?_ (.inr rfl)
  exact ⟨rfl, rfl⟩
theorem Int_un (d : Nat) : Does Try.prog 18 [.pointer (some ⟨d, 0, none⟩)] [UN d] (fun v hp' => v = .int .i64 0 ∧ hp' = [UN d]) := by
  refine fn_enter Try.func18 rfl 5 rfl fun w0 h0 => ?_
  refine wpc_seq ?_
  refine wpc_region [0] (by kernel_rfl) ?_
  refine wpr_run (l₂ := []) true [0] [] [(2, Value.int IntKind.i64 0), (0, Value.pointer (some { block := d, off := 0 }))] [Ch.blk d 52 [Value.bool false, Value.string (mkS []), Value.int IntKind.i64 0, Value.int IntKind.i64 0]] [] (by kernel_rfl) (by kernel_rfl) trivial ?_
  refine wpr_nil ?_
  refine nx_then ?_
  refine wpc_seq ?_
  refine wpc_region [0, 1, 2] (by kernel_rfl) ?_
  refine wpr_run (l₂ := [1, 2]) true [0] [] [(3, Value.pointer (some { block := d, off := 0 })), (2, Value.int IntKind.i64 0)] [Ch.blk d 52 [Value.bool false, Value.string (mkS []), Value.int IntKind.i64 0, Value.int IntKind.i64 0]] [] (by kernel_rfl) (by kernel_rfl) trivial ?_
  refine wpr_call_all (dst := some 4) (by kernel_rfl) (read_number_un d) give_all ?_
  rintro v hp' ⟨rfl, rfl⟩
  unfold UN
  refine wpr_run (l₂ := []) true [2] [] [(2, Value.int IntKind.i64 0)] [Ch.blk d 52 [Value.bool false, Value.string (mkS []), Value.int IntKind.i64 0, Value.int IntKind.i64 0]] [] (by kernel_rfl) (by kernel_rfl) trivial ?_
  refine wpr_nil ?_
  refine nx_then ?_
  refine wpc_ret ?_
  refine nx_end (hp' := [Ch.blk d 52 [Value.bool false, Value.string (mkS []), Value.int IntKind.i64 0, Value.int IntKind.i64 0]]) (rest := []) [] ((Value.int IntKind.i64 0)) (by kernel_rfl) (by kernel_rfl) give_all (by first | ((repeat (first | exact trivial | refine ⟨trivial, ?_⟩)); done) | assumption) ?_ (.inr rfl)
  exact ⟨rfl, rfl⟩
theorem Bool_nil : Does Try.prog 24 [.pointer none] [] (fun v hp' => v = .bool false ∧ hp' = []) := by
  refine fn_enter Try.func24 rfl 5 rfl fun w0 h0 => ?_
  refine wpc_seq ?_
  refine wpc_region [0] (by kernel_rfl) ?_
  refine wpr_run (l₂ := []) true [0] [] [(2, Value.bool false), (0, Value.pointer none)] [] [] (by kernel_rfl) (by kernel_rfl) trivial ?_
  refine wpr_nil ?_
  refine nx_then ?_
  refine wpc_seq ?_
  refine wpc_region [0, 1, 2] (by kernel_rfl) ?_
  refine wpr_run (l₂ := [1, 2]) true [0] [] [(3, Value.pointer none), (2, Value.bool false)] [] [] (by kernel_rfl) (by kernel_rfl) trivial ?_
  refine wpr_call_all (dst := some 4) (by kernel_rfl) (read_bol1_nil) give_all ?_
  rintro v hp' ⟨rfl, rfl⟩
  refine wpr_run (l₂ := []) true [2] [] [(2, Value.bool false)] [] [] (by kernel_rfl) (by kernel_rfl) trivial ?_
  refine wpr_nil ?_
  refine nx_then ?_
  refine wpc_ret ?_
  refine nx_end (hp' := []) (rest := []) [] ((Value.bool false)) (by kernel_rfl) (by kernel_rfl) give_all (by first | ((repeat (first | exact trivial | refine ⟨trivial, ?_⟩)); done) | assumption) ?_ (.inr rfl)
  exact ⟨rfl, rfl⟩
theorem Bool_un (d : Nat) : Does Try.prog 24 [.pointer (some ⟨d, 0, none⟩)] [UN d] (fun v hp' => v = .bool false ∧ hp' = [UN d]) := by
  refine fn_enter Try.func24 rfl 5 rfl fun w0 h0 => ?_
  refine wpc_seq ?_
  refine wpc_region [0] (by kernel_rfl) ?_
  refine wpr_run (l₂ := []) true [0] [] [(2, Value.bool false), (0, Value.pointer (some { block := d, off := 0 }))] [Ch.blk d 52 [Value.bool false, Value.string (mkS []), Value.int IntKind.i64 0, Value.int IntKind.i64 0]] [] (by kernel_rfl) (by kernel_rfl) trivial ?_
  refine wpr_nil ?_
  refine nx_then ?_
  refine wpc_seq ?_
  refine wpc_region [0, 1, 2] (by kernel_rfl) ?_
  refine wpr_run (l₂ := [1, 2]) true [0] [] [(3, Value.pointer (some { block := d, off := 0 })), (2, Value.bool false)] [Ch.blk d 52 [Value.bool false, Value.string (mkS []), Value.int IntKind.i64 0, Value.int IntKind.i64 0]] [] (by kernel_rfl) (by kernel_rfl) trivial ?_
  refine wpr_call_all (dst := some 4) (by kernel_rfl) (read_bol1_un d) give_all ?_
  rintro v hp' ⟨rfl, rfl⟩
  unfold UN
  refine wpr_run (l₂ := []) true [2] [] [(2, Value.bool false)] [Ch.blk d 52 [Value.bool false, Value.string (mkS []), Value.int IntKind.i64 0, Value.int IntKind.i64 0]] [] (by kernel_rfl) (by kernel_rfl) trivial ?_
  refine wpr_nil ?_
  refine nx_then ?_
  refine wpc_ret ?_
  refine nx_end (hp' := [Ch.blk d 52 [Value.bool false, Value.string (mkS []), Value.int IntKind.i64 0, Value.int IntKind.i64 0]]) (rest := []) [] ((Value.bool false)) (by kernel_rfl) (by kernel_rfl) give_all (by first | ((repeat (first | exact trivial | refine ⟨trivial, ?_⟩)); done) | assumption) ?_ (.inr rfl)
  exact ⟨rfl, rfl⟩
theorem Count_nil (most : Int) : Does Try.prog 23 [.pointer none, .int .i64 most] [] (fun v hp' => v = .int .i64 0 ∧ hp' = []) := by
  refine fn_enter Try.func23 rfl 8 rfl fun w0 h0 => ?_
  refine wpc_seq ?_
  refine wpc_region [0, 1] (by kernel_rfl) ?_
  refine wpr_new (l₂ := [1]) true [0] [] (fun g1 => [(3, Value.pointer (some { block := g1, off := 0 })), (0, Value.pointer none)]) (fun g1 => [Ch.blk g1 3 [Value.int IntKind.i64 most]]) (fun g1 => []) (fun g1 => by kernel_rfl) (fun g1 => by kernel_rfl) (fun g1 => trivial) fun g1 => ?_
  refine wpr_run (l₂ := []) true [1] [] [(4, Value.int IntKind.i64 0), (3, Value.pointer (some { block := g1, off := 0 })), (0, Value.pointer none)] [Ch.blk g1 3 [Value.int IntKind.i64 most]] [] (by kernel_rfl) (by kernel_rfl) trivial ?_
  refine wpr_nil ?_
  refine nx_then ?_
  refine wpc_seq ?_
  refine wpc_region [0, 1, 2, 3] (by kernel_rfl) ?_
  refine wpr_run (l₂ := [2, 3]) true [0, 1] [] [(6, Value.func (Fn.func 35) #[] #[Value.pointer (some { block := g1, off := 0 })]), (5, Value.pointer none), (4, Value.int IntKind.i64 0)] [Ch.blk g1 3 [Value.int IntKind.i64 most]] [] (by kernel_rfl) (by kernel_rfl) trivial ?_
  refine wpr_call (dst := some 7) (rest := [Ch.blk g1 3 [Value.int IntKind.i64 most]]) (by kernel_rfl) (read_count_nil g1) (give [] (by kernel_rfl)) ?_
  rintro v hp' ⟨rfl, rfl⟩
  refine wpr_run (l₂ := []) true [3] [] [(4, Value.int IntKind.i64 0)] [Ch.blk g1 3 [Value.int IntKind.i64 most]] [] (by kernel_rfl) (by kernel_rfl) trivial ?_
  refine wpr_nil ?_
  refine nx_then ?_
  refine wpc_ret ?_
  refine nx_end (hp' := []) (rest := [Ch.blk g1 3 [Value.int IntKind.i64 most]]) [] ((Value.int IntKind.i64 0)) (by kernel_rfl) (by kernel_rfl) (give [] (by kernel_rfl)) (by first | ((repeat (first | exact trivial | refine ⟨trivial, ?_⟩)); done) | assumption) ?_ (.inr rfl)
  exact ⟨rfl, rfl⟩
theorem Count_un (d : Nat) (most : Int) : Does Try.prog 23 [.pointer (some ⟨d, 0, none⟩), .int .i64 most] [UN d] (fun v hp' => v = .int .i64 0 ∧ hp' = [UN d]) := by
  refine fn_enter Try.func23 rfl 8 rfl fun w0 h0 => ?_
  refine wpc_seq ?_
  refine wpc_region [0, 1] (by kernel_rfl) ?_
  refine wpr_new (l₂ := [1]) true [0] [] (fun g1 => [(3, Value.pointer (some { block := g1, off := 0 })), (0, Value.pointer (some { block := d, off := 0 }))]) (fun g1 => [Ch.blk d 52 [Value.bool false, Value.string (mkS []), Value.int IntKind.i64 0, Value.int IntKind.i64 0], Ch.blk g1 3 [Value.int IntKind.i64 most]]) (fun g1 => []) (fun g1 => by kernel_rfl) (fun g1 => by kernel_rfl) (fun g1 => trivial) fun g1 => ?_
  refine wpr_run (l₂ := []) true [1] [] [(4, Value.int IntKind.i64 0), (3, Value.pointer (some { block := g1, off := 0 })), (0, Value.pointer (some { block := d, off := 0 }))] [Ch.blk d 52 [Value.bool false, Value.string (mkS []), Value.int IntKind.i64 0, Value.int IntKind.i64 0], Ch.blk g1 3 [Value.int IntKind.i64 most]] [] (by kernel_rfl) (by kernel_rfl) trivial ?_
  refine wpr_nil ?_
  refine nx_then ?_
  refine wpc_seq ?_
  refine wpc_region [0, 1, 2, 3] (by kernel_rfl) ?_
  refine wpr_run (l₂ := [2, 3]) true [0, 1] [] [(6, Value.func (Fn.func 35) #[] #[Value.pointer (some { block := g1, off := 0 })]), (5, Value.pointer (some { block := d, off := 0 })), (4, Value.int IntKind.i64 0)] [Ch.blk d 52 [Value.bool false, Value.string (mkS []), Value.int IntKind.i64 0, Value.int IntKind.i64 0], Ch.blk g1 3 [Value.int IntKind.i64 most]] [] (by kernel_rfl) (by kernel_rfl) trivial ?_
  refine wpr_call (dst := some 7) (rest := [Ch.blk g1 3 [Value.int IntKind.i64 most]]) (by kernel_rfl) (read_count_un d g1) (give [0] (by kernel_rfl)) ?_
  rintro v hp' ⟨rfl, rfl⟩
  unfold UN
  refine wpr_run (l₂ := []) true [3] [] [(4, Value.int IntKind.i64 0)] [Ch.blk d 52 [Value.bool false, Value.string (mkS []), Value.int IntKind.i64 0, Value.int IntKind.i64 0], Ch.blk g1 3 [Value.int IntKind.i64 most]] [] (by kernel_rfl) (by kernel_rfl) trivial ?_
  refine wpr_nil ?_
  refine nx_then ?_
  refine wpc_ret ?_
  refine nx_end (hp' := [Ch.blk d 52 [Value.bool false, Value.string (mkS []), Value.int IntKind.i64 0, Value.int IntKind.i64 0]]) (rest := [Ch.blk g1 3 [Value.int IntKind.i64 most]]) [] ((Value.int IntKind.i64 0)) (by kernel_rfl) (by kernel_rfl) (give [0] (by kernel_rfl)) (by first | ((repeat (first | exact trivial | refine ⟨trivial, ?_⟩)); done) | assumption) ?_ (.inr rfl)
  exact ⟨rfl, rfl⟩
theorem Text_nil (most : Int) : Does Try.prog 21 [.pointer none, .int .i64 most] [] (fun v hp' => v = .string (mkS []) ∧ hp' = []) := by
  refine fn_enter Try.func21 rfl 8 rfl fun w0 h0 => ?_
  refine wpc_seq ?_
  refine wpc_region [0, 1] (by kernel_rfl) ?_
  refine wpr_new (l₂ := [1]) true [0] [] (fun g1 => [(3, Value.pointer (some { block := g1, off := 0 })), (0, Value.pointer none)]) (fun g1 => [Ch.blk g1 3 [Value.int IntKind.i64 most]]) (fun g1 => []) (fun g1 => by kernel_rfl) (fun g1 => by kernel_rfl) (fun g1 => trivial) fun g1 => ?_
  refine wpr_run (l₂ := []) true [1] [] [(4, Value.string { data := #[] }), (3, Value.pointer (some { block := g1, off := 0 })), (0, Value.pointer none)] [Ch.blk g1 3 [Value.int IntKind.i64 most]] [] (by kernel_rfl) (by kernel_rfl) trivial ?_
  refine wpr_nil ?_
  refine nx_then ?_
  refine wpc_seq ?_
  refine wpc_region [0, 1, 2, 3] (by kernel_rfl) ?_
  refine wpr_run (l₂ := [2, 3]) true [0, 1] [] [(6, Value.func (Fn.func 32) #[] #[Value.pointer (some { block := g1, off := 0 })]), (5, Value.pointer none), (4, Value.string { data := #[] })] [Ch.blk g1 3 [Value.int IntKind.i64 most]] [] (by kernel_rfl) (by kernel_rfl) trivial ?_
  refine wpr_call (dst := some 7) (rest := [Ch.blk g1 3 [Value.int IntKind.i64 most]]) (by kernel_rfl) (read_text_nil g1) (give [] (by kernel_rfl)) ?_
  rintro v hp' ⟨rfl, rfl⟩
  refine wpr_run (l₂ := []) true [3] [] [(4, Value.string (mkS []))] [Ch.blk g1 3 [Value.int IntKind.i64 most]] [] (by kernel_rfl) (by kernel_rfl) trivial ?_
  refine wpr_nil ?_
  refine nx_then ?_
  refine wpc_ret ?_
  refine nx_end (hp' := []) (rest := [Ch.blk g1 3 [Value.int IntKind.i64 most]]) [] ((Value.string (mkS []))) (by kernel_rfl) (by kernel_rfl) (give [] (by kernel_rfl)) (by first | ((repeat (first | exact trivial | refine ⟨trivial, ?_⟩)); done) | assumption) ?_ (.inr rfl)
  exact ⟨rfl, rfl⟩
theorem Text_un (d : Nat) (most : Int) : Does Try.prog 21 [.pointer (some ⟨d, 0, none⟩), .int .i64 most] [UN d] (fun v hp' => v = .string (mkS []) ∧ hp' = [UN d]) := by
  refine fn_enter Try.func21 rfl 8 rfl fun w0 h0 => ?_
  refine wpc_seq ?_
  refine wpc_region [0, 1] (by kernel_rfl) ?_
  refine wpr_new (l₂ := [1]) true [0] [] (fun g1 => [(3, Value.pointer (some { block := g1, off := 0 })), (0, Value.pointer (some { block := d, off := 0 }))]) (fun g1 => [Ch.blk d 52 [Value.bool false, Value.string (mkS []), Value.int IntKind.i64 0, Value.int IntKind.i64 0], Ch.blk g1 3 [Value.int IntKind.i64 most]]) (fun g1 => []) (fun g1 => by kernel_rfl) (fun g1 => by kernel_rfl) (fun g1 => trivial) fun g1 => ?_
  refine wpr_run (l₂ := []) true [1] [] [(4, Value.string { data := #[] }), (3, Value.pointer (some { block := g1, off := 0 })), (0, Value.pointer (some { block := d, off := 0 }))] [Ch.blk d 52 [Value.bool false, Value.string (mkS []), Value.int IntKind.i64 0, Value.int IntKind.i64 0], Ch.blk g1 3 [Value.int IntKind.i64 most]] [] (by kernel_rfl) (by kernel_rfl) trivial ?_
  refine wpr_nil ?_
  refine nx_then ?_
  refine wpc_seq ?_
  refine wpc_region [0, 1, 2, 3] (by kernel_rfl) ?_
  refine wpr_run (l₂ := [2, 3]) true [0, 1] [] [(6, Value.func (Fn.func 32) #[] #[Value.pointer (some { block := g1, off := 0 })]), (5, Value.pointer (some { block := d, off := 0 })), (4, Value.string { data := #[] })] [Ch.blk d 52 [Value.bool false, Value.string (mkS []), Value.int IntKind.i64 0, Value.int IntKind.i64 0], Ch.blk g1 3 [Value.int IntKind.i64 most]] [] (by kernel_rfl) (by kernel_rfl) trivial ?_
  refine wpr_call (dst := some 7) (rest := [Ch.blk g1 3 [Value.int IntKind.i64 most]]) (by kernel_rfl) (read_text_un d g1) (give [0] (by kernel_rfl)) ?_
  rintro v hp' ⟨rfl, rfl⟩
  unfold UN
  refine wpr_run (l₂ := []) true [3] [] [(4, Value.string (mkS []))] [Ch.blk d 52 [Value.bool false, Value.string (mkS []), Value.int IntKind.i64 0, Value.int IntKind.i64 0], Ch.blk g1 3 [Value.int IntKind.i64 most]] [] (by kernel_rfl) (by kernel_rfl) trivial ?_
  refine wpr_nil ?_
  refine nx_then ?_
  refine wpc_ret ?_
  refine nx_end (hp' := [Ch.blk d 52 [Value.bool false, Value.string (mkS []), Value.int IntKind.i64 0, Value.int IntKind.i64 0]]) (rest := [Ch.blk g1 3 [Value.int IntKind.i64 most]]) [] ((Value.string (mkS []))) (by kernel_rfl) (by kernel_rfl) (give [0] (by kernel_rfl)) (by first | ((repeat (first | exact trivial | refine ⟨trivial, ?_⟩)); done) | assumption) ?_ (.inr rfl)
  exact ⟨rfl, rfl⟩
theorem WireNil_nil (most : Int) : Does Try.prog 9 [.int .i64 most, .bool false] [] (fun v hp' => v = .bool true ∧ hp' = []) := by
  refine fn_enter Try.func9 rfl 47 rfl fun w0 h0 => ?_
  refine wpc_seq ?_
  refine wpc_region [0] (by kernel_rfl) ?_
  refine wpr_run (l₂ := []) true [0] [] [(4, Value.bool false), (0, Value.int IntKind.i64 most), (1, Value.bool false)] [] [] (by kernel_rfl) (by kernel_rfl) trivial ?_
  refine wpr_nil ?_
  refine nx_then ?_
  refine wpc_seq ?_
  refine wpc_region [0] (by kernel_rfl) ?_
  refine wpr_run (l₂ := []) true [0] [] [(5, Value.pointer none), (4, Value.bool false), (0, Value.int IntKind.i64 most), (1, Value.bool false)] [] [] (by kernel_rfl) (by kernel_rfl) trivial ?_
  refine wpr_nil ?_
  refine nx_then ?_
  refine wpc_seq ?_
  refine wpc_seq ?_
  refine wpc_region [0] (by kernel_rfl) ?_
  refine wpr_run (l₂ := []) true [0] [] [(6, Value.bool false), (5, Value.pointer none), (4, Value.bool false), (0, Value.int IntKind.i64 most)] [] [] (by kernel_rfl) (by kernel_rfl) trivial ?_
  refine wpr_nil ?_
  refine nx_then ?_
  refine wpc_false (by kernel_rfl) ?_
  refine wpc_skip ?_
  refine nx_then ?_
  refine wpc_seq ?_
  refine wpc_region [0, 1, 2, 3, 4, 5, 6, 7, 8, 9, 10, 11, 12, 13, 14, 15, 16, 17, 18, 19, 20, 21, 22, 23, 24, 25, 26, 27, 28, 29, 30, 31, 32, 33, 34, 35, 36, 37, 38] (by kernel_rfl) ?_
  refine wpr_run (l₂ := [1, 2, 3, 4, 5, 6, 7, 8, 9, 10, 11, 12, 13, 14, 15, 16, 17, 18, 19, 20, 21, 22, 23, 24, 25, 26, 27, 28, 29, 30, 31, 32, 33, 34, 35, 36, 37, 38]) true [0] [] [(9, Value.pointer none), (5, Value.pointer none), (4, Value.bool false), (0, Value.int IntKind.i64 most)] [] [] (by kernel_rfl) (by kernel_rfl) trivial ?_
  refine wpr_call_all (dst := some 10) (by kernel_rfl) (Int_nil) give_all ?_
  rintro v hp' ⟨rfl, rfl⟩
  refine wpr_run (l₂ := [5, 6, 7, 8, 9, 10, 11, 12, 13, 14, 15, 16, 17, 18, 19, 20, 21, 22, 23, 24, 25, 26, 27, 28, 29, 30, 31, 32, 33, 34, 35, 36, 37, 38]) true [2, 3, 4] [] [(13, Value.pointer none), (12, Value.bool true), (5, Value.pointer none), (4, Value.bool false), (0, Value.int IntKind.i64 most)] [] [] (by kernel_rfl) (by kernel_rfl) trivial ?_
  refine wpr_call_all (dst := some 14) (by kernel_rfl) (Bool_nil) give_all ?_
  rintro v hp' ⟨rfl, rfl⟩
  refine wpr_run (l₂ := [11, 12, 13, 14, 15, 16, 17, 18, 19, 20, 21, 22, 23, 24, 25, 26, 27, 28, 29, 30, 31, 32, 33, 34, 35, 36, 37, 38]) true [6, 7, 8, 9, 10] [] [(19, Value.int IntKind.i64 most), (18, Value.pointer none), (17, Value.bool true), (5, Value.pointer none), (4, Value.bool false), (0, Value.int IntKind.i64 most)] [] [] (by kernel_rfl) (by kernel_rfl) trivial ?_
  refine wpr_call_all (dst := some 20) (by kernel_rfl) (Count_nil most) give_all ?_
  rintro v hp' ⟨rfl, rfl⟩
  refine wpr_run (l₂ := [17, 18, 19, 20, 21, 22, 23, 24, 25, 26, 27, 28, 29, 30, 31, 32, 33, 34, 35, 36, 37, 38]) true [12, 13, 14, 15, 16] [] [(25, Value.int IntKind.i64 most), (24, Value.pointer none), (23, Value.bool true), (5, Value.pointer none), (4, Value.bool false)] [] [] (by kernel_rfl) (by kernel_rfl) trivial ?_
  refine wpr_call_all (dst := some 26) (by kernel_rfl) (Text_nil most) give_all ?_
  rintro v hp' ⟨rfl, rfl⟩
  refine wpr_run (l₂ := [22, 23, 24, 25, 26, 27, 28, 29, 30, 31, 32, 33, 34, 35, 36, 37, 38]) true [18, 19, 20, 21] [] [(30, Value.pointer none), (29, Value.bool true), (5, Value.pointer none), (4, Value.bool false)] [] [] (by kernel_rfl) (by kernel_rfl) trivial ?_
  refine wpr_call_all (dst := some 31) (by kernel_rfl) (At_nil) give_all ?_
  rintro v hp' ⟨rfl, rfl⟩
  refine wpr_run (l₂ := [27, 28, 29, 30, 31, 32, 33, 34, 35, 36, 37, 38]) true [23, 24, 25, 26] [] [(35, Value.pointer none), (34, Value.bool true), (5, Value.pointer none), (4, Value.bool false)] [] [] (by kernel_rfl) (by kernel_rfl) trivial ?_
  refine wpr_call_all (dst := some 36) (by kernel_rfl) (Err_nil) give_all ?_
  rintro v hp' ⟨rfl, rfl⟩
  refine wpr_run (l₂ := [32, 33, 34, 35, 36, 37, 38]) true [28, 29, 30, 31] [] [(40, Value.pointer none), (39, Value.bool true), (4, Value.bool false)] [] [] (by kernel_rfl) (by kernel_rfl) trivial ?_
  refine wpr_call_all (dst := some 41) (by kernel_rfl) (End_nil) give_all ?_
  rintro v hp' ⟨rfl, rfl⟩
  refine wpr_run (l₂ := [36, 37, 38]) true [33, 34, 35] [] [(44, Value.bool true), (4, Value.bool false)] [] [] (by kernel_rfl) (by kernel_rfl) trivial ?_
  refine wpr_call_all (dst := some 45) (by kernel_rfl) (lives_spec) give_all ?_
  rintro v hp' ⟨rfl, rfl⟩
  refine wpr_run (l₂ := []) true [37, 38] [] [(4, Value.bool true)] [] [] (by kernel_rfl) (by kernel_rfl) trivial ?_
  refine wpr_nil ?_
  refine nx_then ?_
  refine wpc_ret ?_
  refine nx_end (hp' := []) (rest := []) [] ((Value.bool true)) (by kernel_rfl) (by kernel_rfl) give_all (by first | ((repeat (first | exact trivial | refine ⟨trivial, ?_⟩)); done) | assumption) ?_ (.inr rfl)
  exact ⟨rfl, rfl⟩
theorem WireNil_un (most : Int) : Does Try.prog 9 [.int .i64 most, .bool true] [] (fun v hp' => v = .bool true ∧ hp' = []) := by
  refine fn_enter Try.func9 rfl 47 rfl fun w0 h0 => ?_
  refine wpc_seq ?_
  refine wpc_region [0] (by kernel_rfl) ?_
  refine wpr_run (l₂ := []) true [0] [] [(4, Value.bool false), (0, Value.int IntKind.i64 most), (1, Value.bool true)] [] [] (by kernel_rfl) (by kernel_rfl) trivial ?_
  refine wpr_nil ?_
  refine nx_then ?_
  refine wpc_seq ?_
  refine wpc_region [0] (by kernel_rfl) ?_
  refine wpr_run (l₂ := []) true [0] [] [(5, Value.pointer none), (4, Value.bool false), (0, Value.int IntKind.i64 most), (1, Value.bool true)] [] [] (by kernel_rfl) (by kernel_rfl) trivial ?_
  refine wpr_nil ?_
  refine nx_then ?_
  refine wpc_seq ?_
  refine wpc_seq ?_
  refine wpc_region [0] (by kernel_rfl) ?_
  refine wpr_run (l₂ := []) true [0] [] [(6, Value.bool true), (5, Value.pointer none), (4, Value.bool false), (0, Value.int IntKind.i64 most)] [] [] (by kernel_rfl) (by kernel_rfl) trivial ?_
  refine wpr_nil ?_
  refine nx_then ?_
  refine wpc_true (by kernel_rfl) ?_
  refine wpc_region [0, 1, 2] (by kernel_rfl) ?_
  refine wpr_new (l₂ := [2]) true [0, 1] [] (fun g1 => [(8, Value.pointer (some { block := g1, off := 0 })), (5, Value.pointer none), (4, Value.bool false), (0, Value.int IntKind.i64 most)]) (fun g1 => [Ch.blk g1 52 [Value.bool false, Value.string { data := #[] }, Value.int IntKind.i64 0, Value.int IntKind.i64 0]]) (fun g1 => []) (fun g1 => by kernel_rfl) (fun g1 => by kernel_rfl) (fun g1 => trivial) fun g1 => ?_
  refine wpr_run (l₂ := []) true [2] [] [(5, Value.pointer (some { block := g1, off := 0 })), (4, Value.bool false), (0, Value.int IntKind.i64 most)] [Ch.blk g1 52 [Value.bool false, Value.string { data := #[] }, Value.int IntKind.i64 0, Value.int IntKind.i64 0]] [] (by kernel_rfl) (by kernel_rfl) trivial ?_
  refine wpr_nil ?_
  refine nx_then ?_
  refine wpc_seq ?_
  refine wpc_region [0, 1, 2, 3, 4, 5, 6, 7, 8, 9, 10, 11, 12, 13, 14, 15, 16, 17, 18, 19, 20, 21, 22, 23, 24, 25, 26, 27, 28, 29, 30, 31, 32, 33, 34, 35, 36, 37, 38] (by kernel_rfl) ?_
  refine wpr_run (l₂ := [1, 2, 3, 4, 5, 6, 7, 8, 9, 10, 11, 12, 13, 14, 15, 16, 17, 18, 19, 20, 21, 22, 23, 24, 25, 26, 27, 28, 29, 30, 31, 32, 33, 34, 35, 36, 37, 38]) true [0] [] [(9, Value.pointer (some { block := g1, off := 0 })), (5, Value.pointer (some { block := g1, off := 0 })), (4, Value.bool false), (0, Value.int IntKind.i64 most)] [Ch.blk g1 52 [Value.bool false, Value.string { data := #[] }, Value.int IntKind.i64 0, Value.int IntKind.i64 0]] [] (by kernel_rfl) (by kernel_rfl) trivial ?_
  refine wpr_call_all (dst := some 10) (by kernel_rfl) (Int_un g1) give_all ?_
  rintro v hp' ⟨rfl, rfl⟩
  refine wpr_run (l₂ := [5, 6, 7, 8, 9, 10, 11, 12, 13, 14, 15, 16, 17, 18, 19, 20, 21, 22, 23, 24, 25, 26, 27, 28, 29, 30, 31, 32, 33, 34, 35, 36, 37, 38]) true [2, 3, 4] [] [(13, Value.pointer (some { block := g1, off := 0 })), (12, Value.bool true), (5, Value.pointer (some { block := g1, off := 0 })), (4, Value.bool false), (0, Value.int IntKind.i64 most)] [Ch.blk g1 52 [Value.bool false, Value.string (mkS []), Value.int IntKind.i64 0, Value.int IntKind.i64 0]] [] (by kernel_rfl) (by kernel_rfl) trivial ?_
  refine wpr_call_all (dst := some 14) (by kernel_rfl) (Bool_un g1) give_all ?_
  rintro v hp' ⟨rfl, rfl⟩
  refine wpr_run (l₂ := [11, 12, 13, 14, 15, 16, 17, 18, 19, 20, 21, 22, 23, 24, 25, 26, 27, 28, 29, 30, 31, 32, 33, 34, 35, 36, 37, 38]) true [6, 7, 8, 9, 10] [] [(19, Value.int IntKind.i64 most), (18, Value.pointer (some { block := g1, off := 0 })), (17, Value.bool true), (5, Value.pointer (some { block := g1, off := 0 })), (4, Value.bool false), (0, Value.int IntKind.i64 most)] [Ch.blk g1 52 [Value.bool false, Value.string (mkS []), Value.int IntKind.i64 0, Value.int IntKind.i64 0]] [] (by kernel_rfl) (by kernel_rfl) trivial ?_
  refine wpr_call_all (dst := some 20) (by kernel_rfl) (Count_un g1 most) give_all ?_
  rintro v hp' ⟨rfl, rfl⟩
  refine wpr_run (l₂ := [17, 18, 19, 20, 21, 22, 23, 24, 25, 26, 27, 28, 29, 30, 31, 32, 33, 34, 35, 36, 37, 38]) true [12, 13, 14, 15, 16] [] [(25, Value.int IntKind.i64 most), (24, Value.pointer (some { block := g1, off := 0 })), (23, Value.bool true), (5, Value.pointer (some { block := g1, off := 0 })), (4, Value.bool false)] [Ch.blk g1 52 [Value.bool false, Value.string (mkS []), Value.int IntKind.i64 0, Value.int IntKind.i64 0]] [] (by kernel_rfl) (by kernel_rfl) trivial ?_
  refine wpr_call_all (dst := some 26) (by kernel_rfl) (Text_un g1 most) give_all ?_
  rintro v hp' ⟨rfl, rfl⟩
  refine wpr_run (l₂ := [22, 23, 24, 25, 26, 27, 28, 29, 30, 31, 32, 33, 34, 35, 36, 37, 38]) true [18, 19, 20, 21] [] [(30, Value.pointer (some { block := g1, off := 0 })), (29, Value.bool true), (5, Value.pointer (some { block := g1, off := 0 })), (4, Value.bool false)] [Ch.blk g1 52 [Value.bool false, Value.string (mkS []), Value.int IntKind.i64 0, Value.int IntKind.i64 0]] [] (by kernel_rfl) (by kernel_rfl) trivial ?_
  refine wpr_call_all (dst := some 31) (by kernel_rfl) (At_un g1) give_all ?_
  rintro v hp' ⟨rfl, rfl⟩
  refine wpr_run (l₂ := [27, 28, 29, 30, 31, 32, 33, 34, 35, 36, 37, 38]) true [23, 24, 25, 26] [] [(35, Value.pointer (some { block := g1, off := 0 })), (34, Value.bool true), (5, Value.pointer (some { block := g1, off := 0 })), (4, Value.bool false)] [Ch.blk g1 52 [Value.bool false, Value.string (mkS []), Value.int IntKind.i64 0, Value.int IntKind.i64 0]] [] (by kernel_rfl) (by kernel_rfl) trivial ?_
  refine wpr_call_all (dst := some 36) (by kernel_rfl) (Err_un g1) give_all ?_
  rintro v hp' ⟨rfl, rfl⟩
  refine wpr_run (l₂ := [32, 33, 34, 35, 36, 37, 38]) true [28, 29, 30, 31] [] [(40, Value.pointer (some { block := g1, off := 0 })), (39, Value.bool true), (4, Value.bool false)] [Ch.blk g1 52 [Value.bool false, Value.string (mkS []), Value.int IntKind.i64 0, Value.int IntKind.i64 0]] [] (by kernel_rfl) (by kernel_rfl) trivial ?_
  refine wpr_call_all (dst := some 41) (by kernel_rfl) (End_un g1) give_all ?_
  rintro v hp' ⟨rfl, rfl⟩
  refine wpr_run (l₂ := [36, 37, 38]) true [33, 34, 35] [] [(44, Value.bool true), (4, Value.bool false)] [Ch.blk g1 52 [Value.bool false, Value.string (mkS []), Value.int IntKind.i64 0, Value.int IntKind.i64 0]] [] (by kernel_rfl) (by kernel_rfl) trivial ?_
  refine wpr_call (dst := some 45) (rest := [Ch.blk g1 52 [Value.bool false, Value.string (mkS []), Value.int IntKind.i64 0, Value.int IntKind.i64 0]]) (by kernel_rfl) (lives_spec) (give [] (by kernel_rfl)) ?_
  rintro v hp' ⟨rfl, rfl⟩
  refine wpr_run (l₂ := []) true [37, 38] [] [(4, Value.bool true)] [Ch.blk g1 52 [Value.bool false, Value.string (mkS []), Value.int IntKind.i64 0, Value.int IntKind.i64 0]] [] (by kernel_rfl) (by kernel_rfl) trivial ?_
  refine wpr_nil ?_
  refine nx_then ?_
  refine wpc_ret ?_
  refine nx_end (hp' := []) (rest := [Ch.blk g1 52 [Value.bool false, Value.string (mkS []), Value.int IntKind.i64 0, Value.int IntKind.i64 0]]) [] ((Value.bool true)) (by kernel_rfl) (by kernel_rfl) (give [] (by kernel_rfl)) (by first | ((repeat (first | exact trivial | refine ⟨trivial, ?_⟩)); done) | assumption) ?_ (.inr rfl)
  exact ⟨rfl, rfl⟩
theorem WireNil_spec (most : Int) (m : Bool) : Does Try.prog 9 [.int .i64 most, .bool m] [] (fun v hp' => v = .bool true ∧ hp' = []) := by
  cases m
  · exact WireNil_nil most
  · exact WireNil_un most
end Go.Proofs.Ytgkcodkeikaeeaa
