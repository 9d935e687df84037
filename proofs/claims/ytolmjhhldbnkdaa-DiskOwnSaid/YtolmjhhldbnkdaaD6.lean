import Derived.Test.YtolmjhhldbnkdaaD5
import Derived.Test.YtolmjhhldbnkdaaX8
namespace Go.Proofs.Ytolmjhhldbnkdaa
open Go Go.Sx
set_option linter.unusedVariables false
set_option linter.unusedSimpArgs false

def UN (d : Nat) : Ch := .blk d 46 [.bool false, .slice none 0 0, .int .i64 0]
theorem Append_nil (b : Option Addr) (n cb : Nat) :
    Does Try.prog 8 [.pointer none, .slice b n cb] [] (fun v hp' => v = .int .i64 1 ∧ hp' = []) := by
  refine fn_enter Try.func8 rfl 8 rfl fun w0 h0 => ?_
  refine wpc_seq ?_
  refine wpc_region [0, 1, 2] (by kernel_rfl) ?_
  refine wpr_new (l₂ := [1, 2]) true [0] [] (fun g1 => [(2, Value.pointer (some { block := g1, off := 0 })), (1, Value.slice b n cb)]) (fun g1 => [Ch.blk g1 23 [Value.pointer none]]) (fun g1 => []) (fun g1 => by kernel_rfl) (fun g1 => by kernel_rfl) (fun g1 => trivial) fun g1 => ?_
  refine wpr_new (l₂ := [2]) true [1] [] (fun g2 => [(3, Value.pointer (some { block := g2, off := 0 })), (2, Value.pointer (some { block := g1, off := 0 }))]) (fun g2 => [Ch.blk g1 23 [Value.pointer none], Ch.blk g2 22 [Value.slice b n cb]]) (fun g2 => []) (fun g2 => by kernel_rfl) (fun g2 => by kernel_rfl) (fun g2 => trivial) fun g2 => ?_
  refine wpr_run (l₂ := []) true [2] [] [(4, Value.int IntKind.i64 0), (3, Value.pointer (some { block := g2, off := 0 })), (2, Value.pointer (some { block := g1, off := 0 }))] [Ch.blk g1 23 [Value.pointer none], Ch.blk g2 22 [Value.slice b n cb]] [] (by kernel_rfl) (by kernel_rfl) trivial ?_
  refine wpr_nil ?_
  refine nx_then ?_
  refine wpc_seq ?_
  refine wpc_region [0, 1, 2, 3] (by kernel_rfl) ?_
  refine wpr_run (l₂ := [2, 3]) true [0, 1] [0] [(6, Value.func (Fn.func 22) #[] #[Value.pointer (some { block := g1, off := 0 }), Value.pointer (some { block := g2, off := 0 })]), (5, Value.pointer none), (4, Value.int IntKind.i64 0)] [Ch.blk g1 23 [Value.pointer none], Ch.blk g2 22 [Value.slice b n cb]] [] (by kernel_rfl) (by kernel_rfl) trivial ?_
  refine wpr_call (dst := some 7) (rest := [Ch.blk g1 23 [Value.pointer none], Ch.blk g2 22 [Value.slice b n cb]]) (by kernel_rfl) (with22_nil g1 g2) (give [] (by kernel_rfl)) ?_
  rintro v hp' ⟨rfl, rfl⟩
  refine wpr_run (l₂ := []) true [3] [] [(4, Value.int IntKind.i64 1)] [Ch.blk g1 23 [Value.pointer none], Ch.blk g2 22 [Value.slice b n cb]] [] (by kernel_rfl) (by kernel_rfl) trivial ?_
  refine wpr_nil ?_
  refine nx_then ?_
  refine wpc_ret ?_
  refine nx_end (hp' := []) (rest := [Ch.blk g1 23 [Value.pointer none], Ch.blk g2 22 [Value.slice b n cb]]) [] ((Value.int IntKind.i64 1)) (by kernel_rfl) (by kernel_rfl) (give [] (by kernel_rfl)) (by first | ((repeat (first | exact trivial | refine ⟨trivial, ?_⟩)); done) | assumption) ?_ (.inr rfl)
  exact ⟨rfl, rfl⟩
theorem Append_un (d : Nat) (b : Option Addr) (n cb : Nat) :
    Does Try.prog 8 [.pointer (some ⟨d, 0, none⟩), .slice b n cb] [UN d] (fun v hp' => v = .int .i64 1 ∧ hp' = [UN d]) := by
  refine fn_enter Try.func8 rfl 8 rfl fun w0 h0 => ?_
  unfold UN
  refine wpc_seq ?_
  refine wpc_region [0, 1, 2] (by kernel_rfl) ?_
  refine wpr_new (l₂ := [1, 2]) true [0] [] (fun g1 => [(2, Value.pointer (some { block := g1, off := 0 })), (1, Value.slice b n cb)]) (fun g1 => [Ch.blk d 46 [Value.bool false, Value.slice none 0 0, Value.int IntKind.i64 0], Ch.blk g1 23 [Value.pointer (some { block := d, off := 0 })]]) (fun g1 => []) (fun g1 => by kernel_rfl) (fun g1 => by kernel_rfl) (fun g1 => trivial) fun g1 => ?_
  refine wpr_new (l₂ := [2]) true [1] [] (fun g2 => [(3, Value.pointer (some { block := g2, off := 0 })), (2, Value.pointer (some { block := g1, off := 0 }))]) (fun g2 => [Ch.blk d 46 [Value.bool false, Value.slice none 0 0, Value.int IntKind.i64 0], Ch.blk g1 23 [Value.pointer (some { block := d, off := 0 })], Ch.blk g2 22 [Value.slice b n cb]]) (fun g2 => []) (fun g2 => by kernel_rfl) (fun g2 => by kernel_rfl) (fun g2 => trivial) fun g2 => ?_
  refine wpr_run (l₂ := []) true [2] [] [(4, Value.int IntKind.i64 0), (3, Value.pointer (some { block := g2, off := 0 })), (2, Value.pointer (some { block := g1, off := 0 }))] [Ch.blk d 46 [Value.bool false, Value.slice none 0 0, Value.int IntKind.i64 0], Ch.blk g1 23 [Value.pointer (some { block := d, off := 0 })], Ch.blk g2 22 [Value.slice b n cb]] [] (by kernel_rfl) (by kernel_rfl) trivial ?_
  refine wpr_nil ?_
  refine nx_then ?_
  refine wpc_seq ?_
  refine wpc_region [0, 1, 2, 3] (by kernel_rfl) ?_
  refine wpr_run (l₂ := [2, 3]) true [0, 1] [1] [(6, Value.func (Fn.func 22) #[] #[Value.pointer (some { block := g1, off := 0 }), Value.pointer (some { block := g2, off := 0 })]), (5, Value.pointer (some { block := d, off := 0 })), (4, Value.int IntKind.i64 0)] [Ch.blk d 46 [Value.bool false, Value.slice none 0 0, Value.int IntKind.i64 0], Ch.blk g1 23 [Value.pointer (some { block := d, off := 0 })], Ch.blk g2 22 [Value.slice b n cb]] [] (by kernel_rfl) (by kernel_rfl) trivial ?_
  refine wpr_call (dst := some 7) (rest := [Ch.blk g1 23 [Value.pointer (some { block := d, off := 0 })], Ch.blk g2 22 [Value.slice b n cb]]) (by kernel_rfl) (with22_un d g1 g2) (give [0] (by kernel_rfl)) ?_
  rintro v hp' ⟨rfl, rfl⟩
  refine wpr_run (l₂ := []) true [3] [] [(4, Value.int IntKind.i64 1)] [Ch.blk d 46 [Value.bool false, Value.slice none 0 0, Value.int IntKind.i64 0], Ch.blk g1 23 [Value.pointer (some { block := d, off := 0 })], Ch.blk g2 22 [Value.slice b n cb]] [] (by kernel_rfl) (by kernel_rfl) trivial ?_
  refine wpr_nil ?_
  refine nx_then ?_
  refine wpc_ret ?_
  refine nx_end (hp' := [Ch.blk d 46 [Value.bool false, Value.slice none 0 0, Value.int IntKind.i64 0]]) (rest := [Ch.blk g1 23 [Value.pointer (some { block := d, off := 0 })], Ch.blk g2 22 [Value.slice b n cb]]) [] ((Value.int IntKind.i64 1)) (by kernel_rfl) (by kernel_rfl) (give [0] (by kernel_rfl)) (by first | ((repeat (first | exact trivial | refine ⟨trivial, ?_⟩)); done) | assumption) ?_ (.inr rfl)
  exact ⟨rfl, rfl⟩
theorem Sync_nil  :
    Does Try.prog 9 [.pointer none] [] (fun v hp' => v = .int .i64 1 ∧ hp' = []) := by
  refine fn_enter Try.func9 rfl 6 rfl fun w0 h0 => ?_
  refine wpc_seq ?_
  refine wpc_region [0, 1] (by kernel_rfl) ?_
  refine wpr_new (l₂ := [1]) true [0] [] (fun g1 => [(1, Value.pointer (some { block := g1, off := 0 }))]) (fun g1 => [Ch.blk g1 23 [Value.pointer none]]) (fun g1 => []) (fun g1 => by kernel_rfl) (fun g1 => by kernel_rfl) (fun g1 => trivial) fun g1 => ?_
  refine wpr_run (l₂ := []) true [1] [] [(2, Value.int IntKind.i64 0), (1, Value.pointer (some { block := g1, off := 0 }))] [Ch.blk g1 23 [Value.pointer none]] [] (by kernel_rfl) (by kernel_rfl) trivial ?_
  refine wpr_nil ?_
  refine nx_then ?_
  refine wpc_seq ?_
  refine wpc_region [0, 1, 2, 3] (by kernel_rfl) ?_
  refine wpr_run (l₂ := [2, 3]) true [0, 1] [0] [(4, Value.func (Fn.func 23) #[] #[Value.pointer (some { block := g1, off := 0 })]), (3, Value.pointer none), (2, Value.int IntKind.i64 0)] [Ch.blk g1 23 [Value.pointer none]] [] (by kernel_rfl) (by kernel_rfl) trivial ?_
  refine wpr_call (dst := some 5) (rest := [Ch.blk g1 23 [Value.pointer none]]) (by kernel_rfl) (with23_nil g1) (give [] (by kernel_rfl)) ?_
  rintro v hp' ⟨rfl, rfl⟩
  refine wpr_run (l₂ := []) true [3] [] [(2, Value.int IntKind.i64 1)] [Ch.blk g1 23 [Value.pointer none]] [] (by kernel_rfl) (by kernel_rfl) trivial ?_
  refine wpr_nil ?_
  refine nx_then ?_
  refine wpc_ret ?_
  refine nx_end (hp' := []) (rest := [Ch.blk g1 23 [Value.pointer none]]) [] ((Value.int IntKind.i64 1)) (by kernel_rfl) (by kernel_rfl) (give [] (by kernel_rfl)) (by first | ((repeat (first | exact trivial | refine ⟨trivial, ?_⟩)); done) | assumption) ?_ (.inr rfl)
  exact ⟨rfl, rfl⟩
theorem Sync_un (d : Nat)  :
    Does Try.prog 9 [.pointer (some ⟨d, 0, none⟩)] [UN d] (fun v hp' => v = .int .i64 1 ∧ hp' = [UN d]) := by
  refine fn_enter Try.func9 rfl 6 rfl fun w0 h0 => ?_
  unfold UN
  refine wpc_seq ?_
  refine wpc_region [0, 1] (by kernel_rfl) ?_
  refine wpr_new (l₂ := [1]) true [0] [] (fun g1 => [(1, Value.pointer (some { block := g1, off := 0 }))]) (fun g1 => [Ch.blk d 46 [Value.bool false, Value.slice none 0 0, Value.int IntKind.i64 0], Ch.blk g1 23 [Value.pointer (some { block := d, off := 0 })]]) (fun g1 => []) (fun g1 => by kernel_rfl) (fun g1 => by kernel_rfl) (fun g1 => trivial) fun g1 => ?_
  refine wpr_run (l₂ := []) true [1] [] [(2, Value.int IntKind.i64 0), (1, Value.pointer (some { block := g1, off := 0 }))] [Ch.blk d 46 [Value.bool false, Value.slice none 0 0, Value.int IntKind.i64 0], Ch.blk g1 23 [Value.pointer (some { block := d, off := 0 })]] [] (by kernel_rfl) (by kernel_rfl) trivial ?_
  refine wpr_nil ?_
  refine nx_then ?_
  refine wpc_seq ?_
  refine wpc_region [0, 1, 2, 3] (by kernel_rfl) ?_
  refine wpr_run (l₂ := [2, 3]) true [0, 1] [1] [(4, Value.func (Fn.func 23) #[] #[Value.pointer (some { block := g1, off := 0 })]), (3, Value.pointer (some { block := d, off := 0 })), (2, Value.int IntKind.i64 0)] [Ch.blk d 46 [Value.bool false, Value.slice none 0 0, Value.int IntKind.i64 0], Ch.blk g1 23 [Value.pointer (some { block := d, off := 0 })]] [] (by kernel_rfl) (by kernel_rfl) trivial ?_
  refine wpr_call (dst := some 5) (rest := [Ch.blk g1 23 [Value.pointer (some { block := d, off := 0 })]]) (by kernel_rfl) (with23_un d g1) (give [0] (by kernel_rfl)) ?_
  rintro v hp' ⟨rfl, rfl⟩
  refine wpr_run (l₂ := []) true [3] [] [(2, Value.int IntKind.i64 1)] [Ch.blk d 46 [Value.bool false, Value.slice none 0 0, Value.int IntKind.i64 0], Ch.blk g1 23 [Value.pointer (some { block := d, off := 0 })]] [] (by kernel_rfl) (by kernel_rfl) trivial ?_
  refine wpr_nil ?_
  refine nx_then ?_
  refine wpc_ret ?_
  refine nx_end (hp' := [Ch.blk d 46 [Value.bool false, Value.slice none 0 0, Value.int IntKind.i64 0]]) (rest := [Ch.blk g1 23 [Value.pointer (some { block := d, off := 0 })]]) [] ((Value.int IntKind.i64 1)) (by kernel_rfl) (by kernel_rfl) (give [0] (by kernel_rfl)) (by first | ((repeat (first | exact trivial | refine ⟨trivial, ?_⟩)); done) | assumption) ?_ (.inr rfl)
  exact ⟨rfl, rfl⟩
theorem Crash_nil (k : Int) :
    Does Try.prog 10 [.pointer none, .int .i64 k] [] (fun v hp' => v = .int .i64 1 ∧ hp' = []) := by
  refine fn_enter Try.func10 rfl 8 rfl fun w0 h0 => ?_
  refine wpc_seq ?_
  refine wpc_region [0, 1, 2] (by kernel_rfl) ?_
  refine wpr_new (l₂ := [1, 2]) true [0] [] (fun g1 => [(2, Value.pointer (some { block := g1, off := 0 })), (1, Value.int IntKind.i64 k)]) (fun g1 => [Ch.blk g1 23 [Value.pointer none]]) (fun g1 => []) (fun g1 => by kernel_rfl) (fun g1 => by kernel_rfl) (fun g1 => trivial) fun g1 => ?_
  refine wpr_new (l₂ := [2]) true [1] [] (fun g2 => [(3, Value.pointer (some { block := g2, off := 0 })), (2, Value.pointer (some { block := g1, off := 0 }))]) (fun g2 => [Ch.blk g1 23 [Value.pointer none], Ch.blk g2 3 [Value.int IntKind.i64 k]]) (fun g2 => []) (fun g2 => by kernel_rfl) (fun g2 => by kernel_rfl) (fun g2 => trivial) fun g2 => ?_
  refine wpr_run (l₂ := []) true [2] [] [(4, Value.int IntKind.i64 0), (3, Value.pointer (some { block := g2, off := 0 })), (2, Value.pointer (some { block := g1, off := 0 }))] [Ch.blk g1 23 [Value.pointer none], Ch.blk g2 3 [Value.int IntKind.i64 k]] [] (by kernel_rfl) (by kernel_rfl) trivial ?_
  refine wpr_nil ?_
  refine nx_then ?_
  refine wpc_seq ?_
  refine wpc_region [0, 1, 2, 3] (by kernel_rfl) ?_
  refine wpr_run (l₂ := [2, 3]) true [0, 1] [0] [(6, Value.func (Fn.func 24) #[] #[Value.pointer (some { block := g1, off := 0 }), Value.pointer (some { block := g2, off := 0 })]), (5, Value.pointer none), (4, Value.int IntKind.i64 0)] [Ch.blk g1 23 [Value.pointer none], Ch.blk g2 3 [Value.int IntKind.i64 k]] [] (by kernel_rfl) (by kernel_rfl) trivial ?_
  refine wpr_call (dst := some 7) (rest := [Ch.blk g1 23 [Value.pointer none], Ch.blk g2 3 [Value.int IntKind.i64 k]]) (by kernel_rfl) (with24_nil g1 g2) (give [] (by kernel_rfl)) ?_
  rintro v hp' ⟨rfl, rfl⟩
  refine wpr_run (l₂ := []) true [3] [] [(4, Value.int IntKind.i64 1)] [Ch.blk g1 23 [Value.pointer none], Ch.blk g2 3 [Value.int IntKind.i64 k]] [] (by kernel_rfl) (by kernel_rfl) trivial ?_
  refine wpr_nil ?_
  refine nx_then ?_
  refine wpc_ret ?_
  refine nx_end (hp' := []) (rest := [Ch.blk g1 23 [Value.pointer none], Ch.blk g2 3 [Value.int IntKind.i64 k]]) [] ((Value.int IntKind.i64 1)) (by kernel_rfl) (by kernel_rfl) (give [] (by kernel_rfl)) (by first | ((repeat (first | exact trivial | refine ⟨trivial, ?_⟩)); done) | assumption) ?_ (.inr rfl)
  exact ⟨rfl, rfl⟩
theorem Crash_un (d : Nat) (k : Int) :
    Does Try.prog 10 [.pointer (some ⟨d, 0, none⟩), .int .i64 k] [UN d] (fun v hp' => v = .int .i64 1 ∧ hp' = [UN d]) := by
  refine fn_enter Try.func10 rfl 8 rfl fun w0 h0 => ?_
  unfold UN
  refine wpc_seq ?_
  refine wpc_region [0, 1, 2] (by kernel_rfl) ?_
  refine wpr_new (l₂ := [1, 2]) true [0] [] (fun g1 => [(2, Value.pointer (some { block := g1, off := 0 })), (1, Value.int IntKind.i64 k)]) (fun g1 => [Ch.blk d 46 [Value.bool false, Value.slice none 0 0, Value.int IntKind.i64 0], Ch.blk g1 23 [Value.pointer (some { block := d, off := 0 })]]) (fun g1 => []) (fun g1 => by kernel_rfl) (fun g1 => by kernel_rfl) (fun g1 => trivial) fun g1 => ?_
  refine wpr_new (l₂ := [2]) true [1] [] (fun g2 => [(3, Value.pointer (some { block := g2, off := 0 })), (2, Value.pointer (some { block := g1, off := 0 }))]) (fun g2 => [Ch.blk d 46 [Value.bool false, Value.slice none 0 0, Value.int IntKind.i64 0], Ch.blk g1 23 [Value.pointer (some { block := d, off := 0 })], Ch.blk g2 3 [Value.int IntKind.i64 k]]) (fun g2 => []) (fun g2 => by kernel_rfl) (fun g2 => by kernel_rfl) (fun g2 => trivial) fun g2 => ?_
  refine wpr_run (l₂ := []) true [2] [] [(4, Value.int IntKind.i64 0), (3, Value.pointer (some { block := g2, off := 0 })), (2, Value.pointer (some { block := g1, off := 0 }))] [Ch.blk d 46 [Value.bool false, Value.slice none 0 0, Value.int IntKind.i64 0], Ch.blk g1 23 [Value.pointer (some { block := d, off := 0 })], Ch.blk g2 3 [Value.int IntKind.i64 k]] [] (by kernel_rfl) (by kernel_rfl) trivial ?_
  refine wpr_nil ?_
  refine nx_then ?_
  refine wpc_seq ?_
  refine wpc_region [0, 1, 2, 3] (by kernel_rfl) ?_
  refine wpr_run (l₂ := [2, 3]) true [0, 1] [1] [(6, Value.func (Fn.func 24) #[] #[Value.pointer (some { block := g1, off := 0 }), Value.pointer (some { block := g2, off := 0 })]), (5, Value.pointer (some { block := d, off := 0 })), (4, Value.int IntKind.i64 0)] [Ch.blk d 46 [Value.bool false, Value.slice none 0 0, Value.int IntKind.i64 0], Ch.blk g1 23 [Value.pointer (some { block := d, off := 0 })], Ch.blk g2 3 [Value.int IntKind.i64 k]] [] (by kernel_rfl) (by kernel_rfl) trivial ?_
  refine wpr_call (dst := some 7) (rest := [Ch.blk g1 23 [Value.pointer (some { block := d, off := 0 })], Ch.blk g2 3 [Value.int IntKind.i64 k]]) (by kernel_rfl) (with24_un d g1 g2) (give [0] (by kernel_rfl)) ?_
  rintro v hp' ⟨rfl, rfl⟩
  refine wpr_run (l₂ := []) true [3] [] [(4, Value.int IntKind.i64 1)] [Ch.blk d 46 [Value.bool false, Value.slice none 0 0, Value.int IntKind.i64 0], Ch.blk g1 23 [Value.pointer (some { block := d, off := 0 })], Ch.blk g2 3 [Value.int IntKind.i64 k]] [] (by kernel_rfl) (by kernel_rfl) trivial ?_
  refine wpr_nil ?_
  refine nx_then ?_
  refine wpc_ret ?_
  refine nx_end (hp' := [Ch.blk d 46 [Value.bool false, Value.slice none 0 0, Value.int IntKind.i64 0]]) (rest := [Ch.blk g1 23 [Value.pointer (some { block := d, off := 0 })], Ch.blk g2 3 [Value.int IntKind.i64 k]]) [] ((Value.int IntKind.i64 1)) (by kernel_rfl) (by kernel_rfl) (give [0] (by kernel_rfl)) (by first | ((repeat (first | exact trivial | refine ⟨trivial, ?_⟩)); done) | assumption) ?_ (.inr rfl)
  exact ⟨rfl, rfl⟩
theorem Cut_nil (k : Int) :
    Does Try.prog 17 [.pointer none, .int .i64 k] [] (fun v hp' => v = .int .i64 1 ∧ hp' = []) := by
  refine fn_enter Try.func17 rfl 14 rfl fun w0 h0 => ?_
  refine wpc_seq ?_
  refine wpc_region [0, 1, 2] (by kernel_rfl) ?_
  refine wpr_new (l₂ := [1, 2]) true [0] [] (fun g1 => [(2, Value.pointer (some { block := g1, off := 0 })), (1, Value.int IntKind.i64 k)]) (fun g1 => [Ch.blk g1 23 [Value.pointer none]]) (fun g1 => []) (fun g1 => by kernel_rfl) (fun g1 => by kernel_rfl) (fun g1 => trivial) fun g1 => ?_
  refine wpr_new (l₂ := [2]) true [1] [] (fun g2 => [(3, Value.pointer (some { block := g2, off := 0 })), (2, Value.pointer (some { block := g1, off := 0 }))]) (fun g2 => [Ch.blk g1 23 [Value.pointer none], Ch.blk g2 3 [Value.int IntKind.i64 k]]) (fun g2 => []) (fun g2 => by kernel_rfl) (fun g2 => by kernel_rfl) (fun g2 => trivial) fun g2 => ?_
  refine wpr_run (l₂ := []) true [2] [] [(4, Value.int IntKind.i64 0), (3, Value.pointer (some { block := g2, off := 0 })), (2, Value.pointer (some { block := g1, off := 0 }))] [Ch.blk g1 23 [Value.pointer none], Ch.blk g2 3 [Value.int IntKind.i64 k]] [] (by kernel_rfl) (by kernel_rfl) trivial ?_
  refine wpr_nil ?_
  refine nx_then ?_
  refine wpc_seq ?_
  refine wpc_region [0, 1] (by kernel_rfl) ?_
  refine wpr_new (l₂ := [1]) true [0] [] (fun g3 => [(5, Value.pointer (some { block := g3, off := 0 })), (4, Value.int IntKind.i64 0), (3, Value.pointer (some { block := g2, off := 0 })), (2, Value.pointer (some { block := g1, off := 0 }))]) (fun g3 => [Ch.blk g1 23 [Value.pointer none], Ch.blk g2 3 [Value.int IntKind.i64 k], Ch.blk g3 25 [Value.int IntKind.i64 0]]) (fun g3 => []) (fun g3 => by kernel_rfl) (fun g3 => by kernel_rfl) (fun g3 => trivial) fun g3 => ?_
  refine wpr_run (l₂ := []) true [1] [2] [(5, Value.pointer (some { block := g3, off := 0 })), (4, Value.int IntKind.i64 0), (3, Value.pointer (some { block := g2, off := 0 })), (2, Value.pointer (some { block := g1, off := 0 }))] [Ch.blk g1 23 [Value.pointer none], Ch.blk g2 3 [Value.int IntKind.i64 k], Ch.blk g3 25 [Value.int IntKind.i64 0]] [] (by kernel_rfl) (by kernel_rfl) trivial ?_
  refine wpr_nil ?_
  refine nx_then ?_
  refine wpc_seq ?_
  refine wpc_seq ?_
  refine wpc_region [0, 1, 2, 3] (by kernel_rfl) ?_
  refine wpr_run (l₂ := [2, 3]) true [0, 1] [0] [(8, Value.func (Fn.func 28) #[] #[Value.pointer (some { block := g2, off := 0 }), Value.pointer (some { block := g1, off := 0 }), Value.pointer (some { block := g3, off := 0 })]), (7, Value.pointer none), (5, Value.pointer (some { block := g3, off := 0 })), (4, Value.int IntKind.i64 0)] [Ch.blk g1 23 [Value.pointer none], Ch.blk g2 3 [Value.int IntKind.i64 k], Ch.blk g3 25 [Value.int IntKind.i64 0]] [] (by kernel_rfl) (by kernel_rfl) trivial ?_
  refine wpr_call (dst := some 9) (rest := [Ch.blk g1 23 [Value.pointer none], Ch.blk g2 3 [Value.int IntKind.i64 k], Ch.blk g3 25 [Value.int IntKind.i64 0]]) (by kernel_rfl) (with28_nil g2 g1 g3) (give [] (by kernel_rfl)) ?_
  rintro v hp' ⟨rfl, rfl⟩
  refine wpr_run (l₂ := []) true [3] [] [(6, Value.int IntKind.i64 1), (5, Value.pointer (some { block := g3, off := 0 })), (4, Value.int IntKind.i64 0)] [Ch.blk g1 23 [Value.pointer none], Ch.blk g2 3 [Value.int IntKind.i64 k], Ch.blk g3 25 [Value.int IntKind.i64 0]] [] (by kernel_rfl) (by kernel_rfl) trivial ?_
  refine wpr_nil ?_
  refine nx_then ?_
  refine wpc_seq ?_
  refine wpc_region [0, 1] (by kernel_rfl) ?_
  refine wpr_run (l₂ := []) true [0, 1] [] [(11, Value.bool true), (6, Value.int IntKind.i64 1), (5, Value.pointer (some { block := g3, off := 0 })), (4, Value.int IntKind.i64 0)] [Ch.blk g1 23 [Value.pointer none], Ch.blk g2 3 [Value.int IntKind.i64 k], Ch.blk g3 25 [Value.int IntKind.i64 0]] [] (by kernel_rfl) (by kernel_rfl) trivial ?_
  refine wpr_nil ?_
  refine nx_then ?_
  refine wpc_true (by kernel_rfl) ?_
  refine wpc_seq ?_
  refine wpc_region [0, 1] (by kernel_rfl) ?_
  refine wpr_run (l₂ := []) true [0, 1] [] [(4, Value.int IntKind.i64 1), (5, Value.pointer (some { block := g3, off := 0 }))] [Ch.blk g1 23 [Value.pointer none], Ch.blk g2 3 [Value.int IntKind.i64 k], Ch.blk g3 25 [Value.int IntKind.i64 0]] [] (by kernel_rfl) (by kernel_rfl) trivial ?_
  refine wpr_nil ?_
  refine nx_then ?_
  refine wpc_ret ?_
  refine nx_then_ret ?_
  refine nx_end (hp' := []) (rest := [Ch.blk g1 23 [Value.pointer none], Ch.blk g2 3 [Value.int IntKind.i64 k], Ch.blk g3 25 [Value.int IntKind.i64 0]]) [] ((Value.int IntKind.i64 1)) (by kernel_rfl) (by kernel_rfl) (give [] (by kernel_rfl)) (by first | ((repeat (first | exact trivial | refine ⟨trivial, ?_⟩)); done) | assumption) ?_ (.inr rfl)
  exact ⟨rfl, rfl⟩
theorem Cut_un (d : Nat) (k : Int) :
    Does Try.prog 17 [.pointer (some ⟨d, 0, none⟩), .int .i64 k] [UN d] (fun v hp' => v = .int .i64 1 ∧ hp' = [UN d]) := by
  refine fn_enter Try.func17 rfl 14 rfl fun w0 h0 => ?_
  unfold UN
  refine wpc_seq ?_
  refine wpc_region [0, 1, 2] (by kernel_rfl) ?_
  refine wpr_new (l₂ := [1, 2]) true [0] [] (fun g1 => [(2, Value.pointer (some { block := g1, off := 0 })), (1, Value.int IntKind.i64 k)]) (fun g1 => [Ch.blk d 46 [Value.bool false, Value.slice none 0 0, Value.int IntKind.i64 0], Ch.blk g1 23 [Value.pointer (some { block := d, off := 0 })]]) (fun g1 => []) (fun g1 => by kernel_rfl) (fun g1 => by kernel_rfl) (fun g1 => trivial) fun g1 => ?_
  refine wpr_new (l₂ := [2]) true [1] [] (fun g2 => [(3, Value.pointer (some { block := g2, off := 0 })), (2, Value.pointer (some { block := g1, off := 0 }))]) (fun g2 => [Ch.blk d 46 [Value.bool false, Value.slice none 0 0, Value.int IntKind.i64 0], Ch.blk g1 23 [Value.pointer (some { block := d, off := 0 })], Ch.blk g2 3 [Value.int IntKind.i64 k]]) (fun g2 => []) (fun g2 => by kernel_rfl) (fun g2 => by kernel_rfl) (fun g2 => trivial) fun g2 => ?_
  refine wpr_run (l₂ := []) true [2] [] [(4, Value.int IntKind.i64 0), (3, Value.pointer (some { block := g2, off := 0 })), (2, Value.pointer (some { block := g1, off := 0 }))] [Ch.blk d 46 [Value.bool false, Value.slice none 0 0, Value.int IntKind.i64 0], Ch.blk g1 23 [Value.pointer (some { block := d, off := 0 })], Ch.blk g2 3 [Value.int IntKind.i64 k]] [] (by kernel_rfl) (by kernel_rfl) trivial ?_
  refine wpr_nil ?_
  refine nx_then ?_
  refine wpc_seq ?_
  refine wpc_region [0, 1] (by kernel_rfl) ?_
  refine wpr_new (l₂ := [1]) true [0] [] (fun g3 => [(5, Value.pointer (some { block := g3, off := 0 })), (4, Value.int IntKind.i64 0), (3, Value.pointer (some { block := g2, off := 0 })), (2, Value.pointer (some { block := g1, off := 0 }))]) (fun g3 => [Ch.blk d 46 [Value.bool false, Value.slice none 0 0, Value.int IntKind.i64 0], Ch.blk g1 23 [Value.pointer (some { block := d, off := 0 })], Ch.blk g2 3 [Value.int IntKind.i64 k], Ch.blk g3 25 [Value.int IntKind.i64 0]]) (fun g3 => []) (fun g3 => by kernel_rfl) (fun g3 => by kernel_rfl) (fun g3 => trivial) fun g3 => ?_
  refine wpr_run (l₂ := []) true [1] [3] [(5, Value.pointer (some { block := g3, off := 0 })), (4, Value.int IntKind.i64 0), (3, Value.pointer (some { block := g2, off := 0 })), (2, Value.pointer (some { block := g1, off := 0 }))] [Ch.blk d 46 [Value.bool false, Value.slice none 0 0, Value.int IntKind.i64 0], Ch.blk g1 23 [Value.pointer (some { block := d, off := 0 })], Ch.blk g2 3 [Value.int IntKind.i64 k], Ch.blk g3 25 [Value.int IntKind.i64 0]] [] (by kernel_rfl) (by kernel_rfl) trivial ?_
  refine wpr_nil ?_
  refine nx_then ?_
  refine wpc_seq ?_
  refine wpc_seq ?_
  refine wpc_region [0, 1, 2, 3] (by kernel_rfl) ?_
  refine wpr_run (l₂ := [2, 3]) true [0, 1] [1] [(8, Value.func (Fn.func 28) #[] #[Value.pointer (some { block := g2, off := 0 }), Value.pointer (some { block := g1, off := 0 }), Value.pointer (some { block := g3, off := 0 })]), (7, Value.pointer (some { block := d, off := 0 })), (5, Value.pointer (some { block := g3, off := 0 })), (4, Value.int IntKind.i64 0)] [Ch.blk d 46 [Value.bool false, Value.slice none 0 0, Value.int IntKind.i64 0], Ch.blk g1 23 [Value.pointer (some { block := d, off := 0 })], Ch.blk g2 3 [Value.int IntKind.i64 k], Ch.blk g3 25 [Value.int IntKind.i64 0]] [] (by kernel_rfl) (by kernel_rfl) trivial ?_
  refine wpr_call (dst := some 9) (rest := [Ch.blk g1 23 [Value.pointer (some { block := d, off := 0 })], Ch.blk g2 3 [Value.int IntKind.i64 k], Ch.blk g3 25 [Value.int IntKind.i64 0]]) (by kernel_rfl) (with28_un d g2 g1 g3) (give [0] (by kernel_rfl)) ?_
  rintro v hp' ⟨rfl, rfl⟩
  refine wpr_run (l₂ := []) true [3] [] [(6, Value.int IntKind.i64 1), (5, Value.pointer (some { block := g3, off := 0 })), (4, Value.int IntKind.i64 0)] [Ch.blk d 46 [Value.bool false, Value.slice none 0 0, Value.int IntKind.i64 0], Ch.blk g1 23 [Value.pointer (some { block := d, off := 0 })], Ch.blk g2 3 [Value.int IntKind.i64 k], Ch.blk g3 25 [Value.int IntKind.i64 0]] [] (by kernel_rfl) (by kernel_rfl) trivial ?_
  refine wpr_nil ?_
  refine nx_then ?_
  refine wpc_seq ?_
  refine wpc_region [0, 1] (by kernel_rfl) ?_
  refine wpr_run (l₂ := []) true [0, 1] [] [(11, Value.bool true), (6, Value.int IntKind.i64 1), (5, Value.pointer (some { block := g3, off := 0 })), (4, Value.int IntKind.i64 0)] [Ch.blk d 46 [Value.bool false, Value.slice none 0 0, Value.int IntKind.i64 0], Ch.blk g1 23 [Value.pointer (some { block := d, off := 0 })], Ch.blk g2 3 [Value.int IntKind.i64 k], Ch.blk g3 25 [Value.int IntKind.i64 0]] [] (by kernel_rfl) (by kernel_rfl) trivial ?_
  refine wpr_nil ?_
  refine nx_then ?_
  refine wpc_true (by kernel_rfl) ?_
  refine wpc_seq ?_
  refine wpc_region [0, 1] (by kernel_rfl) ?_
  refine wpr_run (l₂ := []) true [0, 1] [] [(4, Value.int IntKind.i64 1), (5, Value.pointer (some { block := g3, off := 0 }))] [Ch.blk d 46 [Value.bool false, Value.slice none 0 0, Value.int IntKind.i64 0], Ch.blk g1 23 [Value.pointer (some { block := d, off := 0 })], Ch.blk g2 3 [Value.int IntKind.i64 k], Ch.blk g3 25 [Value.int IntKind.i64 0]] [] (by kernel_rfl) (by kernel_rfl) trivial ?_
  refine wpr_nil ?_
  refine nx_then ?_
  refine wpc_ret ?_
  refine nx_then_ret ?_
  refine nx_end (hp' := [Ch.blk d 46 [Value.bool false, Value.slice none 0 0, Value.int IntKind.i64 0]]) (rest := [Ch.blk g1 23 [Value.pointer (some { block := d, off := 0 })], Ch.blk g2 3 [Value.int IntKind.i64 k], Ch.blk g3 25 [Value.int IntKind.i64 0]]) [] ((Value.int IntKind.i64 1)) (by kernel_rfl) (by kernel_rfl) (give [0] (by kernel_rfl)) (by first | ((repeat (first | exact trivial | refine ⟨trivial, ?_⟩)); done) | assumption) ?_ (.inr rfl)
  exact ⟨rfl, rfl⟩
theorem Bytes_nil  :
    Does Try.prog 11 [.pointer none] [] (fun v hp' => v = .slice none 0 0 ∧ hp' = []) := by
  refine fn_enter Try.func11 rfl 8 rfl fun w0 h0 => ?_
  refine wpc_seq ?_
  refine wpc_region [0, 1] (by kernel_rfl) ?_
  refine wpr_new (l₂ := [1]) true [0] [] (fun g1 => [(1, Value.pointer (some { block := g1, off := 0 }))]) (fun g1 => [Ch.blk g1 23 [Value.pointer none]]) (fun g1 => []) (fun g1 => by kernel_rfl) (fun g1 => by kernel_rfl) (fun g1 => trivial) fun g1 => ?_
  refine wpr_run (l₂ := []) true [1] [] [(2, Value.slice none 0 0), (1, Value.pointer (some { block := g1, off := 0 }))] [Ch.blk g1 23 [Value.pointer none]] [] (by kernel_rfl) (by kernel_rfl) trivial ?_
  refine wpr_nil ?_
  refine nx_then ?_
  refine wpc_seq ?_
  refine wpc_region [0] (by kernel_rfl) ?_
  refine wpr_new (l₂ := []) true [0] [] (fun g2 => [(3, Value.pointer (some { block := g2, off := 0 })), (2, Value.slice none 0 0), (1, Value.pointer (some { block := g1, off := 0 }))]) (fun g2 => [Ch.blk g1 23 [Value.pointer none], Ch.blk g2 22 [Value.slice none 0 0]]) (fun g2 => []) (fun g2 => by kernel_rfl) (fun g2 => by kernel_rfl) (fun g2 => trivial) fun g2 => ?_
  refine wpr_nil ?_
  refine nx_then ?_
  refine wpc_seq ?_
  refine wpc_region [0, 1, 2] (by kernel_rfl) ?_
  refine wpr_run (l₂ := [2]) true [0, 1] [0] [(5, Value.func (Fn.func 25) #[] #[Value.pointer (some { block := g1, off := 0 }), Value.pointer (some { block := g2, off := 0 })]), (4, Value.pointer none), (3, Value.pointer (some { block := g2, off := 0 })), (2, Value.slice none 0 0)] [Ch.blk g1 23 [Value.pointer none], Ch.blk g2 22 [Value.slice none 0 0]] [] (by kernel_rfl) (by kernel_rfl) trivial ?_
  refine wpr_call (dst := some 6) (rest := [Ch.blk g1 23 [Value.pointer none], Ch.blk g2 22 [Value.slice none 0 0]]) (by kernel_rfl) (with25_nil g1 g2) (give [] (by kernel_rfl)) ?_
  rintro v hp' ⟨rfl, rfl⟩
  refine wpr_nil ?_
  refine nx_then ?_
  refine wpc_seq ?_
  refine wpc_region [0, 1] (by kernel_rfl) ?_
  refine wpr_run (l₂ := []) true [0, 1] [1] [(2, Value.slice none 0 0)] [Ch.blk g1 23 [Value.pointer none], Ch.blk g2 22 [Value.slice none 0 0]] [] (by kernel_rfl) (by kernel_rfl) trivial ?_
  refine wpr_nil ?_
  refine nx_then ?_
  refine wpc_ret ?_
  refine nx_end (hp' := []) (rest := [Ch.blk g1 23 [Value.pointer none], Ch.blk g2 22 [Value.slice none 0 0]]) [] ((Value.slice none 0 0)) (by kernel_rfl) (by kernel_rfl) (give [] (by kernel_rfl)) (by first | ((repeat (first | exact trivial | refine ⟨trivial, ?_⟩)); done) | assumption) ?_ (.inr rfl)
  exact ⟨rfl, rfl⟩
theorem Bytes_un (d : Nat)  :
    Does Try.prog 11 [.pointer (some ⟨d, 0, none⟩)] [UN d] (fun v hp' => v = .slice none 0 0 ∧ hp' = [UN d]) := by
  refine fn_enter Try.func11 rfl 8 rfl fun w0 h0 => ?_
  unfold UN
  refine wpc_seq ?_
  refine wpc_region [0, 1] (by kernel_rfl) ?_
  refine wpr_new (l₂ := [1]) true [0] [] (fun g1 => [(1, Value.pointer (some { block := g1, off := 0 }))]) (fun g1 => [Ch.blk d 46 [Value.bool false, Value.slice none 0 0, Value.int IntKind.i64 0], Ch.blk g1 23 [Value.pointer (some { block := d, off := 0 })]]) (fun g1 => []) (fun g1 => by kernel_rfl) (fun g1 => by kernel_rfl) (fun g1 => trivial) fun g1 => ?_
  refine wpr_run (l₂ := []) true [1] [] [(2, Value.slice none 0 0), (1, Value.pointer (some { block := g1, off := 0 }))] [Ch.blk d 46 [Value.bool false, Value.slice none 0 0, Value.int IntKind.i64 0], Ch.blk g1 23 [Value.pointer (some { block := d, off := 0 })]] [] (by kernel_rfl) (by kernel_rfl) trivial ?_
  refine wpr_nil ?_
  refine nx_then ?_
  refine wpc_seq ?_
  refine wpc_region [0] (by kernel_rfl) ?_
  refine wpr_new (l₂ := []) true [0] [] (fun g2 => [(3, Value.pointer (some { block := g2, off := 0 })), (2, Value.slice none 0 0), (1, Value.pointer (some { block := g1, off := 0 }))]) (fun g2 => [Ch.blk d 46 [Value.bool false, Value.slice none 0 0, Value.int IntKind.i64 0], Ch.blk g1 23 [Value.pointer (some { block := d, off := 0 })], Ch.blk g2 22 [Value.slice none 0 0]]) (fun g2 => []) (fun g2 => by kernel_rfl) (fun g2 => by kernel_rfl) (fun g2 => trivial) fun g2 => ?_
  refine wpr_nil ?_
  refine nx_then ?_
  refine wpc_seq ?_
  refine wpc_region [0, 1, 2] (by kernel_rfl) ?_
  refine wpr_run (l₂ := [2]) true [0, 1] [1] [(5, Value.func (Fn.func 25) #[] #[Value.pointer (some { block := g1, off := 0 }), Value.pointer (some { block := g2, off := 0 })]), (4, Value.pointer (some { block := d, off := 0 })), (3, Value.pointer (some { block := g2, off := 0 })), (2, Value.slice none 0 0)] [Ch.blk d 46 [Value.bool false, Value.slice none 0 0, Value.int IntKind.i64 0], Ch.blk g1 23 [Value.pointer (some { block := d, off := 0 })], Ch.blk g2 22 [Value.slice none 0 0]] [] (by kernel_rfl) (by kernel_rfl) trivial ?_
  refine wpr_call (dst := some 6) (rest := [Ch.blk g1 23 [Value.pointer (some { block := d, off := 0 })], Ch.blk g2 22 [Value.slice none 0 0]]) (by kernel_rfl) (with25_un d g1 g2) (give [0] (by kernel_rfl)) ?_
  rintro v hp' ⟨rfl, rfl⟩
  refine wpr_nil ?_
  refine nx_then ?_
  refine wpc_seq ?_
  refine wpc_region [0, 1] (by kernel_rfl) ?_
  refine wpr_run (l₂ := []) true [0, 1] [2] [(2, Value.slice none 0 0)] [Ch.blk d 46 [Value.bool false, Value.slice none 0 0, Value.int IntKind.i64 0], Ch.blk g1 23 [Value.pointer (some { block := d, off := 0 })], Ch.blk g2 22 [Value.slice none 0 0]] [] (by kernel_rfl) (by kernel_rfl) trivial ?_
  refine wpr_nil ?_
  refine nx_then ?_
  refine wpc_ret ?_
  refine nx_end (hp' := [Ch.blk d 46 [Value.bool false, Value.slice none 0 0, Value.int IntKind.i64 0]]) (rest := [Ch.blk g1 23 [Value.pointer (some { block := d, off := 0 })], Ch.blk g2 22 [Value.slice none 0 0]]) [] ((Value.slice none 0 0)) (by kernel_rfl) (by kernel_rfl) (give [0] (by kernel_rfl)) (by first | ((repeat (first | exact trivial | refine ⟨trivial, ?_⟩)); done) | assumption) ?_ (.inr rfl)
  exact ⟨rfl, rfl⟩
theorem Loose_nil  :
    Does Try.prog 19 [.pointer none] [] (fun v hp' => v = .int .i64 0 ∧ hp' = []) := by
  refine fn_enter Try.func19 rfl 8 rfl fun w0 h0 => ?_
  refine wpc_seq ?_
  refine wpc_region [0, 1] (by kernel_rfl) ?_
  refine wpr_new (l₂ := [1]) true [0] [] (fun g1 => [(1, Value.pointer (some { block := g1, off := 0 }))]) (fun g1 => [Ch.blk g1 23 [Value.pointer none]]) (fun g1 => []) (fun g1 => by kernel_rfl) (fun g1 => by kernel_rfl) (fun g1 => trivial) fun g1 => ?_
  refine wpr_run (l₂ := []) true [1] [] [(2, Value.int IntKind.i64 0), (1, Value.pointer (some { block := g1, off := 0 }))] [Ch.blk g1 23 [Value.pointer none]] [] (by kernel_rfl) (by kernel_rfl) trivial ?_
  refine wpr_nil ?_
  refine nx_then ?_
  refine wpc_seq ?_
  refine wpc_region [0, 1] (by kernel_rfl) ?_
  refine wpr_new (l₂ := [1]) true [0] [] (fun g2 => [(3, Value.pointer (some { block := g2, off := 0 })), (2, Value.int IntKind.i64 0), (1, Value.pointer (some { block := g1, off := 0 }))]) (fun g2 => [Ch.blk g1 23 [Value.pointer none], Ch.blk g2 3 [Value.int IntKind.i64 0]]) (fun g2 => []) (fun g2 => by kernel_rfl) (fun g2 => by kernel_rfl) (fun g2 => trivial) fun g2 => ?_
  refine wpr_run (l₂ := []) true [1] [1] [(3, Value.pointer (some { block := g2, off := 0 })), (2, Value.int IntKind.i64 0), (1, Value.pointer (some { block := g1, off := 0 }))] [Ch.blk g1 23 [Value.pointer none], Ch.blk g2 3 [Value.int IntKind.i64 0]] [] (by kernel_rfl) (by kernel_rfl) trivial ?_
  refine wpr_nil ?_
  refine nx_then ?_
  refine wpc_seq ?_
  refine wpc_region [0, 1, 2] (by kernel_rfl) ?_
  refine wpr_run (l₂ := [2]) true [0, 1] [0] [(5, Value.func (Fn.func 29) #[] #[Value.pointer (some { block := g1, off := 0 }), Value.pointer (some { block := g2, off := 0 })]), (4, Value.pointer none), (3, Value.pointer (some { block := g2, off := 0 })), (2, Value.int IntKind.i64 0)] [Ch.blk g1 23 [Value.pointer none], Ch.blk g2 3 [Value.int IntKind.i64 0]] [] (by kernel_rfl) (by kernel_rfl) trivial ?_
  refine wpr_call (dst := some 6) (rest := [Ch.blk g1 23 [Value.pointer none], Ch.blk g2 3 [Value.int IntKind.i64 0]]) (by kernel_rfl) (with29_nil g1 g2) (give [] (by kernel_rfl)) ?_
  rintro v hp' ⟨rfl, rfl⟩
  refine wpr_nil ?_
  refine nx_then ?_
  refine wpc_seq ?_
  refine wpc_region [0, 1] (by kernel_rfl) ?_
  refine wpr_run (l₂ := []) true [0, 1] [1] [(2, Value.int IntKind.i64 0)] [Ch.blk g1 23 [Value.pointer none], Ch.blk g2 3 [Value.int IntKind.i64 0]] [] (by kernel_rfl) (by kernel_rfl) trivial ?_
  refine wpr_nil ?_
  refine nx_then ?_
  refine wpc_ret ?_
  refine nx_end (hp' := []) (rest := [Ch.blk g1 23 [Value.pointer none], Ch.blk g2 3 [Value.int IntKind.i64 0]]) [] ((Value.int IntKind.i64 0)) (by kernel_rfl) (by kernel_rfl) (give [] (by kernel_rfl)) (by first | ((repeat (first | exact trivial | refine ⟨trivial, ?_⟩)); done) | assumption) ?_ (.inr rfl)
  exact ⟨rfl, rfl⟩
theorem Loose_un (d : Nat)  :
    Does Try.prog 19 [.pointer (some ⟨d, 0, none⟩)] [UN d] (fun v hp' => v = .int .i64 0 ∧ hp' = [UN d]) := by
  refine fn_enter Try.func19 rfl 8 rfl fun w0 h0 => ?_
  unfold UN
  refine wpc_seq ?_
  refine wpc_region [0, 1] (by kernel_rfl) ?_
  refine wpr_new (l₂ := [1]) true [0] [] (fun g1 => [(1, Value.pointer (some { block := g1, off := 0 }))]) (fun g1 => [Ch.blk d 46 [Value.bool false, Value.slice none 0 0, Value.int IntKind.i64 0], Ch.blk g1 23 [Value.pointer (some { block := d, off := 0 })]]) (fun g1 => []) (fun g1 => by kernel_rfl) (fun g1 => by kernel_rfl) (fun g1 => trivial) fun g1 => ?_
  refine wpr_run (l₂ := []) true [1] [] [(2, Value.int IntKind.i64 0), (1, Value.pointer (some { block := g1, off := 0 }))] [Ch.blk d 46 [Value.bool false, Value.slice none 0 0, Value.int IntKind.i64 0], Ch.blk g1 23 [Value.pointer (some { block := d, off := 0 })]] [] (by kernel_rfl) (by kernel_rfl) trivial ?_
  refine wpr_nil ?_
  refine nx_then ?_
  refine wpc_seq ?_
  refine wpc_region [0, 1] (by kernel_rfl) ?_
  refine wpr_new (l₂ := [1]) true [0] [] (fun g2 => [(3, Value.pointer (some { block := g2, off := 0 })), (2, Value.int IntKind.i64 0), (1, Value.pointer (some { block := g1, off := 0 }))]) (fun g2 => [Ch.blk d 46 [Value.bool false, Value.slice none 0 0, Value.int IntKind.i64 0], Ch.blk g1 23 [Value.pointer (some { block := d, off := 0 })], Ch.blk g2 3 [Value.int IntKind.i64 0]]) (fun g2 => []) (fun g2 => by kernel_rfl) (fun g2 => by kernel_rfl) (fun g2 => trivial) fun g2 => ?_
  refine wpr_run (l₂ := []) true [1] [2] [(3, Value.pointer (some { block := g2, off := 0 })), (2, Value.int IntKind.i64 0), (1, Value.pointer (some { block := g1, off := 0 }))] [Ch.blk d 46 [Value.bool false, Value.slice none 0 0, Value.int IntKind.i64 0], Ch.blk g1 23 [Value.pointer (some { block := d, off := 0 })], Ch.blk g2 3 [Value.int IntKind.i64 0]] [] (by kernel_rfl) (by kernel_rfl) trivial ?_
  refine wpr_nil ?_
  refine nx_then ?_
  refine wpc_seq ?_
  refine wpc_region [0, 1, 2] (by kernel_rfl) ?_
  refine wpr_run (l₂ := [2]) true [0, 1] [1] [(5, Value.func (Fn.func 29) #[] #[Value.pointer (some { block := g1, off := 0 }), Value.pointer (some { block := g2, off := 0 })]), (4, Value.pointer (some { block := d, off := 0 })), (3, Value.pointer (some { block := g2, off := 0 })), (2, Value.int IntKind.i64 0)] [Ch.blk d 46 [Value.bool false, Value.slice none 0 0, Value.int IntKind.i64 0], Ch.blk g1 23 [Value.pointer (some { block := d, off := 0 })], Ch.blk g2 3 [Value.int IntKind.i64 0]] [] (by kernel_rfl) (by kernel_rfl) trivial ?_
  refine wpr_call (dst := some 6) (rest := [Ch.blk g1 23 [Value.pointer (some { block := d, off := 0 })], Ch.blk g2 3 [Value.int IntKind.i64 0]]) (by kernel_rfl) (with29_un d g1 g2) (give [0] (by kernel_rfl)) ?_
  rintro v hp' ⟨rfl, rfl⟩
  refine wpr_nil ?_
  refine nx_then ?_
  refine wpc_seq ?_
  refine wpc_region [0, 1] (by kernel_rfl) ?_
  refine wpr_run (l₂ := []) true [0, 1] [2] [(2, Value.int IntKind.i64 0)] [Ch.blk d 46 [Value.bool false, Value.slice none 0 0, Value.int IntKind.i64 0], Ch.blk g1 23 [Value.pointer (some { block := d, off := 0 })], Ch.blk g2 3 [Value.int IntKind.i64 0]] [] (by kernel_rfl) (by kernel_rfl) trivial ?_
  refine wpr_nil ?_
  refine nx_then ?_
  refine wpc_ret ?_
  refine nx_end (hp' := [Ch.blk d 46 [Value.bool false, Value.slice none 0 0, Value.int IntKind.i64 0]]) (rest := [Ch.blk g1 23 [Value.pointer (some { block := d, off := 0 })], Ch.blk g2 3 [Value.int IntKind.i64 0]]) [] ((Value.int IntKind.i64 0)) (by kernel_rfl) (by kernel_rfl) (give [0] (by kernel_rfl)) (by first | ((repeat (first | exact trivial | refine ⟨trivial, ?_⟩)); done) | assumption) ?_ (.inr rfl)
  exact ⟨rfl, rfl⟩
theorem Copy_nil  :
    Does Try.prog 15 [.pointer none] [] (fun v hp' => v = .pointer none ∧ hp' = []) := by
  refine fn_enter Try.func15 rfl 8 rfl fun w0 h0 => ?_
  refine wpc_seq ?_
  refine wpc_region [0, 1] (by kernel_rfl) ?_
  refine wpr_new (l₂ := [1]) true [0] [] (fun g1 => [(1, Value.pointer (some { block := g1, off := 0 }))]) (fun g1 => [Ch.blk g1 23 [Value.pointer none]]) (fun g1 => []) (fun g1 => by kernel_rfl) (fun g1 => by kernel_rfl) (fun g1 => trivial) fun g1 => ?_
  refine wpr_run (l₂ := []) true [1] [] [(2, Value.pointer none), (1, Value.pointer (some { block := g1, off := 0 }))] [Ch.blk g1 23 [Value.pointer none]] [] (by kernel_rfl) (by kernel_rfl) trivial ?_
  refine wpr_nil ?_
  refine nx_then ?_
  refine wpc_seq ?_
  refine wpc_region [0] (by kernel_rfl) ?_
  refine wpr_new (l₂ := []) true [0] [] (fun g2 => [(3, Value.pointer (some { block := g2, off := 0 })), (2, Value.pointer none), (1, Value.pointer (some { block := g1, off := 0 }))]) (fun g2 => [Ch.blk g1 23 [Value.pointer none], Ch.blk g2 23 [Value.pointer none]]) (fun g2 => []) (fun g2 => by kernel_rfl) (fun g2 => by kernel_rfl) (fun g2 => trivial) fun g2 => ?_
  refine wpr_nil ?_
  refine nx_then ?_
  refine wpc_seq ?_
  refine wpc_region [0, 1, 2] (by kernel_rfl) ?_
  refine wpr_run (l₂ := [2]) true [0, 1] [0] [(5, Value.func (Fn.func 27) #[] #[Value.pointer (some { block := g1, off := 0 }), Value.pointer (some { block := g2, off := 0 })]), (4, Value.pointer none), (3, Value.pointer (some { block := g2, off := 0 })), (2, Value.pointer none)] [Ch.blk g1 23 [Value.pointer none], Ch.blk g2 23 [Value.pointer none]] [] (by kernel_rfl) (by kernel_rfl) trivial ?_
  refine wpr_call (dst := some 6) (rest := [Ch.blk g1 23 [Value.pointer none], Ch.blk g2 23 [Value.pointer none]]) (by kernel_rfl) (with27_nil g1 g2) (give [] (by kernel_rfl)) ?_
  rintro v hp' ⟨rfl, rfl⟩
  refine wpr_nil ?_
  refine nx_then ?_
  refine wpc_seq ?_
  refine wpc_region [0, 1] (by kernel_rfl) ?_
  refine wpr_run (l₂ := []) true [0, 1] [1] [(2, Value.pointer none)] [Ch.blk g1 23 [Value.pointer none], Ch.blk g2 23 [Value.pointer none]] [] (by kernel_rfl) (by kernel_rfl) trivial ?_
  refine wpr_nil ?_
  refine nx_then ?_
  refine wpc_ret ?_
  refine nx_end (hp' := []) (rest := [Ch.blk g1 23 [Value.pointer none], Ch.blk g2 23 [Value.pointer none]]) [] ((Value.pointer none)) (by kernel_rfl) (by kernel_rfl) (give [] (by kernel_rfl)) (by first | ((repeat (first | exact trivial | refine ⟨trivial, ?_⟩)); done) | assumption) ?_ (.inr rfl)
  exact ⟨rfl, rfl⟩
theorem Copy_un (d : Nat)  :
    Does Try.prog 15 [.pointer (some ⟨d, 0, none⟩)] [UN d] (fun v hp' => v = .pointer none ∧ hp' = [UN d]) := by
  refine fn_enter Try.func15 rfl 8 rfl fun w0 h0 => ?_
  unfold UN
  refine wpc_seq ?_
  refine wpc_region [0, 1] (by kernel_rfl) ?_
  refine wpr_new (l₂ := [1]) true [0] [] (fun g1 => [(1, Value.pointer (some { block := g1, off := 0 }))]) (fun g1 => [Ch.blk d 46 [Value.bool false, Value.slice none 0 0, Value.int IntKind.i64 0], Ch.blk g1 23 [Value.pointer (some { block := d, off := 0 })]]) (fun g1 => []) (fun g1 => by kernel_rfl) (fun g1 => by kernel_rfl) (fun g1 => trivial) fun g1 => ?_
  refine wpr_run (l₂ := []) true [1] [] [(2, Value.pointer none), (1, Value.pointer (some { block := g1, off := 0 }))] [Ch.blk d 46 [Value.bool false, Value.slice none 0 0, Value.int IntKind.i64 0], Ch.blk g1 23 [Value.pointer (some { block := d, off := 0 })]] [] (by kernel_rfl) (by kernel_rfl) trivial ?_
  refine wpr_nil ?_
  refine nx_then ?_
  refine wpc_seq ?_
  refine wpc_region [0] (by kernel_rfl) ?_
  refine wpr_new (l₂ := []) true [0] [] (fun g2 => [(3, Value.pointer (some { block := g2, off := 0 })), (2, Value.pointer none), (1, Value.pointer (some { block := g1, off := 0 }))]) (fun g2 => [Ch.blk d 46 [Value.bool false, Value.slice none 0 0, Value.int IntKind.i64 0], Ch.blk g1 23 [Value.pointer (some { block := d, off := 0 })], Ch.blk g2 23 [Value.pointer none]]) (fun g2 => []) (fun g2 => by kernel_rfl) (fun g2 => by kernel_rfl) (fun g2 => trivial) fun g2 => ?_
  refine wpr_nil ?_
  refine nx_then ?_
  refine wpc_seq ?_
  refine wpc_region [0, 1, 2] (by kernel_rfl) ?_
  refine wpr_run (l₂ := [2]) true [0, 1] [1] [(5, Value.func (Fn.func 27) #[] #[Value.pointer (some { block := g1, off := 0 }), Value.pointer (some { block := g2, off := 0 })]), (4, Value.pointer (some { block := d, off := 0 })), (3, Value.pointer (some { block := g2, off := 0 })), (2, Value.pointer none)] [Ch.blk d 46 [Value.bool false, Value.slice none 0 0, Value.int IntKind.i64 0], Ch.blk g1 23 [Value.pointer (some { block := d, off := 0 })], Ch.blk g2 23 [Value.pointer none]] [] (by kernel_rfl) (by kernel_rfl) trivial ?_
  refine wpr_call (dst := some 6) (rest := [Ch.blk g1 23 [Value.pointer (some { block := d, off := 0 })], Ch.blk g2 23 [Value.pointer none]]) (by kernel_rfl) (with27_un d g1 g2) (give [0] (by kernel_rfl)) ?_
  rintro v hp' ⟨rfl, rfl⟩
  refine wpr_nil ?_
  refine nx_then ?_
  refine wpc_seq ?_
  refine wpc_region [0, 1] (by kernel_rfl) ?_
  refine wpr_run (l₂ := []) true [0, 1] [2] [(2, Value.pointer none)] [Ch.blk d 46 [Value.bool false, Value.slice none 0 0, Value.int IntKind.i64 0], Ch.blk g1 23 [Value.pointer (some { block := d, off := 0 })], Ch.blk g2 23 [Value.pointer none]] [] (by kernel_rfl) (by kernel_rfl) trivial ?_
  refine wpr_nil ?_
  refine nx_then ?_
  refine wpc_ret ?_
  refine nx_end (hp' := [Ch.blk d 46 [Value.bool false, Value.slice none 0 0, Value.int IntKind.i64 0]]) (rest := [Ch.blk g1 23 [Value.pointer (some { block := d, off := 0 })], Ch.blk g2 23 [Value.pointer none]]) [] ((Value.pointer none)) (by kernel_rfl) (by kernel_rfl) (give [0] (by kernel_rfl)) (by first | ((repeat (first | exact trivial | refine ⟨trivial, ?_⟩)); done) | assumption) ?_ (.inr rfl)
  exact ⟨rfl, rfl⟩
theorem DiskNil_nil (b : Option Addr) (n cb : Nat) (keep : Int) (xs : List UInt8) :
    Does Try.prog 6 [.slice b n cb, .int .i64 keep, .bool false] [ro b (u8s xs)] (fun v hp' => v = .bool true ∧ hp' = []) := by
  refine fn_enter Try.func6 rfl 51 rfl fun w0 h0 => ?_
  refine wpc_seq ?_
  refine wpc_region [0] (by kernel_rfl) ?_
  refine wpr_run (l₂ := []) true [0] [] [(6, Value.bool false), (0, Value.slice b n cb), (1, Value.int IntKind.i64 keep), (2, Value.bool false)] [ro b (u8s xs)] [] (by kernel_rfl) (by kernel_rfl) trivial ?_
  refine wpr_nil ?_
  refine nx_then ?_
  refine wpc_seq ?_
  refine wpc_region [0] (by kernel_rfl) ?_
  refine wpr_run (l₂ := []) true [0] [] [(7, Value.pointer none), (6, Value.bool false), (0, Value.slice b n cb), (1, Value.int IntKind.i64 keep), (2, Value.bool false)] [ro b (u8s xs)] [] (by kernel_rfl) (by kernel_rfl) trivial ?_
  refine wpr_nil ?_
  refine nx_then ?_
  refine wpc_seq ?_
  refine wpc_seq ?_
  refine wpc_region [0] (by kernel_rfl) ?_
  refine wpr_run (l₂ := []) true [0] [] [(8, Value.bool false), (7, Value.pointer none), (6, Value.bool false), (0, Value.slice b n cb), (1, Value.int IntKind.i64 keep)] [ro b (u8s xs)] [] (by kernel_rfl) (by kernel_rfl) trivial ?_
  refine wpr_nil ?_
  refine nx_then ?_
  refine wpc_false (by kernel_rfl) ?_
  refine wpc_skip ?_
  refine nx_then ?_
  refine wpc_seq ?_
  refine wpc_region [0, 1, 2, 3, 4, 5, 6, 7, 8, 9, 10, 11, 12, 13, 14, 15, 16, 17, 18, 19, 20, 21, 22, 23, 24, 25, 26, 27, 28, 29, 30, 31, 32, 33, 34, 35, 36, 37, 38, 39, 40] (by kernel_rfl) ?_
  refine wpr_run (l₂ := [2, 3, 4, 5, 6, 7, 8, 9, 10, 11, 12, 13, 14, 15, 16, 17, 18, 19, 20, 21, 22, 23, 24, 25, 26, 27, 28, 29, 30, 31, 32, 33, 34, 35, 36, 37, 38, 39, 40]) true [0, 1] [] [(12, Value.slice b n cb), (11, Value.pointer none), (7, Value.pointer none), (6, Value.bool false), (1, Value.int IntKind.i64 keep)] [ro b (u8s xs)] [] (by kernel_rfl) (by kernel_rfl) trivial ?_
  refine wpr_call (dst := some 13) (rest := [ro b (u8s xs)]) (by kernel_rfl) (Append_nil b n cb) (give [] (by kernel_rfl)) ?_
  rintro v hp' ⟨rfl, rfl⟩
  refine wpr_run (l₂ := [6, 7, 8, 9, 10, 11, 12, 13, 14, 15, 16, 17, 18, 19, 20, 21, 22, 23, 24, 25, 26, 27, 28, 29, 30, 31, 32, 33, 34, 35, 36, 37, 38, 39, 40]) true [3, 4, 5] [] [(16, Value.pointer none), (15, Value.bool true), (7, Value.pointer none), (6, Value.bool false), (1, Value.int IntKind.i64 keep)] [ro b (u8s xs)] [] (by kernel_rfl) (by kernel_rfl) trivial ?_
  refine wpr_call (dst := some 17) (rest := [ro b (u8s xs)]) (by kernel_rfl) (Sync_nil ) (give [] (by kernel_rfl)) ?_
  rintro v hp' ⟨rfl, rfl⟩
  refine wpr_run (l₂ := [12, 13, 14, 15, 16, 17, 18, 19, 20, 21, 22, 23, 24, 25, 26, 27, 28, 29, 30, 31, 32, 33, 34, 35, 36, 37, 38, 39, 40]) true [7, 8, 9, 10, 11] [] [(22, Value.int IntKind.i64 keep), (21, Value.pointer none), (20, Value.bool true), (7, Value.pointer none), (6, Value.bool false), (1, Value.int IntKind.i64 keep)] [ro b (u8s xs)] [] (by kernel_rfl) (by kernel_rfl) trivial ?_
  refine wpr_call (dst := some 23) (rest := [ro b (u8s xs)]) (by kernel_rfl) (Crash_nil keep) (give [] (by kernel_rfl)) ?_
  rintro v hp' ⟨rfl, rfl⟩
  refine wpr_run (l₂ := [18, 19, 20, 21, 22, 23, 24, 25, 26, 27, 28, 29, 30, 31, 32, 33, 34, 35, 36, 37, 38, 39, 40]) true [13, 14, 15, 16, 17] [] [(28, Value.int IntKind.i64 keep), (27, Value.pointer none), (26, Value.bool true), (7, Value.pointer none), (6, Value.bool false)] [ro b (u8s xs)] [] (by kernel_rfl) (by kernel_rfl) trivial ?_
  refine wpr_call (dst := some 29) (rest := [ro b (u8s xs)]) (by kernel_rfl) (Cut_nil keep) (give [] (by kernel_rfl)) ?_
  rintro v hp' ⟨rfl, rfl⟩
  refine wpr_run (l₂ := [23, 24, 25, 26, 27, 28, 29, 30, 31, 32, 33, 34, 35, 36, 37, 38, 39, 40]) true [19, 20, 21, 22] [] [(33, Value.pointer none), (32, Value.bool true), (7, Value.pointer none), (6, Value.bool false)] [ro b (u8s xs)] [] (by kernel_rfl) (by kernel_rfl) trivial ?_
  refine wpr_call (dst := some 34) (rest := [ro b (u8s xs)]) (by kernel_rfl) (Bytes_nil ) (give [] (by kernel_rfl)) ?_
  rintro v hp' ⟨rfl, rfl⟩
  refine wpr_run (l₂ := [29, 30, 31, 32, 33, 34, 35, 36, 37, 38, 39, 40]) true [24, 25, 26, 27, 28] [] [(39, Value.pointer none), (38, Value.bool true), (7, Value.pointer none), (6, Value.bool false)] [ro b (u8s xs)] [] (by kernel_rfl) (by kernel_rfl) trivial ?_
  refine wpr_call (dst := some 40) (rest := [ro b (u8s xs)]) (by kernel_rfl) (Loose_nil ) (give [] (by kernel_rfl)) ?_
  rintro v hp' ⟨rfl, rfl⟩
  refine wpr_run (l₂ := [34, 35, 36, 37, 38, 39, 40]) true [30, 31, 32, 33] [] [(44, Value.pointer none), (43, Value.bool true), (6, Value.bool false)] [ro b (u8s xs)] [] (by kernel_rfl) (by kernel_rfl) trivial ?_
  refine wpr_call (dst := some 45) (rest := [ro b (u8s xs)]) (by kernel_rfl) (Copy_nil ) (give [] (by kernel_rfl)) ?_
  rintro v hp' ⟨rfl, rfl⟩
  refine wpr_run (l₂ := [38, 39, 40]) true [35, 36, 37] [] [(48, Value.bool true), (6, Value.bool false)] [ro b (u8s xs)] [] (by kernel_rfl) (by kernel_rfl) trivial ?_
  refine wpr_call (dst := some 49) (rest := [ro b (u8s xs)]) (by kernel_rfl) (lives_spec) (give [] (by kernel_rfl)) ?_
  rintro v hp' ⟨rfl, rfl⟩
  refine wpr_run (l₂ := []) true [39, 40] [] [(6, Value.bool true)] [ro b (u8s xs)] [] (by kernel_rfl) (by kernel_rfl) trivial ?_
  refine wpr_nil ?_
  refine nx_then ?_
  refine wpc_ret ?_
  refine nx_end (hp' := []) (rest := [ro b (u8s xs)]) [] ((Value.bool true)) (by kernel_rfl) (by kernel_rfl) (give [] (by kernel_rfl)) (by first | ((repeat (first | exact trivial | refine ⟨trivial, ?_⟩)); done) | assumption) ?_ (.inr rfl)
  exact ⟨rfl, rfl⟩
theorem DiskNil_un (b : Option Addr) (n cb : Nat) (keep : Int) (xs : List UInt8) :
    Does Try.prog 6 [.slice b n cb, .int .i64 keep, .bool true] [ro b (u8s xs)] (fun v hp' => v = .bool true ∧ hp' = []) := by
  refine fn_enter Try.func6 rfl 51 rfl fun w0 h0 => ?_
  refine wpc_seq ?_
  refine wpc_region [0] (by kernel_rfl) ?_
  refine wpr_run (l₂ := []) true [0] [] [(6, Value.bool false), (0, Value.slice b n cb), (1, Value.int IntKind.i64 keep), (2, Value.bool true)] [ro b (u8s xs)] [] (by kernel_rfl) (by kernel_rfl) trivial ?_
  refine wpr_nil ?_
  refine nx_then ?_
  refine wpc_seq ?_
  refine wpc_region [0] (by kernel_rfl) ?_
  refine wpr_run (l₂ := []) true [0] [] [(7, Value.pointer none), (6, Value.bool false), (0, Value.slice b n cb), (1, Value.int IntKind.i64 keep), (2, Value.bool true)] [ro b (u8s xs)] [] (by kernel_rfl) (by kernel_rfl) trivial ?_
  refine wpr_nil ?_
  refine nx_then ?_
  refine wpc_seq ?_
  refine wpc_seq ?_
  refine wpc_region [0] (by kernel_rfl) ?_
  refine wpr_run (l₂ := []) true [0] [] [(8, Value.bool true), (7, Value.pointer none), (6, Value.bool false), (0, Value.slice b n cb), (1, Value.int IntKind.i64 keep)] [ro b (u8s xs)] [] (by kernel_rfl) (by kernel_rfl) trivial ?_
  refine wpr_nil ?_
  refine nx_then ?_
  refine wpc_true (by kernel_rfl) ?_
  refine wpc_region [0, 1, 2] (by kernel_rfl) ?_
  refine wpr_new (l₂ := [2]) true [0, 1] [] (fun g1 => [(10, Value.pointer (some { block := g1, off := 0 })), (7, Value.pointer none), (6, Value.bool false), (0, Value.slice b n cb), (1, Value.int IntKind.i64 keep)]) (fun g1 => [ro b (u8s xs), Ch.blk g1 46 [Value.bool false, Value.slice none 0 0, Value.int IntKind.i64 0]]) (fun g1 => []) (fun g1 => by kernel_rfl) (fun g1 => by kernel_rfl) (fun g1 => trivial) fun g1 => ?_
  refine wpr_run (l₂ := []) true [2] [] [(7, Value.pointer (some { block := g1, off := 0 })), (6, Value.bool false), (0, Value.slice b n cb), (1, Value.int IntKind.i64 keep)] [ro b (u8s xs), Ch.blk g1 46 [Value.bool false, Value.slice none 0 0, Value.int IntKind.i64 0]] [] (by kernel_rfl) (by kernel_rfl) trivial ?_
  refine wpr_nil ?_
  refine nx_then ?_
  refine wpc_seq ?_
  refine wpc_region [0, 1, 2, 3, 4, 5, 6, 7, 8, 9, 10, 11, 12, 13, 14, 15, 16, 17, 18, 19, 20, 21, 22, 23, 24, 25, 26, 27, 28, 29, 30, 31, 32, 33, 34, 35, 36, 37, 38, 39, 40] (by kernel_rfl) ?_
  refine wpr_run (l₂ := [2, 3, 4, 5, 6, 7, 8, 9, 10, 11, 12, 13, 14, 15, 16, 17, 18, 19, 20, 21, 22, 23, 24, 25, 26, 27, 28, 29, 30, 31, 32, 33, 34, 35, 36, 37, 38, 39, 40]) true [0, 1] [] [(12, Value.slice b n cb), (11, Value.pointer (some { block := g1, off := 0 })), (7, Value.pointer (some { block := g1, off := 0 })), (6, Value.bool false), (1, Value.int IntKind.i64 keep)] [ro b (u8s xs), Ch.blk g1 46 [Value.bool false, Value.slice none 0 0, Value.int IntKind.i64 0]] [] (by kernel_rfl) (by kernel_rfl) trivial ?_
  refine wpr_call (dst := some 13) (rest := [ro b (u8s xs)]) (by kernel_rfl) (Append_un g1 b n cb) (give [1] (by kernel_rfl)) ?_
  rintro v hp' ⟨rfl, rfl⟩
  refine wpr_run (l₂ := [6, 7, 8, 9, 10, 11, 12, 13, 14, 15, 16, 17, 18, 19, 20, 21, 22, 23, 24, 25, 26, 27, 28, 29, 30, 31, 32, 33, 34, 35, 36, 37, 38, 39, 40]) true [3, 4, 5] [] [(16, Value.pointer (some { block := g1, off := 0 })), (15, Value.bool true), (7, Value.pointer (some { block := g1, off := 0 })), (6, Value.bool false), (1, Value.int IntKind.i64 keep)] [Ch.blk g1 46 [Value.bool false, Value.slice none 0 0, Value.int IntKind.i64 0], ro b (u8s xs)] [] (by kernel_rfl) (by kernel_rfl) trivial ?_
  refine wpr_call (dst := some 17) (rest := [ro b (u8s xs)]) (by kernel_rfl) (Sync_un g1 ) (give [0] (by kernel_rfl)) ?_
  rintro v hp' ⟨rfl, rfl⟩
  refine wpr_run (l₂ := [12, 13, 14, 15, 16, 17, 18, 19, 20, 21, 22, 23, 24, 25, 26, 27, 28, 29, 30, 31, 32, 33, 34, 35, 36, 37, 38, 39, 40]) true [7, 8, 9, 10, 11] [] [(22, Value.int IntKind.i64 keep), (21, Value.pointer (some { block := g1, off := 0 })), (20, Value.bool true), (7, Value.pointer (some { block := g1, off := 0 })), (6, Value.bool false), (1, Value.int IntKind.i64 keep)] [Ch.blk g1 46 [Value.bool false, Value.slice none 0 0, Value.int IntKind.i64 0], ro b (u8s xs)] [] (by kernel_rfl) (by kernel_rfl) trivial ?_
  refine wpr_call (dst := some 23) (rest := [ro b (u8s xs)]) (by kernel_rfl) (Crash_un g1 keep) (give [0] (by kernel_rfl)) ?_
  rintro v hp' ⟨rfl, rfl⟩
  refine wpr_run (l₂ := [18, 19, 20, 21, 22, 23, 24, 25, 26, 27, 28, 29, 30, 31, 32, 33, 34, 35, 36, 37, 38, 39, 40]) true [13, 14, 15, 16, 17] [] [(28, Value.int IntKind.i64 keep), (27, Value.pointer (some { block := g1, off := 0 })), (26, Value.bool true), (7, Value.pointer (some { block := g1, off := 0 })), (6, Value.bool false)] [Ch.blk g1 46 [Value.bool false, Value.slice none 0 0, Value.int IntKind.i64 0], ro b (u8s xs)] [] (by kernel_rfl) (by kernel_rfl) trivial ?_
  refine wpr_call (dst := some 29) (rest := [ro b (u8s xs)]) (by kernel_rfl) (Cut_un g1 keep) (give [0] (by kernel_rfl)) ?_
  rintro v hp' ⟨rfl, rfl⟩
  refine wpr_run (l₂ := [23, 24, 25, 26, 27, 28, 29, 30, 31, 32, 33, 34, 35, 36, 37, 38, 39, 40]) true [19, 20, 21, 22] [] [(33, Value.pointer (some { block := g1, off := 0 })), (32, Value.bool true), (7, Value.pointer (some { block := g1, off := 0 })), (6, Value.bool false)] [Ch.blk g1 46 [Value.bool false, Value.slice none 0 0, Value.int IntKind.i64 0], ro b (u8s xs)] [] (by kernel_rfl) (by kernel_rfl) trivial ?_
  refine wpr_call (dst := some 34) (rest := [ro b (u8s xs)]) (by kernel_rfl) (Bytes_un g1 ) (give [0] (by kernel_rfl)) ?_
  rintro v hp' ⟨rfl, rfl⟩
  refine wpr_run (l₂ := [29, 30, 31, 32, 33, 34, 35, 36, 37, 38, 39, 40]) true [24, 25, 26, 27, 28] [] [(39, Value.pointer (some { block := g1, off := 0 })), (38, Value.bool true), (7, Value.pointer (some { block := g1, off := 0 })), (6, Value.bool false)] [Ch.blk g1 46 [Value.bool false, Value.slice none 0 0, Value.int IntKind.i64 0], ro b (u8s xs)] [] (by kernel_rfl) (by kernel_rfl) trivial ?_
  refine wpr_call (dst := some 40) (rest := [ro b (u8s xs)]) (by kernel_rfl) (Loose_un g1 ) (give [0] (by kernel_rfl)) ?_
  rintro v hp' ⟨rfl, rfl⟩
  refine wpr_run (l₂ := [34, 35, 36, 37, 38, 39, 40]) true [30, 31, 32, 33] [] [(44, Value.pointer (some { block := g1, off := 0 })), (43, Value.bool true), (6, Value.bool false)] [Ch.blk g1 46 [Value.bool false, Value.slice none 0 0, Value.int IntKind.i64 0], ro b (u8s xs)] [] (by kernel_rfl) (by kernel_rfl) trivial ?_
  refine wpr_call (dst := some 45) (rest := [ro b (u8s xs)]) (by kernel_rfl) (Copy_un g1 ) (give [0] (by kernel_rfl)) ?_
  rintro v hp' ⟨rfl, rfl⟩
  refine wpr_run (l₂ := [38, 39, 40]) true [35, 36, 37] [] [(48, Value.bool true), (6, Value.bool false)] [Ch.blk g1 46 [Value.bool false, Value.slice none 0 0, Value.int IntKind.i64 0], ro b (u8s xs)] [] (by kernel_rfl) (by kernel_rfl) trivial ?_
  refine wpr_call (dst := some 49) (rest := [Ch.blk g1 46 [Value.bool false, Value.slice none 0 0, Value.int IntKind.i64 0], ro b (u8s xs)]) (by kernel_rfl) (lives_spec) (give [] (by kernel_rfl)) ?_
  rintro v hp' ⟨rfl, rfl⟩
  refine wpr_run (l₂ := []) true [39, 40] [] [(6, Value.bool true)] [Ch.blk g1 46 [Value.bool false, Value.slice none 0 0, Value.int IntKind.i64 0], ro b (u8s xs)] [] (by kernel_rfl) (by kernel_rfl) trivial ?_
  refine wpr_nil ?_
  refine nx_then ?_
  refine wpc_ret ?_
  refine nx_end (hp' := []) (rest := [Ch.blk g1 46 [Value.bool false, Value.slice none 0 0, Value.int IntKind.i64 0], ro b (u8s xs)]) [] ((Value.bool true)) (by kernel_rfl) (by kernel_rfl) (give [] (by kernel_rfl)) (by first | ((repeat (first | exact trivial | refine ⟨trivial, ?_⟩)); done) | assumption) ?_ (.inr rfl)
  exact ⟨rfl, rfl⟩
theorem DiskNil_spec (b : Option Addr) (n cb : Nat) (keep : Int) (m : Bool) (xs : List UInt8) :
    Does Try.prog 6 [.slice b n cb, .int .i64 keep, .bool m] [ro b (u8s xs)] (fun v hp' => v = .bool true ∧ hp' = []) := by
  cases m
  · exact DiskNil_nil b n cb keep xs
  · exact DiskNil_un b n cb keep xs
end Go.Proofs.Ytolmjhhldbnkdaa
