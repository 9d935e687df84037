import Derived.Test.YtoagfnobfbfdfaaF4
import Derived.Test.YtoagfnobfbfdfaaX13
namespace Go.Proofs.Ytoagfnobfbfdfaa
open Go Go.Sx
set_option linter.unusedVariables false
set_option linter.unusedSimpArgs false

theorem rRevoke_spec (H : Int) (a : Option Addr) (c : Nat) (l : List Int) (ha : a = none → l = []) (hl : l.length ≤ 1099511627776) :
    Does Try.prog 14 [fl H a l.length c] [ro a (ints l)]
      (fun r hp' => ∃ a' c', r = .tuple #[fl (revoke H l).2.1 a' (revoke H l).2.2.length c', .int .i64 (revoke H l).1] ∧ hp' = [row 3 1 a' (revoke H l).2.2.length c' (ints (revoke H l).2.2)]) := by
  unfold revoke
  refine fn_enter Try.func14 rfl 19 rfl fun w0 h0 => ?_
  refine wpc_seq ?_
  refine wpc_region [0, 1, 2] (by kernel_rfl) ?_
  refine wpr_new (l₂ := [1, 2]) true [0] [] (fun g1 => [(1, Value.pointer (some { block := g1, off := 0 }))]) (fun g1 => [ro a (ints l), Ch.blk g1 24 [Value.int IntKind.i64 H, Value.slice a l.length c]]) (fun g1 => []) (fun g1 => by kernel_rfl) (fun g1 => by kernel_rfl) (fun g1 => trivial) fun g1 => ?_
  refine wpr_new (l₂ := [2]) true [1] [] (fun g2 => [(2, Value.pointer (some { block := g2, off := 0 })), (1, Value.pointer (some { block := g1, off := 0 }))]) (fun g2 => [ro a (ints l), Ch.blk g1 24 [Value.int IntKind.i64 H, Value.slice a l.length c], Ch.blk g2 24 [Value.int IntKind.i64 0, Value.slice none 0 0]]) (fun g2 => []) (fun g2 => by kernel_rfl) (fun g2 => by kernel_rfl) (fun g2 => trivial) fun g2 => ?_
  refine wpr_run (l₂ := []) true [2] [] [(3, Value.int IntKind.i64 0), (2, Value.pointer (some { block := g2, off := 0 })), (1, Value.pointer (some { block := g1, off := 0 }))] [ro a (ints l), Ch.blk g1 24 [Value.int IntKind.i64 H, Value.slice a l.length c], Ch.blk g2 24 [Value.int IntKind.i64 0, Value.slice none 0 0]] [] (by kernel_rfl) (by kernel_rfl) trivial ?_
  refine wpr_nil ?_
  refine nx_then ?_
  refine wpc_seq ?_
  refine wpc_seq ?_
  refine wpc_region [0, 1, 2] (by kernel_rfl) ?_
  refine wpr_run (l₂ := [1, 2]) true [0] [1, 1] [(5, Value.agg #[Value.int IntKind.i64 H, Value.slice a l.length c]), (3, Value.int IntKind.i64 0), (2, Value.pointer (some { block := g2, off := 0 })), (1, Value.pointer (some { block := g1, off := 0 }))] [ro a (ints l), Ch.blk g1 24 [Value.int IntKind.i64 H, Value.slice a l.length c], Ch.blk g2 24 [Value.int IntKind.i64 0, Value.slice none 0 0]] [] (by kernel_rfl) (by kernel_rfl) trivial ?_
  refine wpr_call (dst := some 6) (rest := [ro a (ints l), Ch.blk g1 24 [Value.int IntKind.i64 H, Value.slice a l.length c], Ch.blk g2 24 [Value.int IntKind.i64 0, Value.slice none 0 0]]) (by kernel_rfl) (rbad_spec H a c l 1 ha hl) (Give.view (c := (ro a (ints l))) (give (pre := []) (rest := [ro a (ints l), Ch.blk g1 24 [Value.int IntKind.i64 H, Value.slice a l.length c], Ch.blk g2 24 [Value.int IntKind.i64 0, Value.slice none 0 0]]) [] (by kernel_rfl)) 0 (by kernel_rfl) view_ro) ?_
  rintro v hp' ⟨rfl, rfl⟩
  by_cases hb : bad H l 1 ≠ 0
  · rw [if_pos hb]
    refine wpr_run (l₂ := []) true [2] [] [(4, Value.int IntKind.i64 (bad H l 1)), (3, Value.int IntKind.i64 0), (2, Value.pointer (some { block := g2, off := 0 })), (1, Value.pointer (some { block := g1, off := 0 }))] [ro a (ints l), Ch.blk g1 24 [Value.int IntKind.i64 H, Value.slice a l.length c], Ch.blk g2 24 [Value.int IntKind.i64 0, Value.slice none 0 0]] [] (by kernel_rfl) (by kernel_rfl) trivial ?_
    refine wpr_nil ?_
    refine nx_then ?_
    refine wpc_seq ?_
    refine wpc_region [0, 1] (by kernel_rfl) ?_
    refine wpr_run (l₂ := []) true [0, 1] [] [(8, Value.bool (bad H l 1 != 0)), (4, Value.int IntKind.i64 (bad H l 1)), (3, Value.int IntKind.i64 0), (2, Value.pointer (some { block := g2, off := 0 })), (1, Value.pointer (some { block := g1, off := 0 }))] [ro a (ints l), Ch.blk g1 24 [Value.int IntKind.i64 H, Value.slice a l.length c], Ch.blk g2 24 [Value.int IntKind.i64 0, Value.slice none 0 0]] [] (by kernel_rfl) (by kernel_rfl) trivial ?_
    refine wpr_nil ?_
    refine nx_then ?_
    refine wpc_ent (ent_set 8 (Value.bool (bad H l 1 != 0)) (Value.bool true) (by kernel_rfl) (congrArg _ (by simpa using hb))) ?_
    refine wpc_true (by kernel_rfl) ?_
    refine wpc_seq ?_
    refine wpc_region [0, 1, 2, 3] (by kernel_rfl) ?_
    refine wpr_run (l₂ := []) true [0, 1, 2, 3] [2, 2] [(3, Value.int IntKind.i64 (bad H l 1)), (2, Value.pointer (some { block := g2, off := 0 })), (1, Value.pointer (some { block := g1, off := 0 }))] [ro a (ints l), Ch.blk g1 24 [Value.int IntKind.i64 H, Value.slice a l.length c], Ch.blk g2 24 [Value.int IntKind.i64 0, Value.slice none 0 0]] [] (by kernel_rfl) (by kernel_rfl) trivial ?_
    refine wpr_nil ?_
    refine nx_then ?_
    refine wpc_ret ?_
    refine nx_then_ret ?_
    refine nx_ent (ent_nil 3 1) ?_
    refine nx_end (hp' := [row 3 1 none 0 0 []]) (rest := [ro a (ints l), Ch.blk g1 24 [Value.int IntKind.i64 H, Value.slice a l.length c], Ch.blk g2 24 [Value.int IntKind.i64 0, Value.slice none 0 0]]) [3, 3] ((Value.tuple #[Value.agg #[Value.int IntKind.i64 0, Value.slice none 0 0], Value.int IntKind.i64 (bad H l 1)])) (by kernel_rfl) (by kernel_rfl) (give [0] (by kernel_rfl)) (by first | ((repeat (first | exact trivial | refine ⟨trivial, ?_⟩)); done) | assumption) ?_ (.inr rfl)
    exact ⟨none, 0, rfl, rfl⟩
  obtain ⟨hok, _⟩ := bad_ok hb
  rw [if_neg hb, show bad H l 1 = 0 from Classical.not_not.1 hb]
  refine wpr_run (l₂ := []) true [2] [] [(4, Value.int IntKind.i64 0), (3, Value.int IntKind.i64 0), (2, Value.pointer (some { block := g2, off := 0 })), (1, Value.pointer (some { block := g1, off := 0 }))] [ro a (ints l), Ch.blk g1 24 [Value.int IntKind.i64 H, Value.slice a l.length c], Ch.blk g2 24 [Value.int IntKind.i64 0, Value.slice none 0 0]] [] (by kernel_rfl) (by kernel_rfl) trivial ?_
  refine wpr_nil ?_
  refine nx_then ?_
  refine wpc_seq ?_
  refine wpc_region [0, 1] (by kernel_rfl) ?_
  refine wpr_run (l₂ := []) true [0, 1] [] [(8, Value.bool false), (4, Value.int IntKind.i64 0), (3, Value.int IntKind.i64 0), (2, Value.pointer (some { block := g2, off := 0 })), (1, Value.pointer (some { block := g1, off := 0 }))] [ro a (ints l), Ch.blk g1 24 [Value.int IntKind.i64 H, Value.slice a l.length c], Ch.blk g2 24 [Value.int IntKind.i64 0, Value.slice none 0 0]] [] (by kernel_rfl) (by kernel_rfl) trivial ?_
  refine wpr_nil ?_
  refine nx_then ?_
  refine wpc_false (by kernel_rfl) ?_
  refine wpc_skip ?_
  refine nx_then ?_
  refine wpc_seq ?_
  refine wpc_seq ?_
  refine wpc_region [0, 1, 2] (by kernel_rfl) ?_
  refine wpr_run (l₂ := []) true [0, 1, 2] [1] [(13, Value.bool (H == 0)), (3, Value.int IntKind.i64 0), (2, Value.pointer (some { block := g2, off := 0 })), (1, Value.pointer (some { block := g1, off := 0 }))] [ro a (ints l), Ch.blk g1 24 [Value.int IntKind.i64 H, Value.slice a l.length c], Ch.blk g2 24 [Value.int IntKind.i64 0, Value.slice none 0 0]] [] (by kernel_rfl) (by kernel_rfl) trivial ?_
  refine wpr_nil ?_
  refine nx_then ?_
  by_cases hH : H = 0
  · rw [if_pos hH]
    subst hH
    refine wpc_true (by kernel_rfl) ?_
    refine wpc_seq ?_
    refine wpc_region [0, 1, 2] (by kernel_rfl) ?_
    refine wpr_run (l₂ := []) true [0, 1, 2] [2, 2] [(3, Value.int IntKind.i64 10), (2, Value.pointer (some { block := g2, off := 0 })), (1, Value.pointer (some { block := g1, off := 0 }))] [ro a (ints l), Ch.blk g1 24 [Value.int IntKind.i64 0, Value.slice a l.length c], Ch.blk g2 24 [Value.int IntKind.i64 0, Value.slice none 0 0]] [] (by kernel_rfl) (by kernel_rfl) trivial ?_
    refine wpr_nil ?_
    refine nx_then ?_
    refine wpc_ret ?_
    refine nx_then_ret ?_
    refine nx_ent (ent_nil 3 1) ?_
    refine nx_end (hp' := [row 3 1 none 0 0 []]) (rest := [ro a (ints l), Ch.blk g1 24 [Value.int IntKind.i64 0, Value.slice a l.length c], Ch.blk g2 24 [Value.int IntKind.i64 0, Value.slice none 0 0]]) [3, 3] ((Value.tuple #[Value.agg #[Value.int IntKind.i64 0, Value.slice none 0 0], Value.int IntKind.i64 10])) (by kernel_rfl) (by kernel_rfl) (give [0] (by kernel_rfl)) (by first | ((repeat (first | exact trivial | refine ⟨trivial, ?_⟩)); done) | assumption) ?_ (.inr rfl)
    exact ⟨none, 0, rfl, rfl⟩
  rw [if_neg hH]
  refine wpc_ent (ent_set 13 (Value.bool (H == 0)) (Value.bool false) (by kernel_rfl) (congrArg _ (by simpa using hH))) ?_
  refine wpc_false (by kernel_rfl) ?_
  refine wpc_skip ?_
  refine nx_then ?_
  refine wpc_seq ?_
  refine wpc_region [0, 1, 2, 3, 4, 5] (by kernel_rfl) ?_
  refine wpr_run (l₂ := [2, 3, 4, 5]) true [0, 1] [1] [(16, Value.slice a l.length c), (3, Value.int IntKind.i64 0), (2, Value.pointer (some { block := g2, off := 0 }))] [ro a (ints l), Ch.blk g1 24 [Value.int IntKind.i64 H, Value.slice a l.length c], Ch.blk g2 24 [Value.int IntKind.i64 0, Value.slice none 0 0]] [] (by kernel_rfl) (by kernel_rfl) trivial ?_
  refine wpr_call (dst := some 17) (rest := [ro a (ints l), Ch.blk g1 24 [Value.int IntKind.i64 H, Value.slice a l.length c], Ch.blk g2 24 [Value.int IntKind.i64 0, Value.slice none 0 0]]) (by kernel_rfl) (without_spec a c l 0 ha hl) (Give.view (c := (ro a (ints l))) (give (pre := []) (rest := [ro a (ints l), Ch.blk g1 24 [Value.int IntKind.i64 H, Value.slice a l.length c], Ch.blk g2 24 [Value.int IntKind.i64 0, Value.slice none 0 0]]) [] (by kernel_rfl)) 0 (by kernel_rfl) view_ro) ?_
  rintro v hp' ⟨a1, c1, rfl, rfl⟩
  rw [filter0 hok]
  refine wpr_run (l₂ := []) true [3, 4, 5] [3, 3] [(3, Value.int IntKind.i64 0), (2, Value.pointer (some { block := g2, off := 0 }))] [row 3 1 a1 l.length c1 (ints l), ro a (ints l), Ch.blk g1 24 [Value.int IntKind.i64 H, Value.slice a l.length c], Ch.blk g2 24 [Value.int IntKind.i64 0, Value.slice a1 l.length c1]] [] (by kernel_rfl) (by kernel_rfl) trivial ?_
  refine wpr_nil ?_
  refine nx_then ?_
  refine wpc_ret ?_
  refine nx_end (hp' := [row 3 1 a1 l.length c1 (ints l)]) (rest := [ro a (ints l), Ch.blk g1 24 [Value.int IntKind.i64 H, Value.slice a l.length c], Ch.blk g2 24 [Value.int IntKind.i64 0, Value.slice a1 l.length c1]]) [3, 3] ((Value.tuple #[Value.agg #[Value.int IntKind.i64 0, Value.slice a1 l.length c1], Value.int IntKind.i64 0])) (by kernel_rfl) (by kernel_rfl) (give [0] (by kernel_rfl)) (by first | ((repeat (first | exact trivial | refine ⟨trivial, ?_⟩)); done) | assumption) ?_ (.inr rfl)
  exact ⟨a1, c1, rfl, rfl⟩

theorem rRelease_spec (H : Int) (a : Option Addr) (c : Nat) (l : List Int) (x : Int) (ha : a = none → l = []) (hl : l.length ≤ 1099511627776) :
    Does Try.prog 19 [fl H a l.length c, .int .i64 x] [ro a (ints l)]
      (fun r hp' => ∃ a' c', r = .tuple #[fl (release H l x).2.1 a' (release H l x).2.2.length c', .int .i64 (release H l x).1] ∧ hp' = [row 3 1 a' (release H l x).2.2.length c' (ints (release H l x).2.2)]) := by
  unfold release
  refine fn_enter Try.func19 rfl 23 rfl fun w0 h0 => ?_
  refine wpc_seq ?_
  refine wpc_region [0, 1, 2] (by kernel_rfl) ?_
  refine wpr_new (l₂ := [1, 2]) true [0] [] (fun g1 => [(2, Value.pointer (some { block := g1, off := 0 })), (1, Value.int IntKind.i64 x)]) (fun g1 => [ro a (ints l), Ch.blk g1 24 [Value.int IntKind.i64 H, Value.slice a l.length c]]) (fun g1 => []) (fun g1 => by kernel_rfl) (fun g1 => by kernel_rfl) (fun g1 => trivial) fun g1 => ?_
  refine wpr_new (l₂ := [2]) true [1] [] (fun g2 => [(4, Value.pointer (some { block := g2, off := 0 })), (2, Value.pointer (some { block := g1, off := 0 })), (1, Value.int IntKind.i64 x)]) (fun g2 => [ro a (ints l), Ch.blk g1 24 [Value.int IntKind.i64 H, Value.slice a l.length c], Ch.blk g2 24 [Value.int IntKind.i64 0, Value.slice none 0 0]]) (fun g2 => []) (fun g2 => by kernel_rfl) (fun g2 => by kernel_rfl) (fun g2 => trivial) fun g2 => ?_
  refine wpr_run (l₂ := []) true [2] [] [(5, Value.int IntKind.i64 0), (4, Value.pointer (some { block := g2, off := 0 })), (2, Value.pointer (some { block := g1, off := 0 })), (1, Value.int IntKind.i64 x)] [ro a (ints l), Ch.blk g1 24 [Value.int IntKind.i64 H, Value.slice a l.length c], Ch.blk g2 24 [Value.int IntKind.i64 0, Value.slice none 0 0]] [] (by kernel_rfl) (by kernel_rfl) trivial ?_
  refine wpr_nil ?_
  refine nx_then ?_
  refine wpc_seq ?_
  refine wpc_seq ?_
  refine wpc_region [0, 1, 2, 3] (by kernel_rfl) ?_
  refine wpr_run (l₂ := [2, 3]) true [0, 1] [1, 1] [(8, Value.int IntKind.i64 x), (7, Value.agg #[Value.int IntKind.i64 H, Value.slice a l.length c]), (5, Value.int IntKind.i64 0), (4, Value.pointer (some { block := g2, off := 0 })), (2, Value.pointer (some { block := g1, off := 0 })), (1, Value.int IntKind.i64 x)] [ro a (ints l), Ch.blk g1 24 [Value.int IntKind.i64 H, Value.slice a l.length c], Ch.blk g2 24 [Value.int IntKind.i64 0, Value.slice none 0 0]] [] (by kernel_rfl) (by kernel_rfl) trivial ?_
  refine wpr_call (dst := some 9) (rest := [ro a (ints l), Ch.blk g1 24 [Value.int IntKind.i64 H, Value.slice a l.length c], Ch.blk g2 24 [Value.int IntKind.i64 0, Value.slice none 0 0]]) (by kernel_rfl) (rbad_spec H a c l x ha hl) (Give.view (c := (ro a (ints l))) (give (pre := []) (rest := [ro a (ints l), Ch.blk g1 24 [Value.int IntKind.i64 H, Value.slice a l.length c], Ch.blk g2 24 [Value.int IntKind.i64 0, Value.slice none 0 0]]) [] (by kernel_rfl)) 0 (by kernel_rfl) view_ro) ?_
  rintro v hp' ⟨rfl, rfl⟩
  by_cases hb : bad H l x ≠ 0
  · rw [if_pos hb]
    refine wpr_run (l₂ := []) true [3] [] [(6, Value.int IntKind.i64 (bad H l x)), (5, Value.int IntKind.i64 0), (4, Value.pointer (some { block := g2, off := 0 })), (2, Value.pointer (some { block := g1, off := 0 })), (1, Value.int IntKind.i64 x)] [ro a (ints l), Ch.blk g1 24 [Value.int IntKind.i64 H, Value.slice a l.length c], Ch.blk g2 24 [Value.int IntKind.i64 0, Value.slice none 0 0]] [] (by kernel_rfl) (by kernel_rfl) trivial ?_
    refine wpr_nil ?_
    refine nx_then ?_
    refine wpc_seq ?_
    refine wpc_region [0, 1] (by kernel_rfl) ?_
    refine wpr_run (l₂ := []) true [0, 1] [] [(11, Value.bool (bad H l x != 0)), (6, Value.int IntKind.i64 (bad H l x)), (5, Value.int IntKind.i64 0), (4, Value.pointer (some { block := g2, off := 0 })), (2, Value.pointer (some { block := g1, off := 0 })), (1, Value.int IntKind.i64 x)] [ro a (ints l), Ch.blk g1 24 [Value.int IntKind.i64 H, Value.slice a l.length c], Ch.blk g2 24 [Value.int IntKind.i64 0, Value.slice none 0 0]] [] (by kernel_rfl) (by kernel_rfl) trivial ?_
    refine wpr_nil ?_
    refine nx_then ?_
    refine wpc_ent (ent_set 11 (Value.bool (bad H l x != 0)) (Value.bool true) (by kernel_rfl) (congrArg _ (by simpa using hb))) ?_
    refine wpc_true (by kernel_rfl) ?_
    refine wpc_seq ?_
    refine wpc_region [0, 1, 2, 3] (by kernel_rfl) ?_
    refine wpr_run (l₂ := []) true [0, 1, 2, 3] [2, 2] [(5, Value.int IntKind.i64 (bad H l x)), (4, Value.pointer (some { block := g2, off := 0 })), (2, Value.pointer (some { block := g1, off := 0 })), (1, Value.int IntKind.i64 x)] [ro a (ints l), Ch.blk g1 24 [Value.int IntKind.i64 H, Value.slice a l.length c], Ch.blk g2 24 [Value.int IntKind.i64 0, Value.slice none 0 0]] [] (by kernel_rfl) (by kernel_rfl) trivial ?_
    refine wpr_nil ?_
    refine nx_then ?_
    refine wpc_ret ?_
    refine nx_then_ret ?_
    refine nx_ent (ent_nil 3 1) ?_
    refine nx_end (hp' := [row 3 1 none 0 0 []]) (rest := [ro a (ints l), Ch.blk g1 24 [Value.int IntKind.i64 H, Value.slice a l.length c], Ch.blk g2 24 [Value.int IntKind.i64 0, Value.slice none 0 0]]) [3, 3] ((Value.tuple #[Value.agg #[Value.int IntKind.i64 0, Value.slice none 0 0], Value.int IntKind.i64 (bad H l x)])) (by kernel_rfl) (by kernel_rfl) (give [0] (by kernel_rfl)) (by first | ((repeat (first | exact trivial | refine ⟨trivial, ?_⟩)); done) | assumption) ?_ (.inr rfl)
    exact ⟨none, 0, rfl, rfl⟩
  obtain ⟨hok, _⟩ := bad_ok hb
  rw [if_neg hb, show bad H l x = 0 from Classical.not_not.1 hb]
  refine wpr_run (l₂ := []) true [3] [] [(6, Value.int IntKind.i64 0), (5, Value.int IntKind.i64 0), (4, Value.pointer (some { block := g2, off := 0 })), (2, Value.pointer (some { block := g1, off := 0 })), (1, Value.int IntKind.i64 x)] [ro a (ints l), Ch.blk g1 24 [Value.int IntKind.i64 H, Value.slice a l.length c], Ch.blk g2 24 [Value.int IntKind.i64 0, Value.slice none 0 0]] [] (by kernel_rfl) (by kernel_rfl) trivial ?_
  refine wpr_nil ?_
  refine nx_then ?_
  refine wpc_seq ?_
  refine wpc_region [0, 1] (by kernel_rfl) ?_
  refine wpr_run (l₂ := []) true [0, 1] [] [(11, Value.bool false), (6, Value.int IntKind.i64 0), (5, Value.int IntKind.i64 0), (4, Value.pointer (some { block := g2, off := 0 })), (2, Value.pointer (some { block := g1, off := 0 })), (1, Value.int IntKind.i64 x)] [ro a (ints l), Ch.blk g1 24 [Value.int IntKind.i64 H, Value.slice a l.length c], Ch.blk g2 24 [Value.int IntKind.i64 0, Value.slice none 0 0]] [] (by kernel_rfl) (by kernel_rfl) trivial ?_
  refine wpr_nil ?_
  refine nx_then ?_
  refine wpc_false (by kernel_rfl) ?_
  refine wpc_skip ?_
  refine nx_then ?_
  refine wpc_seq ?_
  refine wpc_seq ?_
  refine wpc_region [0, 1, 2, 3] (by kernel_rfl) ?_
  refine wpr_run (l₂ := []) true [0, 1, 2, 3] [1] [(17, Value.bool (H != x)), (5, Value.int IntKind.i64 0), (4, Value.pointer (some { block := g2, off := 0 })), (2, Value.pointer (some { block := g1, off := 0 }))] [ro a (ints l), Ch.blk g1 24 [Value.int IntKind.i64 H, Value.slice a l.length c], Ch.blk g2 24 [Value.int IntKind.i64 0, Value.slice none 0 0]] [] (by kernel_rfl) (by kernel_rfl) trivial ?_
  refine wpr_nil ?_
  refine nx_then ?_
  by_cases hH : H ≠ x
  · rw [if_pos hH]
    refine wpc_ent (ent_set 17 (Value.bool (H != x)) (Value.bool true) (by kernel_rfl) (congrArg _ (by simpa using hH))) ?_
    refine wpc_true (by kernel_rfl) ?_
    refine wpc_seq ?_
    refine wpc_region [0, 1, 2] (by kernel_rfl) ?_
    refine wpr_run (l₂ := []) true [0, 1, 2] [2, 2] [(5, Value.int IntKind.i64 15), (4, Value.pointer (some { block := g2, off := 0 })), (2, Value.pointer (some { block := g1, off := 0 }))] [ro a (ints l), Ch.blk g1 24 [Value.int IntKind.i64 H, Value.slice a l.length c], Ch.blk g2 24 [Value.int IntKind.i64 0, Value.slice none 0 0]] [] (by kernel_rfl) (by kernel_rfl) trivial ?_
    refine wpr_nil ?_
    refine nx_then ?_
    refine wpc_ret ?_
    refine nx_then_ret ?_
    refine nx_ent (ent_nil 3 1) ?_
    refine nx_end (hp' := [row 3 1 none 0 0 []]) (rest := [ro a (ints l), Ch.blk g1 24 [Value.int IntKind.i64 H, Value.slice a l.length c], Ch.blk g2 24 [Value.int IntKind.i64 0, Value.slice none 0 0]]) [3, 3] ((Value.tuple #[Value.agg #[Value.int IntKind.i64 0, Value.slice none 0 0], Value.int IntKind.i64 15])) (by kernel_rfl) (by kernel_rfl) (give [0] (by kernel_rfl)) (by first | ((repeat (first | exact trivial | refine ⟨trivial, ?_⟩)); done) | assumption) ?_ (.inr rfl)
    exact ⟨none, 0, rfl, rfl⟩
  rw [if_neg hH]
  refine wpc_ent (ent_set 17 (Value.bool (H != x)) (Value.bool false) (by kernel_rfl) (congrArg _ (by simpa using hH))) ?_
  refine wpc_false (by kernel_rfl) ?_
  refine wpc_skip ?_
  refine nx_then ?_
  refine wpc_seq ?_
  refine wpc_region [0, 1, 2, 3, 4, 5] (by kernel_rfl) ?_
  refine wpr_run (l₂ := [2, 3, 4, 5]) true [0, 1] [1] [(20, Value.slice a l.length c), (5, Value.int IntKind.i64 0), (4, Value.pointer (some { block := g2, off := 0 }))] [ro a (ints l), Ch.blk g1 24 [Value.int IntKind.i64 H, Value.slice a l.length c], Ch.blk g2 24 [Value.int IntKind.i64 0, Value.slice none 0 0]] [] (by kernel_rfl) (by kernel_rfl) trivial ?_
  refine wpr_call (dst := some 21) (rest := [ro a (ints l), Ch.blk g1 24 [Value.int IntKind.i64 H, Value.slice a l.length c], Ch.blk g2 24 [Value.int IntKind.i64 0, Value.slice none 0 0]]) (by kernel_rfl) (without_spec a c l 0 ha hl) (Give.view (c := (ro a (ints l))) (give (pre := []) (rest := [ro a (ints l), Ch.blk g1 24 [Value.int IntKind.i64 H, Value.slice a l.length c], Ch.blk g2 24 [Value.int IntKind.i64 0, Value.slice none 0 0]]) [] (by kernel_rfl)) 0 (by kernel_rfl) view_ro) ?_
  rintro v hp' ⟨a1, c1, rfl, rfl⟩
  rw [filter0 hok]
  refine wpr_run (l₂ := []) true [3, 4, 5] [3, 3] [(5, Value.int IntKind.i64 0), (4, Value.pointer (some { block := g2, off := 0 }))] [row 3 1 a1 l.length c1 (ints l), ro a (ints l), Ch.blk g1 24 [Value.int IntKind.i64 H, Value.slice a l.length c], Ch.blk g2 24 [Value.int IntKind.i64 0, Value.slice a1 l.length c1]] [] (by kernel_rfl) (by kernel_rfl) trivial ?_
  refine wpr_nil ?_
  refine nx_then ?_
  refine wpc_ret ?_
  refine nx_end (hp' := [row 3 1 a1 l.length c1 (ints l)]) (rest := [ro a (ints l), Ch.blk g1 24 [Value.int IntKind.i64 H, Value.slice a l.length c], Ch.blk g2 24 [Value.int IntKind.i64 0, Value.slice a1 l.length c1]]) [3, 3] ((Value.tuple #[Value.agg #[Value.int IntKind.i64 0, Value.slice a1 l.length c1], Value.int IntKind.i64 0])) (by kernel_rfl) (by kernel_rfl) (give [0] (by kernel_rfl)) (by first | ((repeat (first | exact trivial | refine ⟨trivial, ?_⟩)); done) | assumption) ?_ (.inr rfl)
  exact ⟨a1, c1, rfl, rfl⟩

theorem rLeave_spec (H : Int) (a : Option Addr) (c : Nat) (l : List Int) (x : Int) (ha : a = none → l = []) (hl : l.length ≤ 1099511627776) :
    Does Try.prog 21 [fl H a l.length c, .int .i64 x] [ro a (ints l)]
      (fun r hp' => ∃ a' c', r = .tuple #[fl (leave H l x).2.1 a' (leave H l x).2.2.length c', .int .i64 (leave H l x).1] ∧ hp' = [row 3 1 a' (leave H l x).2.2.length c' (ints (leave H l x).2.2)]) := by
  unfold leave
  refine fn_enter Try.func21 rfl 26 rfl fun w0 h0 => ?_
  refine wpc_seq ?_
  refine wpc_region [0, 1, 2] (by kernel_rfl) ?_
  refine wpr_new (l₂ := [1, 2]) true [0] [] (fun g1 => [(2, Value.pointer (some { block := g1, off := 0 })), (1, Value.int IntKind.i64 x)]) (fun g1 => [ro a (ints l), Ch.blk g1 24 [Value.int IntKind.i64 H, Value.slice a l.length c]]) (fun g1 => []) (fun g1 => by kernel_rfl) (fun g1 => by kernel_rfl) (fun g1 => trivial) fun g1 => ?_
  refine wpr_new (l₂ := [2]) true [1] [] (fun g2 => [(4, Value.pointer (some { block := g2, off := 0 })), (2, Value.pointer (some { block := g1, off := 0 })), (1, Value.int IntKind.i64 x)]) (fun g2 => [ro a (ints l), Ch.blk g1 24 [Value.int IntKind.i64 H, Value.slice a l.length c], Ch.blk g2 24 [Value.int IntKind.i64 0, Value.slice none 0 0]]) (fun g2 => []) (fun g2 => by kernel_rfl) (fun g2 => by kernel_rfl) (fun g2 => trivial) fun g2 => ?_
  refine wpr_run (l₂ := []) true [2] [] [(5, Value.int IntKind.i64 0), (4, Value.pointer (some { block := g2, off := 0 })), (2, Value.pointer (some { block := g1, off := 0 })), (1, Value.int IntKind.i64 x)] [ro a (ints l), Ch.blk g1 24 [Value.int IntKind.i64 H, Value.slice a l.length c], Ch.blk g2 24 [Value.int IntKind.i64 0, Value.slice none 0 0]] [] (by kernel_rfl) (by kernel_rfl) trivial ?_
  refine wpr_nil ?_
  refine nx_then ?_
  refine wpc_seq ?_
  refine wpc_seq ?_
  refine wpc_region [0, 1, 2, 3] (by kernel_rfl) ?_
  refine wpr_run (l₂ := [2, 3]) true [0, 1] [1, 1] [(8, Value.int IntKind.i64 x), (7, Value.agg #[Value.int IntKind.i64 H, Value.slice a l.length c]), (5, Value.int IntKind.i64 0), (4, Value.pointer (some { block := g2, off := 0 })), (2, Value.pointer (some { block := g1, off := 0 })), (1, Value.int IntKind.i64 x)] [ro a (ints l), Ch.blk g1 24 [Value.int IntKind.i64 H, Value.slice a l.length c], Ch.blk g2 24 [Value.int IntKind.i64 0, Value.slice none 0 0]] [] (by kernel_rfl) (by kernel_rfl) trivial ?_
  refine wpr_call (dst := some 9) (rest := [ro a (ints l), Ch.blk g1 24 [Value.int IntKind.i64 H, Value.slice a l.length c], Ch.blk g2 24 [Value.int IntKind.i64 0, Value.slice none 0 0]]) (by kernel_rfl) (rbad_spec H a c l x ha hl) (Give.view (c := (ro a (ints l))) (give (pre := []) (rest := [ro a (ints l), Ch.blk g1 24 [Value.int IntKind.i64 H, Value.slice a l.length c], Ch.blk g2 24 [Value.int IntKind.i64 0, Value.slice none 0 0]]) [] (by kernel_rfl)) 0 (by kernel_rfl) view_ro) ?_
  rintro v hp' ⟨rfl, rfl⟩
  by_cases hb : bad H l x ≠ 0
  · rw [if_pos hb]
    refine wpr_run (l₂ := []) true [3] [] [(6, Value.int IntKind.i64 (bad H l x)), (5, Value.int IntKind.i64 0), (4, Value.pointer (some { block := g2, off := 0 })), (2, Value.pointer (some { block := g1, off := 0 })), (1, Value.int IntKind.i64 x)] [ro a (ints l), Ch.blk g1 24 [Value.int IntKind.i64 H, Value.slice a l.length c], Ch.blk g2 24 [Value.int IntKind.i64 0, Value.slice none 0 0]] [] (by kernel_rfl) (by kernel_rfl) trivial ?_
    refine wpr_nil ?_
    refine nx_then ?_
    refine wpc_seq ?_
    refine wpc_region [0, 1] (by kernel_rfl) ?_
    refine wpr_run (l₂ := []) true [0, 1] [] [(11, Value.bool (bad H l x != 0)), (6, Value.int IntKind.i64 (bad H l x)), (5, Value.int IntKind.i64 0), (4, Value.pointer (some { block := g2, off := 0 })), (2, Value.pointer (some { block := g1, off := 0 })), (1, Value.int IntKind.i64 x)] [ro a (ints l), Ch.blk g1 24 [Value.int IntKind.i64 H, Value.slice a l.length c], Ch.blk g2 24 [Value.int IntKind.i64 0, Value.slice none 0 0]] [] (by kernel_rfl) (by kernel_rfl) trivial ?_
    refine wpr_nil ?_
    refine nx_then ?_
    refine wpc_ent (ent_set 11 (Value.bool (bad H l x != 0)) (Value.bool true) (by kernel_rfl) (congrArg _ (by simpa using hb))) ?_
    refine wpc_true (by kernel_rfl) ?_
    refine wpc_seq ?_
    refine wpc_region [0, 1, 2, 3] (by kernel_rfl) ?_
    refine wpr_run (l₂ := []) true [0, 1, 2, 3] [2, 2] [(5, Value.int IntKind.i64 (bad H l x)), (4, Value.pointer (some { block := g2, off := 0 })), (2, Value.pointer (some { block := g1, off := 0 })), (1, Value.int IntKind.i64 x)] [ro a (ints l), Ch.blk g1 24 [Value.int IntKind.i64 H, Value.slice a l.length c], Ch.blk g2 24 [Value.int IntKind.i64 0, Value.slice none 0 0]] [] (by kernel_rfl) (by kernel_rfl) trivial ?_
    refine wpr_nil ?_
    refine nx_then ?_
    refine wpc_ret ?_
    refine nx_then_ret ?_
    refine nx_ent (ent_nil 3 1) ?_
    refine nx_end (hp' := [row 3 1 none 0 0 []]) (rest := [ro a (ints l), Ch.blk g1 24 [Value.int IntKind.i64 H, Value.slice a l.length c], Ch.blk g2 24 [Value.int IntKind.i64 0, Value.slice none 0 0]]) [3, 3] ((Value.tuple #[Value.agg #[Value.int IntKind.i64 0, Value.slice none 0 0], Value.int IntKind.i64 (bad H l x)])) (by kernel_rfl) (by kernel_rfl) (give [0] (by kernel_rfl)) (by first | ((repeat (first | exact trivial | refine ⟨trivial, ?_⟩)); done) | assumption) ?_ (.inr rfl)
    exact ⟨none, 0, rfl, rfl⟩
  obtain ⟨hok, _⟩ := bad_ok hb
  rw [if_neg hb, show bad H l x = 0 from Classical.not_not.1 hb]
  refine wpr_run (l₂ := []) true [3] [] [(6, Value.int IntKind.i64 0), (5, Value.int IntKind.i64 0), (4, Value.pointer (some { block := g2, off := 0 })), (2, Value.pointer (some { block := g1, off := 0 })), (1, Value.int IntKind.i64 x)] [ro a (ints l), Ch.blk g1 24 [Value.int IntKind.i64 H, Value.slice a l.length c], Ch.blk g2 24 [Value.int IntKind.i64 0, Value.slice none 0 0]] [] (by kernel_rfl) (by kernel_rfl) trivial ?_
  refine wpr_nil ?_
  refine nx_then ?_
  refine wpc_seq ?_
  refine wpc_region [0, 1] (by kernel_rfl) ?_
  refine wpr_run (l₂ := []) true [0, 1] [] [(11, Value.bool false), (6, Value.int IntKind.i64 0), (5, Value.int IntKind.i64 0), (4, Value.pointer (some { block := g2, off := 0 })), (2, Value.pointer (some { block := g1, off := 0 })), (1, Value.int IntKind.i64 x)] [ro a (ints l), Ch.blk g1 24 [Value.int IntKind.i64 H, Value.slice a l.length c], Ch.blk g2 24 [Value.int IntKind.i64 0, Value.slice none 0 0]] [] (by kernel_rfl) (by kernel_rfl) trivial ?_
  refine wpr_nil ?_
  refine nx_then ?_
  refine wpc_false (by kernel_rfl) ?_
  refine wpc_skip ?_
  refine nx_then ?_
  refine wpc_seq ?_
  refine wpc_seq ?_
  refine wpc_region [0, 1, 2, 3] (by kernel_rfl) ?_
  refine wpr_run (l₂ := []) true [0, 1, 2, 3] [1] [(17, Value.bool (H == x)), (5, Value.int IntKind.i64 0), (4, Value.pointer (some { block := g2, off := 0 })), (2, Value.pointer (some { block := g1, off := 0 })), (1, Value.int IntKind.i64 x)] [ro a (ints l), Ch.blk g1 24 [Value.int IntKind.i64 H, Value.slice a l.length c], Ch.blk g2 24 [Value.int IntKind.i64 0, Value.slice none 0 0]] [] (by kernel_rfl) (by kernel_rfl) trivial ?_
  refine wpr_nil ?_
  refine nx_then ?_
  by_cases hH : H = x
  · rw [if_pos hH]
    refine wpc_ent (ent_set 17 (Value.bool (H == x)) (Value.bool true) (by kernel_rfl) (congrArg _ (by simpa using hH))) ?_
    refine wpc_true (by kernel_rfl) ?_
    refine wpc_region [0, 1] (by kernel_rfl) ?_
    refine wpr_run (l₂ := []) true [0, 1] [1] [(5, Value.int IntKind.i64 0), (4, Value.pointer (some { block := g2, off := 0 })), (2, Value.pointer (some { block := g1, off := 0 })), (1, Value.int IntKind.i64 x)] [ro a (ints l), Ch.blk g1 24 [Value.int IntKind.i64 0, Value.slice a l.length c], Ch.blk g2 24 [Value.int IntKind.i64 0, Value.slice none 0 0]] [] (by kernel_rfl) (by kernel_rfl) trivial ?_
    refine wpr_nil ?_
    refine nx_then ?_
    refine wpc_seq ?_
    refine wpc_draw (by kernel_rfl) [ro a (ints l), Ch.blk g1 24 [Value.int IntKind.i64 0, Value.slice a l.length c]] (sub_of [0, 1] (by kernel_rfl)) 9 (by kernel_rfl) ?_
    refine wpa_take true [(0, []), (1, [1]), (2, []), (3, [1]), (4, [])] [(23, Value.int IntKind.i64 x), (22, Value.slice a l.length c), (20, Value.int IntKind.i64 0), (5, Value.int IntKind.i64 0), (4, Value.pointer (some { block := g2, off := 0 }))] (#[true, true, true, true, true, false, false, false, false]) [] (n := 4) (by kernel_rfl) (by kernel_rfl) (by kernel_rfl) trivial ?_
    refine wpa_call (i := 5) (n := 3) (dst := some 24) (rest := [ro a (ints l), Ch.blk g1 24 [Value.int IntKind.i64 0, Value.slice a l.length c], Ch.blk g2 24 [Value.int IntKind.i64 0, Value.slice none 0 0]]) (by kernel_rfl) (by kernel_rfl) (without_spec a c l x ha hl) (Give.view (c := (ro a (ints l))) (give (pre := []) (rest := [ro a (ints l), Ch.blk g1 24 [Value.int IntKind.i64 0, Value.slice a l.length c], Ch.blk g2 24 [Value.int IntKind.i64 0, Value.slice none 0 0]]) [] (by kernel_rfl)) 0 (by kernel_rfl) view_ro) (sub_of [0, 1] (by kernel_rfl)) ?_
    rintro v hp' ⟨a1, c1, rfl, rfl⟩
    rw [filterc hok]
    refine wpa_take true [(6, [])] [(25, Value.agg #[Value.int IntKind.i64 0, Value.slice a1 (l.erase x).length c1]), (5, Value.int IntKind.i64 0), (4, Value.pointer (some { block := g2, off := 0 }))] (#[true, true, true, true, true, true, true, false, false]) [] (n := 2) (by kernel_rfl) (by kernel_rfl) (by kernel_rfl) trivial ?_
    refine wpa_one (n := 1) true 7 [3, 3] [(5, Value.int IntKind.i64 0), (4, Value.pointer (some { block := g2, off := 0 }))] [row 3 1 a1 (l.erase x).length c1 (ints (l.erase x)), ro a (ints l), Ch.blk g1 24 [Value.int IntKind.i64 0, Value.slice a l.length c], Ch.blk g2 24 [Value.int IntKind.i64 0, Value.slice a1 (l.erase x).length c1]] [] (by kernel_rfl) (by kernel_rfl) (by kernel_rfl) trivial (sub_of [1, 2] (by kernel_rfl)) ?_
    refine wpa_take true [(8, [])] [(5, Value.int IntKind.i64 0), (4, Value.pointer (some { block := g2, off := 0 }))] (#[true, true, true, true, true, true, true, true, true]) [] (n := 0) (by kernel_rfl) (by kernel_rfl) (by kernel_rfl) trivial ?_
    refine wpa_done 0 (by kernel_rfl) ?_
    refine nx_then ?_
    refine wpc_ret ?_
    refine nx_end (hp' := [row 3 1 a1 (l.erase x).length c1 (ints (l.erase x))]) (rest := [ro a (ints l), Ch.blk g1 24 [Value.int IntKind.i64 0, Value.slice a l.length c], Ch.blk g2 24 [Value.int IntKind.i64 0, Value.slice a1 (l.erase x).length c1]]) [3, 3] ((Value.tuple #[Value.agg #[Value.int IntKind.i64 0, Value.slice a1 (l.erase x).length c1], Value.int IntKind.i64 0])) (by kernel_rfl) (by kernel_rfl) (give [0] (by kernel_rfl)) (by first | ((repeat (first | exact trivial | refine ⟨trivial, ?_⟩)); done) | assumption) ?_ (.inr rfl)
    exact ⟨a1, c1, rfl, rfl⟩
  rw [if_neg hH]
  refine wpc_ent (ent_set 17 (Value.bool (H == x)) (Value.bool false) (by kernel_rfl) (congrArg _ (by simpa using hH))) ?_
  refine wpc_false (by kernel_rfl) ?_
  refine wpc_skip ?_
  refine nx_then ?_
  refine wpc_seq ?_
  refine wpc_draw (by kernel_rfl) [ro a (ints l), Ch.blk g1 24 [Value.int IntKind.i64 H, Value.slice a l.length c]] (sub_of [0, 1] (by kernel_rfl)) 9 (by kernel_rfl) ?_
  refine wpa_take true [(0, []), (1, [1]), (2, []), (3, [1]), (4, [])] [(23, Value.int IntKind.i64 x), (22, Value.slice a l.length c), (20, Value.int IntKind.i64 H), (5, Value.int IntKind.i64 0), (4, Value.pointer (some { block := g2, off := 0 }))] (#[true, true, true, true, true, false, false, false, false]) [] (n := 4) (by kernel_rfl) (by kernel_rfl) (by kernel_rfl) trivial ?_
  refine wpa_call (i := 5) (n := 3) (dst := some 24) (rest := [ro a (ints l), Ch.blk g1 24 [Value.int IntKind.i64 H, Value.slice a l.length c], Ch.blk g2 24 [Value.int IntKind.i64 0, Value.slice none 0 0]]) (by kernel_rfl) (by kernel_rfl) (without_spec a c l x ha hl) (Give.view (c := (ro a (ints l))) (give (pre := []) (rest := [ro a (ints l), Ch.blk g1 24 [Value.int IntKind.i64 H, Value.slice a l.length c], Ch.blk g2 24 [Value.int IntKind.i64 0, Value.slice none 0 0]]) [] (by kernel_rfl)) 0 (by kernel_rfl) view_ro) (sub_of [0, 1] (by kernel_rfl)) ?_
  rintro v hp' ⟨a1, c1, rfl, rfl⟩
  rw [filterc hok]
  refine wpa_take true [(6, [])] [(25, Value.agg #[Value.int IntKind.i64 H, Value.slice a1 (l.erase x).length c1]), (5, Value.int IntKind.i64 0), (4, Value.pointer (some { block := g2, off := 0 }))] (#[true, true, true, true, true, true, true, false, false]) [] (n := 2) (by kernel_rfl) (by kernel_rfl) (by kernel_rfl) trivial ?_
  refine wpa_one (n := 1) true 7 [3, 3] [(5, Value.int IntKind.i64 0), (4, Value.pointer (some { block := g2, off := 0 }))] [row 3 1 a1 (l.erase x).length c1 (ints (l.erase x)), ro a (ints l), Ch.blk g1 24 [Value.int IntKind.i64 H, Value.slice a l.length c], Ch.blk g2 24 [Value.int IntKind.i64 H, Value.slice a1 (l.erase x).length c1]] [] (by kernel_rfl) (by kernel_rfl) (by kernel_rfl) trivial (sub_of [1, 2] (by kernel_rfl)) ?_
  refine wpa_take true [(8, [])] [(5, Value.int IntKind.i64 0), (4, Value.pointer (some { block := g2, off := 0 }))] (#[true, true, true, true, true, true, true, true, true]) [] (n := 0) (by kernel_rfl) (by kernel_rfl) (by kernel_rfl) trivial ?_
  refine wpa_done 0 (by kernel_rfl) ?_
  refine nx_then ?_
  refine wpc_ret ?_
  refine nx_end (hp' := [row 3 1 a1 (l.erase x).length c1 (ints (l.erase x))]) (rest := [ro a (ints l), Ch.blk g1 24 [Value.int IntKind.i64 H, Value.slice a l.length c], Ch.blk g2 24 [Value.int IntKind.i64 H, Value.slice a1 (l.erase x).length c1]]) [3, 3] ((Value.tuple #[Value.agg #[Value.int IntKind.i64 H, Value.slice a1 (l.erase x).length c1], Value.int IntKind.i64 0])) (by kernel_rfl) (by kernel_rfl) (give [0] (by kernel_rfl)) (by first | ((repeat (first | exact trivial | refine ⟨trivial, ?_⟩)); done) | assumption) ?_ (.inr rfl)
  exact ⟨a1, c1, rfl, rfl⟩

theorem rGrant_spec (H : Int) (a : Option Addr) (c : Nat) (l : List Int) (x : Int) (ha : a = none → l = []) (hl : l.length ≤ 1099511627776) :
    Does Try.prog 12 [fl H a l.length c, .int .i64 x] [ro a (ints l)]
      (fun r hp' => ∃ a' c', r = .tuple #[fl (grant H l x).2.1 a' (grant H l x).2.2.length c', .int .i64 (grant H l x).1] ∧ hp' = [row 3 1 a' (grant H l x).2.2.length c' (ints (grant H l x).2.2)]) := by
  unfold grant
  refine fn_enter Try.func12 rfl 26 rfl fun w0 h0 => ?_
  refine wpc_seq ?_
  refine wpc_region [0, 1, 2] (by kernel_rfl) ?_
  refine wpr_new (l₂ := [1, 2]) true [0] [] (fun g1 => [(2, Value.pointer (some { block := g1, off := 0 })), (1, Value.int IntKind.i64 x)]) (fun g1 => [ro a (ints l), Ch.blk g1 24 [Value.int IntKind.i64 H, Value.slice a l.length c]]) (fun g1 => []) (fun g1 => by kernel_rfl) (fun g1 => by kernel_rfl) (fun g1 => trivial) fun g1 => ?_
  refine wpr_new (l₂ := [2]) true [1] [] (fun g2 => [(4, Value.pointer (some { block := g2, off := 0 })), (2, Value.pointer (some { block := g1, off := 0 })), (1, Value.int IntKind.i64 x)]) (fun g2 => [ro a (ints l), Ch.blk g1 24 [Value.int IntKind.i64 H, Value.slice a l.length c], Ch.blk g2 24 [Value.int IntKind.i64 0, Value.slice none 0 0]]) (fun g2 => []) (fun g2 => by kernel_rfl) (fun g2 => by kernel_rfl) (fun g2 => trivial) fun g2 => ?_
  refine wpr_run (l₂ := []) true [2] [] [(5, Value.int IntKind.i64 0), (4, Value.pointer (some { block := g2, off := 0 })), (2, Value.pointer (some { block := g1, off := 0 })), (1, Value.int IntKind.i64 x)] [ro a (ints l), Ch.blk g1 24 [Value.int IntKind.i64 H, Value.slice a l.length c], Ch.blk g2 24 [Value.int IntKind.i64 0, Value.slice none 0 0]] [] (by kernel_rfl) (by kernel_rfl) trivial ?_
  refine wpr_nil ?_
  refine nx_then ?_
  refine wpc_seq ?_
  refine wpc_seq ?_
  refine wpc_region [0, 1, 2, 3] (by kernel_rfl) ?_
  refine wpr_run (l₂ := [2, 3]) true [0, 1] [1, 1] [(8, Value.int IntKind.i64 x), (7, Value.agg #[Value.int IntKind.i64 H, Value.slice a l.length c]), (5, Value.int IntKind.i64 0), (4, Value.pointer (some { block := g2, off := 0 })), (2, Value.pointer (some { block := g1, off := 0 })), (1, Value.int IntKind.i64 x)] [ro a (ints l), Ch.blk g1 24 [Value.int IntKind.i64 H, Value.slice a l.length c], Ch.blk g2 24 [Value.int IntKind.i64 0, Value.slice none 0 0]] [] (by kernel_rfl) (by kernel_rfl) trivial ?_
  refine wpr_call (dst := some 9) (rest := [ro a (ints l), Ch.blk g1 24 [Value.int IntKind.i64 H, Value.slice a l.length c], Ch.blk g2 24 [Value.int IntKind.i64 0, Value.slice none 0 0]]) (by kernel_rfl) (rbad_spec H a c l x ha hl) (Give.view (c := (ro a (ints l))) (give (pre := []) (rest := [ro a (ints l), Ch.blk g1 24 [Value.int IntKind.i64 H, Value.slice a l.length c], Ch.blk g2 24 [Value.int IntKind.i64 0, Value.slice none 0 0]]) [] (by kernel_rfl)) 0 (by kernel_rfl) view_ro) ?_
  rintro v hp' ⟨rfl, rfl⟩
  by_cases hb : bad H l x ≠ 0
  · rw [if_pos hb]
    refine wpr_run (l₂ := []) true [3] [] [(6, Value.int IntKind.i64 (bad H l x)), (5, Value.int IntKind.i64 0), (4, Value.pointer (some { block := g2, off := 0 })), (2, Value.pointer (some { block := g1, off := 0 })), (1, Value.int IntKind.i64 x)] [ro a (ints l), Ch.blk g1 24 [Value.int IntKind.i64 H, Value.slice a l.length c], Ch.blk g2 24 [Value.int IntKind.i64 0, Value.slice none 0 0]] [] (by kernel_rfl) (by kernel_rfl) trivial ?_
    refine wpr_nil ?_
    refine nx_then ?_
    refine wpc_seq ?_
    refine wpc_region [0, 1] (by kernel_rfl) ?_
    refine wpr_run (l₂ := []) true [0, 1] [] [(11, Value.bool (bad H l x != 0)), (6, Value.int IntKind.i64 (bad H l x)), (5, Value.int IntKind.i64 0), (4, Value.pointer (some { block := g2, off := 0 })), (2, Value.pointer (some { block := g1, off := 0 })), (1, Value.int IntKind.i64 x)] [ro a (ints l), Ch.blk g1 24 [Value.int IntKind.i64 H, Value.slice a l.length c], Ch.blk g2 24 [Value.int IntKind.i64 0, Value.slice none 0 0]] [] (by kernel_rfl) (by kernel_rfl) trivial ?_
    refine wpr_nil ?_
    refine nx_then ?_
    refine wpc_ent (ent_set 11 (Value.bool (bad H l x != 0)) (Value.bool true) (by kernel_rfl) (congrArg _ (by simpa using hb))) ?_
    refine wpc_true (by kernel_rfl) ?_
    refine wpc_seq ?_
    refine wpc_region [0, 1, 2, 3] (by kernel_rfl) ?_
    refine wpr_run (l₂ := []) true [0, 1, 2, 3] [2, 2] [(5, Value.int IntKind.i64 (bad H l x)), (4, Value.pointer (some { block := g2, off := 0 })), (2, Value.pointer (some { block := g1, off := 0 })), (1, Value.int IntKind.i64 x)] [ro a (ints l), Ch.blk g1 24 [Value.int IntKind.i64 H, Value.slice a l.length c], Ch.blk g2 24 [Value.int IntKind.i64 0, Value.slice none 0 0]] [] (by kernel_rfl) (by kernel_rfl) trivial ?_
    refine wpr_nil ?_
    refine nx_then ?_
    refine wpc_ret ?_
    refine nx_then_ret ?_
    refine nx_ent (ent_nil 3 1) ?_
    refine nx_end (hp' := [row 3 1 none 0 0 []]) (rest := [ro a (ints l), Ch.blk g1 24 [Value.int IntKind.i64 H, Value.slice a l.length c], Ch.blk g2 24 [Value.int IntKind.i64 0, Value.slice none 0 0]]) [3, 3] ((Value.tuple #[Value.agg #[Value.int IntKind.i64 0, Value.slice none 0 0], Value.int IntKind.i64 (bad H l x)])) (by kernel_rfl) (by kernel_rfl) (give [0] (by kernel_rfl)) (by first | ((repeat (first | exact trivial | refine ⟨trivial, ?_⟩)); done) | assumption) ?_ (.inr rfl)
    exact ⟨none, 0, rfl, rfl⟩
  obtain ⟨hok, _⟩ := bad_ok hb
  rw [if_neg hb, show bad H l x = 0 from Classical.not_not.1 hb]
  refine wpr_run (l₂ := []) true [3] [] [(6, Value.int IntKind.i64 0), (5, Value.int IntKind.i64 0), (4, Value.pointer (some { block := g2, off := 0 })), (2, Value.pointer (some { block := g1, off := 0 })), (1, Value.int IntKind.i64 x)] [ro a (ints l), Ch.blk g1 24 [Value.int IntKind.i64 H, Value.slice a l.length c], Ch.blk g2 24 [Value.int IntKind.i64 0, Value.slice none 0 0]] [] (by kernel_rfl) (by kernel_rfl) trivial ?_
  refine wpr_nil ?_
  refine nx_then ?_
  refine wpc_seq ?_
  refine wpc_region [0, 1] (by kernel_rfl) ?_
  refine wpr_run (l₂ := []) true [0, 1] [] [(11, Value.bool false), (6, Value.int IntKind.i64 0), (5, Value.int IntKind.i64 0), (4, Value.pointer (some { block := g2, off := 0 })), (2, Value.pointer (some { block := g1, off := 0 })), (1, Value.int IntKind.i64 x)] [ro a (ints l), Ch.blk g1 24 [Value.int IntKind.i64 H, Value.slice a l.length c], Ch.blk g2 24 [Value.int IntKind.i64 0, Value.slice none 0 0]] [] (by kernel_rfl) (by kernel_rfl) trivial ?_
  refine wpr_nil ?_
  refine nx_then ?_
  refine wpc_false (by kernel_rfl) ?_
  refine wpc_skip ?_
  refine nx_then ?_
  refine wpc_seq ?_
  refine wpc_seq ?_
  refine wpc_region [0, 1, 2, 3, 4] (by kernel_rfl) ?_
  refine wpr_run (l₂ := [3, 4]) true [0, 1, 2] [1] [(16, Value.int IntKind.i64 x), (15, Value.slice a l.length c), (5, Value.int IntKind.i64 0), (4, Value.pointer (some { block := g2, off := 0 })), (2, Value.pointer (some { block := g1, off := 0 })), (1, Value.int IntKind.i64 x)] [ro a (ints l), Ch.blk g1 24 [Value.int IntKind.i64 H, Value.slice a l.length c], Ch.blk g2 24 [Value.int IntKind.i64 0, Value.slice none 0 0]] [] (by kernel_rfl) (by kernel_rfl) trivial ?_
  refine wpr_call (dst := some 17) (rest := [ro a (ints l), Ch.blk g1 24 [Value.int IntKind.i64 H, Value.slice a l.length c], Ch.blk g2 24 [Value.int IntKind.i64 0, Value.slice none 0 0]]) (by kernel_rfl) (waits_spec a c l x ha hl) (Give.view (c := (ro a (ints l))) (give (pre := []) (rest := [ro a (ints l), Ch.blk g1 24 [Value.int IntKind.i64 H, Value.slice a l.length c], Ch.blk g2 24 [Value.int IntKind.i64 0, Value.slice none 0 0]]) [] (by kernel_rfl)) 0 (by kernel_rfl) view_ro) ?_
  rintro v hp' ⟨rfl, rfl⟩
  by_cases hx : x ∈ l
  · rw [if_pos hx, hok.2.2.2.count, if_pos hx]
    refine wpr_run (l₂ := []) true [4] [] [(18, Value.bool false), (5, Value.int IntKind.i64 0), (4, Value.pointer (some { block := g2, off := 0 })), (2, Value.pointer (some { block := g1, off := 0 })), (1, Value.int IntKind.i64 x)] [ro a (ints l), Ch.blk g1 24 [Value.int IntKind.i64 H, Value.slice a l.length c], Ch.blk g2 24 [Value.int IntKind.i64 0, Value.slice none 0 0]] [] (by kernel_rfl) (by kernel_rfl) trivial ?_
    refine wpr_nil ?_
    refine nx_then ?_
    refine wpc_false (by kernel_rfl) ?_
    refine wpc_skip ?_
    refine nx_then ?_
    refine wpc_seq ?_
    refine wpc_region [0, 1, 2, 3, 4, 5, 6, 7] (by kernel_rfl) ?_
    refine wpr_run (l₂ := [4, 5, 6, 7]) true [0, 1, 2, 3] [1] [(23, Value.int IntKind.i64 x), (22, Value.slice a l.length c), (20, Value.int IntKind.i64 x), (5, Value.int IntKind.i64 0), (4, Value.pointer (some { block := g2, off := 0 }))] [ro a (ints l), Ch.blk g1 24 [Value.int IntKind.i64 H, Value.slice a l.length c], Ch.blk g2 24 [Value.int IntKind.i64 0, Value.slice none 0 0]] [] (by kernel_rfl) (by kernel_rfl) trivial ?_
    refine wpr_call (dst := some 24) (rest := [ro a (ints l), Ch.blk g1 24 [Value.int IntKind.i64 H, Value.slice a l.length c], Ch.blk g2 24 [Value.int IntKind.i64 0, Value.slice none 0 0]]) (by kernel_rfl) (without_spec a c l x ha hl) (Give.view (c := (ro a (ints l))) (give (pre := []) (rest := [ro a (ints l), Ch.blk g1 24 [Value.int IntKind.i64 H, Value.slice a l.length c], Ch.blk g2 24 [Value.int IntKind.i64 0, Value.slice none 0 0]]) [] (by kernel_rfl)) 0 (by kernel_rfl) view_ro) ?_
    rintro v hp' ⟨a1, c1, rfl, rfl⟩
    rw [filterc hok]
    refine wpr_run (l₂ := []) true [5, 6, 7] [3, 3] [(5, Value.int IntKind.i64 0), (4, Value.pointer (some { block := g2, off := 0 }))] [row 3 1 a1 (l.erase x).length c1 (ints (l.erase x)), ro a (ints l), Ch.blk g1 24 [Value.int IntKind.i64 H, Value.slice a l.length c], Ch.blk g2 24 [Value.int IntKind.i64 x, Value.slice a1 (l.erase x).length c1]] [] (by kernel_rfl) (by kernel_rfl) trivial ?_
    refine wpr_nil ?_
    refine nx_then ?_
    refine wpc_ret ?_
    refine nx_end (hp' := [row 3 1 a1 (l.erase x).length c1 (ints (l.erase x))]) (rest := [ro a (ints l), Ch.blk g1 24 [Value.int IntKind.i64 H, Value.slice a l.length c], Ch.blk g2 24 [Value.int IntKind.i64 x, Value.slice a1 (l.erase x).length c1]]) [3, 3] ((Value.tuple #[Value.agg #[Value.int IntKind.i64 x, Value.slice a1 (l.erase x).length c1], Value.int IntKind.i64 0])) (by kernel_rfl) (by kernel_rfl) (give [0] (by kernel_rfl)) (by first | ((repeat (first | exact trivial | refine ⟨trivial, ?_⟩)); done) | assumption) ?_ (.inr rfl)
    exact ⟨a1, c1, rfl, rfl⟩
  rw [if_neg hx, List.count_eq_zero_of_not_mem hx]
  refine wpr_run (l₂ := []) true [4] [] [(18, Value.bool true), (5, Value.int IntKind.i64 0), (4, Value.pointer (some { block := g2, off := 0 })), (2, Value.pointer (some { block := g1, off := 0 })), (1, Value.int IntKind.i64 x)] [ro a (ints l), Ch.blk g1 24 [Value.int IntKind.i64 H, Value.slice a l.length c], Ch.blk g2 24 [Value.int IntKind.i64 0, Value.slice none 0 0]] [] (by kernel_rfl) (by kernel_rfl) trivial ?_
  refine wpr_nil ?_
  refine nx_then ?_
  refine wpc_true (by kernel_rfl) ?_
  refine wpc_seq ?_
  refine wpc_region [0, 1, 2] (by kernel_rfl) ?_
  refine wpr_run (l₂ := []) true [0, 1, 2] [2, 2] [(5, Value.int IntKind.i64 10), (4, Value.pointer (some { block := g2, off := 0 })), (2, Value.pointer (some { block := g1, off := 0 })), (1, Value.int IntKind.i64 x)] [ro a (ints l), Ch.blk g1 24 [Value.int IntKind.i64 H, Value.slice a l.length c], Ch.blk g2 24 [Value.int IntKind.i64 0, Value.slice none 0 0]] [] (by kernel_rfl) (by kernel_rfl) trivial ?_
  refine wpr_nil ?_
  refine nx_then ?_
  refine wpc_ret ?_
  refine nx_then_ret ?_
  refine nx_ent (ent_nil 3 1) ?_
  refine nx_end (hp' := [row 3 1 none 0 0 []]) (rest := [ro a (ints l), Ch.blk g1 24 [Value.int IntKind.i64 H, Value.slice a l.length c], Ch.blk g2 24 [Value.int IntKind.i64 0, Value.slice none 0 0]]) [3, 3] ((Value.tuple #[Value.agg #[Value.int IntKind.i64 0, Value.slice none 0 0], Value.int IntKind.i64 10])) (by kernel_rfl) (by kernel_rfl) (give [0] (by kernel_rfl)) (by first | ((repeat (first | exact trivial | refine ⟨trivial, ?_⟩)); done) | assumption) ?_ (.inr rfl)
  exact ⟨none, 0, rfl, rfl⟩

theorem rRequest_spec (H : Int) (a : Option Addr) (c : Nat) (l : List Int) (x : Int) (ha : a = none → l = []) (hl : l.length ≤ 1099511627776) :
    Does Try.prog 10 [fl H a l.length c, .int .i64 x] [ro a (ints l)]
      (fun r hp' => ∃ a' c', r = .tuple #[fl (req H l x).2.1 a' (req H l x).2.2.length c', .int .i64 (req H l x).1] ∧ hp' = [row 3 1 a' (req H l x).2.2.length c' (ints (req H l x).2.2)]) := by
  unfold req
  refine fn_enter Try.func10 rfl 40 rfl fun w0 h0 => ?_
  refine wpc_seq ?_
  refine wpc_region [0, 1, 2] (by kernel_rfl) ?_
  refine wpr_new (l₂ := [1, 2]) true [0] [] (fun g1 => [(2, Value.pointer (some { block := g1, off := 0 })), (1, Value.int IntKind.i64 x)]) (fun g1 => [ro a (ints l), Ch.blk g1 24 [Value.int IntKind.i64 H, Value.slice a l.length c]]) (fun g1 => []) (fun g1 => by kernel_rfl) (fun g1 => by kernel_rfl) (fun g1 => trivial) fun g1 => ?_
  refine wpr_new (l₂ := [2]) true [1] [] (fun g2 => [(4, Value.pointer (some { block := g2, off := 0 })), (2, Value.pointer (some { block := g1, off := 0 })), (1, Value.int IntKind.i64 x)]) (fun g2 => [ro a (ints l), Ch.blk g1 24 [Value.int IntKind.i64 H, Value.slice a l.length c], Ch.blk g2 24 [Value.int IntKind.i64 0, Value.slice none 0 0]]) (fun g2 => []) (fun g2 => by kernel_rfl) (fun g2 => by kernel_rfl) (fun g2 => trivial) fun g2 => ?_
  refine wpr_run (l₂ := []) true [2] [] [(5, Value.int IntKind.i64 0), (4, Value.pointer (some { block := g2, off := 0 })), (2, Value.pointer (some { block := g1, off := 0 })), (1, Value.int IntKind.i64 x)] [ro a (ints l), Ch.blk g1 24 [Value.int IntKind.i64 H, Value.slice a l.length c], Ch.blk g2 24 [Value.int IntKind.i64 0, Value.slice none 0 0]] [] (by kernel_rfl) (by kernel_rfl) trivial ?_
  refine wpr_nil ?_
  refine nx_then ?_
  refine wpc_seq ?_
  refine wpc_seq ?_
  refine wpc_region [0, 1, 2, 3] (by kernel_rfl) ?_
  refine wpr_run (l₂ := [2, 3]) true [0, 1] [1, 1] [(8, Value.int IntKind.i64 x), (7, Value.agg #[Value.int IntKind.i64 H, Value.slice a l.length c]), (5, Value.int IntKind.i64 0), (4, Value.pointer (some { block := g2, off := 0 })), (2, Value.pointer (some { block := g1, off := 0 })), (1, Value.int IntKind.i64 x)] [ro a (ints l), Ch.blk g1 24 [Value.int IntKind.i64 H, Value.slice a l.length c], Ch.blk g2 24 [Value.int IntKind.i64 0, Value.slice none 0 0]] [] (by kernel_rfl) (by kernel_rfl) trivial ?_
  refine wpr_call (dst := some 9) (rest := [ro a (ints l), Ch.blk g1 24 [Value.int IntKind.i64 H, Value.slice a l.length c], Ch.blk g2 24 [Value.int IntKind.i64 0, Value.slice none 0 0]]) (by kernel_rfl) (rbad_spec H a c l x ha hl) (Give.view (c := (ro a (ints l))) (give (pre := []) (rest := [ro a (ints l), Ch.blk g1 24 [Value.int IntKind.i64 H, Value.slice a l.length c], Ch.blk g2 24 [Value.int IntKind.i64 0, Value.slice none 0 0]]) [] (by kernel_rfl)) 0 (by kernel_rfl) view_ro) ?_
  rintro v hp' ⟨rfl, rfl⟩
  by_cases hb : bad H l x ≠ 0
  · rw [if_pos hb]
    refine wpr_run (l₂ := []) true [3] [] [(6, Value.int IntKind.i64 (bad H l x)), (5, Value.int IntKind.i64 0), (4, Value.pointer (some { block := g2, off := 0 })), (2, Value.pointer (some { block := g1, off := 0 })), (1, Value.int IntKind.i64 x)] [ro a (ints l), Ch.blk g1 24 [Value.int IntKind.i64 H, Value.slice a l.length c], Ch.blk g2 24 [Value.int IntKind.i64 0, Value.slice none 0 0]] [] (by kernel_rfl) (by kernel_rfl) trivial ?_
    refine wpr_nil ?_
    refine nx_then ?_
    refine wpc_seq ?_
    refine wpc_region [0, 1] (by kernel_rfl) ?_
    refine wpr_run (l₂ := []) true [0, 1] [] [(11, Value.bool (bad H l x != 0)), (6, Value.int IntKind.i64 (bad H l x)), (5, Value.int IntKind.i64 0), (4, Value.pointer (some { block := g2, off := 0 })), (2, Value.pointer (some { block := g1, off := 0 })), (1, Value.int IntKind.i64 x)] [ro a (ints l), Ch.blk g1 24 [Value.int IntKind.i64 H, Value.slice a l.length c], Ch.blk g2 24 [Value.int IntKind.i64 0, Value.slice none 0 0]] [] (by kernel_rfl) (by kernel_rfl) trivial ?_
    refine wpr_nil ?_
    refine nx_then ?_
    refine wpc_ent (ent_set 11 (Value.bool (bad H l x != 0)) (Value.bool true) (by kernel_rfl) (congrArg _ (by simpa using hb))) ?_
    refine wpc_true (by kernel_rfl) ?_
    refine wpc_seq ?_
    refine wpc_region [0, 1, 2, 3] (by kernel_rfl) ?_
    refine wpr_run (l₂ := []) true [0, 1, 2, 3] [2, 2] [(5, Value.int IntKind.i64 (bad H l x)), (4, Value.pointer (some { block := g2, off := 0 })), (2, Value.pointer (some { block := g1, off := 0 })), (1, Value.int IntKind.i64 x)] [ro a (ints l), Ch.blk g1 24 [Value.int IntKind.i64 H, Value.slice a l.length c], Ch.blk g2 24 [Value.int IntKind.i64 0, Value.slice none 0 0]] [] (by kernel_rfl) (by kernel_rfl) trivial ?_
    refine wpr_nil ?_
    refine nx_then ?_
    refine wpc_ret ?_
    refine nx_then_ret ?_
    refine nx_ent (ent_nil 3 1) ?_
    refine nx_end (hp' := [row 3 1 none 0 0 []]) (rest := [ro a (ints l), Ch.blk g1 24 [Value.int IntKind.i64 H, Value.slice a l.length c], Ch.blk g2 24 [Value.int IntKind.i64 0, Value.slice none 0 0]]) [3, 3] ((Value.tuple #[Value.agg #[Value.int IntKind.i64 0, Value.slice none 0 0], Value.int IntKind.i64 (bad H l x)])) (by kernel_rfl) (by kernel_rfl) (give [0] (by kernel_rfl)) (by first | ((repeat (first | exact trivial | refine ⟨trivial, ?_⟩)); done) | assumption) ?_ (.inr rfl)
    exact ⟨none, 0, rfl, rfl⟩
  obtain ⟨hok, _⟩ := bad_ok hb
  rw [if_neg hb, show bad H l x = 0 from Classical.not_not.1 hb]
  refine wpr_run (l₂ := []) true [3] [] [(6, Value.int IntKind.i64 0), (5, Value.int IntKind.i64 0), (4, Value.pointer (some { block := g2, off := 0 })), (2, Value.pointer (some { block := g1, off := 0 })), (1, Value.int IntKind.i64 x)] [ro a (ints l), Ch.blk g1 24 [Value.int IntKind.i64 H, Value.slice a l.length c], Ch.blk g2 24 [Value.int IntKind.i64 0, Value.slice none 0 0]] [] (by kernel_rfl) (by kernel_rfl) trivial ?_
  refine wpr_nil ?_
  refine nx_then ?_
  refine wpc_seq ?_
  refine wpc_region [0, 1] (by kernel_rfl) ?_
  refine wpr_run (l₂ := []) true [0, 1] [] [(11, Value.bool false), (6, Value.int IntKind.i64 0), (5, Value.int IntKind.i64 0), (4, Value.pointer (some { block := g2, off := 0 })), (2, Value.pointer (some { block := g1, off := 0 })), (1, Value.int IntKind.i64 x)] [ro a (ints l), Ch.blk g1 24 [Value.int IntKind.i64 H, Value.slice a l.length c], Ch.blk g2 24 [Value.int IntKind.i64 0, Value.slice none 0 0]] [] (by kernel_rfl) (by kernel_rfl) trivial ?_
  refine wpr_nil ?_
  refine nx_then ?_
  refine wpc_false (by kernel_rfl) ?_
  refine wpc_skip ?_
  refine nx_then ?_
  refine wpc_seq ?_
  refine wpc_seq ?_
  refine wpc_region [0, 1, 2, 3, 4, 5, 6, 7, 8, 9, 10] (by kernel_rfl) ?_
  refine wpr_run (l₂ := [5, 6, 7, 8, 9, 10]) true [0, 1, 2, 3, 4] [1] [(18, Value.bool (H == x)), (5, Value.int IntKind.i64 0), (4, Value.pointer (some { block := g2, off := 0 })), (2, Value.pointer (some { block := g1, off := 0 })), (1, Value.int IntKind.i64 x)] [ro a (ints l), Ch.blk g1 24 [Value.int IntKind.i64 H, Value.slice a l.length c], Ch.blk g2 24 [Value.int IntKind.i64 0, Value.slice none 0 0]] [] (by kernel_rfl) (by kernel_rfl) trivial ?_
  by_cases hH : H = x
  · rw [if_pos (.inl hH)]
    refine wpr_ent (ent_set 18 (Value.bool (H == x)) (Value.bool true) (by kernel_rfl) (congrArg _ (by simpa using hH))) ?_
    refine wpr_run (l₂ := []) true [5, 6, 7, 8, 9, 10] [] [(24, Value.bool true), (5, Value.int IntKind.i64 0), (4, Value.pointer (some { block := g2, off := 0 })), (2, Value.pointer (some { block := g1, off := 0 })), (1, Value.int IntKind.i64 x)] [ro a (ints l), Ch.blk g1 24 [Value.int IntKind.i64 H, Value.slice a l.length c], Ch.blk g2 24 [Value.int IntKind.i64 0, Value.slice none 0 0]] [] (by kernel_rfl) (by kernel_rfl) trivial ?_
    refine wpr_nil ?_
    refine nx_then ?_
    refine wpc_true (by kernel_rfl) ?_
    refine wpc_seq ?_
    refine wpc_region [0, 1, 2] (by kernel_rfl) ?_
    refine wpr_run (l₂ := []) true [0, 1, 2] [2, 2] [(5, Value.int IntKind.i64 11), (4, Value.pointer (some { block := g2, off := 0 })), (2, Value.pointer (some { block := g1, off := 0 })), (1, Value.int IntKind.i64 x)] [ro a (ints l), Ch.blk g1 24 [Value.int IntKind.i64 H, Value.slice a l.length c], Ch.blk g2 24 [Value.int IntKind.i64 0, Value.slice none 0 0]] [] (by kernel_rfl) (by kernel_rfl) trivial ?_
    refine wpr_nil ?_
    refine nx_then ?_
    refine wpc_ret ?_
    refine nx_then_ret ?_
    refine nx_ent (ent_nil 3 1) ?_
    refine nx_end (hp' := [row 3 1 none 0 0 []]) (rest := [ro a (ints l), Ch.blk g1 24 [Value.int IntKind.i64 H, Value.slice a l.length c], Ch.blk g2 24 [Value.int IntKind.i64 0, Value.slice none 0 0]]) [3, 3] ((Value.tuple #[Value.agg #[Value.int IntKind.i64 0, Value.slice none 0 0], Value.int IntKind.i64 11])) (by kernel_rfl) (by kernel_rfl) (give [0] (by kernel_rfl)) (by first | ((repeat (first | exact trivial | refine ⟨trivial, ?_⟩)); done) | assumption) ?_ (.inr rfl)
    exact ⟨none, 0, rfl, rfl⟩
  refine wpr_ent (ent_set 18 (Value.bool (H == x)) (Value.bool false) (by kernel_rfl) (congrArg _ (by simpa using hH))) ?_
  refine wpr_run (l₂ := [8, 9, 10]) true [5, 6, 7] [1] [(21, Value.int IntKind.i64 x), (20, Value.slice a l.length c), (18, Value.bool false), (5, Value.int IntKind.i64 0), (4, Value.pointer (some { block := g2, off := 0 })), (2, Value.pointer (some { block := g1, off := 0 })), (1, Value.int IntKind.i64 x)] [ro a (ints l), Ch.blk g1 24 [Value.int IntKind.i64 H, Value.slice a l.length c], Ch.blk g2 24 [Value.int IntKind.i64 0, Value.slice none 0 0]] [] (by kernel_rfl) (by kernel_rfl) trivial ?_
  refine wpr_call (dst := some 22) (rest := [ro a (ints l), Ch.blk g1 24 [Value.int IntKind.i64 H, Value.slice a l.length c], Ch.blk g2 24 [Value.int IntKind.i64 0, Value.slice none 0 0]]) (by kernel_rfl) (waits_spec a c l x ha hl) (Give.view (c := (ro a (ints l))) (give (pre := []) (rest := [ro a (ints l), Ch.blk g1 24 [Value.int IntKind.i64 H, Value.slice a l.length c], Ch.blk g2 24 [Value.int IntKind.i64 0, Value.slice none 0 0]]) [] (by kernel_rfl)) 0 (by kernel_rfl) view_ro) ?_
  rintro v hp' ⟨rfl, rfl⟩
  by_cases hx : x ∈ l
  · rw [if_pos (.inr hx), hok.2.2.2.count, if_pos hx]
    refine wpr_run (l₂ := []) true [9, 10] [] [(24, Value.bool true), (5, Value.int IntKind.i64 0), (4, Value.pointer (some { block := g2, off := 0 })), (2, Value.pointer (some { block := g1, off := 0 })), (1, Value.int IntKind.i64 x)] [ro a (ints l), Ch.blk g1 24 [Value.int IntKind.i64 H, Value.slice a l.length c], Ch.blk g2 24 [Value.int IntKind.i64 0, Value.slice none 0 0]] [] (by kernel_rfl) (by kernel_rfl) trivial ?_
    refine wpr_nil ?_
    refine nx_then ?_
    refine wpc_true (by kernel_rfl) ?_
    refine wpc_seq ?_
    refine wpc_region [0, 1, 2] (by kernel_rfl) ?_
    refine wpr_run (l₂ := []) true [0, 1, 2] [2, 2] [(5, Value.int IntKind.i64 11), (4, Value.pointer (some { block := g2, off := 0 })), (2, Value.pointer (some { block := g1, off := 0 })), (1, Value.int IntKind.i64 x)] [ro a (ints l), Ch.blk g1 24 [Value.int IntKind.i64 H, Value.slice a l.length c], Ch.blk g2 24 [Value.int IntKind.i64 0, Value.slice none 0 0]] [] (by kernel_rfl) (by kernel_rfl) trivial ?_
    refine wpr_nil ?_
    refine nx_then ?_
    refine wpc_ret ?_
    refine nx_then_ret ?_
    refine nx_ent (ent_nil 3 1) ?_
    refine nx_end (hp' := [row 3 1 none 0 0 []]) (rest := [ro a (ints l), Ch.blk g1 24 [Value.int IntKind.i64 H, Value.slice a l.length c], Ch.blk g2 24 [Value.int IntKind.i64 0, Value.slice none 0 0]]) [3, 3] ((Value.tuple #[Value.agg #[Value.int IntKind.i64 0, Value.slice none 0 0], Value.int IntKind.i64 11])) (by kernel_rfl) (by kernel_rfl) (give [0] (by kernel_rfl)) (by first | ((repeat (first | exact trivial | refine ⟨trivial, ?_⟩)); done) | assumption) ?_ (.inr rfl)
    exact ⟨none, 0, rfl, rfl⟩
  rw [if_neg (fun h => h.elim hH hx), List.count_eq_zero_of_not_mem hx]
  refine wpr_run (l₂ := []) true [9, 10] [] [(24, Value.bool false), (5, Value.int IntKind.i64 0), (4, Value.pointer (some { block := g2, off := 0 })), (2, Value.pointer (some { block := g1, off := 0 })), (1, Value.int IntKind.i64 x)] [ro a (ints l), Ch.blk g1 24 [Value.int IntKind.i64 H, Value.slice a l.length c], Ch.blk g2 24 [Value.int IntKind.i64 0, Value.slice none 0 0]] [] (by kernel_rfl) (by kernel_rfl) trivial ?_
  refine wpr_nil ?_
  refine nx_then ?_
  refine wpc_false (by kernel_rfl) ?_
  refine wpc_skip ?_
  refine nx_then ?_
  refine wpc_seq ?_
  refine wpc_seq ?_
  refine wpc_region [0, 1, 2, 3] (by kernel_rfl) ?_
  refine wpr_run (l₂ := []) true [0, 1, 2, 3] [1] [(29, Value.bool (decide ((↑l.length : Int) ≥ 4))), (5, Value.int IntKind.i64 0), (4, Value.pointer (some { block := g2, off := 0 })), (2, Value.pointer (some { block := g1, off := 0 })), (1, Value.int IntKind.i64 x)] [ro a (ints l), Ch.blk g1 24 [Value.int IntKind.i64 H, Value.slice a l.length c], Ch.blk g2 24 [Value.int IntKind.i64 0, Value.slice none 0 0]] [] (by kernel_rfl) (by kernel_rfl) trivial ?_
  refine wpr_nil ?_
  refine nx_then ?_
  have hl4 := hok.2.1
  by_cases h4 : l.length = 4
  · rw [if_pos h4]
    refine wpc_ent (ent_set 29 (Value.bool (decide ((↑l.length : Int) ≥ 4))) (Value.bool true) (by kernel_rfl) (congrArg _ (decide_eq_true (by omega)))) ?_
    refine wpc_true (by kernel_rfl) ?_
    refine wpc_seq ?_
    refine wpc_region [0, 1, 2] (by kernel_rfl) ?_
    refine wpr_run (l₂ := []) true [0, 1, 2] [2, 2] [(5, Value.int IntKind.i64 12), (4, Value.pointer (some { block := g2, off := 0 })), (2, Value.pointer (some { block := g1, off := 0 })), (1, Value.int IntKind.i64 x)] [ro a (ints l), Ch.blk g1 24 [Value.int IntKind.i64 H, Value.slice a l.length c], Ch.blk g2 24 [Value.int IntKind.i64 0, Value.slice none 0 0]] [] (by kernel_rfl) (by kernel_rfl) trivial ?_
    refine wpr_nil ?_
    refine nx_then ?_
    refine wpc_ret ?_
    refine nx_then_ret ?_
    refine nx_ent (ent_nil 3 1) ?_
    refine nx_end (hp' := [row 3 1 none 0 0 []]) (rest := [ro a (ints l), Ch.blk g1 24 [Value.int IntKind.i64 H, Value.slice a l.length c], Ch.blk g2 24 [Value.int IntKind.i64 0, Value.slice none 0 0]]) [3, 3] ((Value.tuple #[Value.agg #[Value.int IntKind.i64 0, Value.slice none 0 0], Value.int IntKind.i64 12])) (by kernel_rfl) (by kernel_rfl) (give [0] (by kernel_rfl)) (by first | ((repeat (first | exact trivial | refine ⟨trivial, ?_⟩)); done) | assumption) ?_ (.inr rfl)
    exact ⟨none, 0, rfl, rfl⟩
  rw [if_neg h4]
  refine wpc_ent (ent_set 29 (Value.bool (decide ((↑l.length : Int) ≥ 4))) (Value.bool false) (by kernel_rfl) (congrArg _ (decide_eq_false (by omega)))) ?_
  refine wpc_false (by kernel_rfl) ?_
  refine wpc_skip ?_
  refine nx_then ?_
  refine wpc_seq ?_
  refine wpc_draw (by kernel_rfl) [ro a (ints l), Ch.blk g1 24 [Value.int IntKind.i64 H, Value.slice a l.length c]] (sub_of [0, 1] (by kernel_rfl)) 11 (by kernel_rfl) ?_
  refine wpa_take true [(0, []), (1, [1]), (2, []), (3, [1]), (5, [])] [(36, Value.int IntKind.i64 x), (34, Value.slice a l.length c), (32, Value.int IntKind.i64 H), (5, Value.int IntKind.i64 0), (4, Value.pointer (some { block := g2, off := 0 }))] (#[true, true, true, true, false, true, false, false, false, false, false]) [] (n := 6) (by kernel_rfl) (by kernel_rfl) (by kernel_rfl) trivial ?_
  refine wpa_two (i := 4) (j := 6) (n := 5) (by kernel_rfl) ?_ ?_
  · refine wpi_call (i := 4) (dst := some 35) (rest := [ro a (ints l), Ch.blk g1 24 [Value.int IntKind.i64 H, Value.slice a l.length c], Ch.blk g2 24 [Value.int IntKind.i64 0, Value.slice none 0 0]]) (by kernel_rfl) (without_spec a c l 0 ha hl) (Give.view (c := (ro a (ints l))) (give (pre := []) (rest := [ro a (ints l), Ch.blk g1 24 [Value.int IntKind.i64 H, Value.slice a l.length c], Ch.blk g2 24 [Value.int IntKind.i64 0, Value.slice none 0 0]]) [] (by kernel_rfl)) 0 (by kernel_rfl) view_ro) (sub_of [0, 1] (by kernel_rfl)) ?_
    rintro v hp' ⟨a1, c1, rfl, rfl⟩
    rw [filter0 hok]
    refine wpa_new (n := 4) true 6 [] (fun g3 => [(37, Value.slice (some { block := g3, off := 0 }) 1 1), (35, Value.slice a1 l.length c1), (32, Value.int IntKind.i64 H), (5, Value.int IntKind.i64 0), (4, Value.pointer (some { block := g2, off := 0 }))]) (fun g3 => [row 3 1 a1 l.length c1 (ints l), ro a (ints l), Ch.blk g1 24 [Value.int IntKind.i64 H, Value.slice a l.length c], Ch.blk g2 24 [Value.int IntKind.i64 0, Value.slice none 0 0], Ch.blk g3 3 [Value.int IntKind.i64 x]]) (fun g3 => []) (by kernel_rfl) (fun g3 => by kernel_rfl) (fun g3 => by kernel_rfl) (fun g3 => trivial) (fun g3 => sub_of [1, 2] (by kernel_rfl)) fun g3 => ?_
    refine wpa_ent (ent_turn 4 (ro (some ⟨g3, 0, none⟩) (ints [x])) rfl (turn_rints [x] rfl) rfl) ?_
    refine wpa_app (i := 7) (nf := 3) (by kernel_rfl) (a := a1) (n := l.length) (cap := c1) (x := (Value.slice (some { block := g3, off := 0 }) 1 1)) (t := 22) (xt := 22) (dst := some 38) (by kernel_rfl) (e := 3) (sz := 1) (bytes := 8) (by kernel_rfl) 0 (xs := (ints l)) (by kernel_rfl) (m := 1) (news := (ints [x])) (fun w h => src_ro h 4 rfl rfl (fun e => by cases e)) (by unfold maxLen; omega) (by omega) [0, 1] (by kernel_rfl) ?_
    intro a2 c2 hn
    rw [ints_append, show l.length + 1 = (l ++ [x]).length from by simp]
    refine wpa_take true [(8, [])] ([(39, Value.agg #[Value.int IntKind.i64 H, Value.slice a2 (l ++ [x]).length c2]), (5, Value.int IntKind.i64 0), (4, Value.pointer (some { block := g2, off := 0 }))]) (#[true, true, true, true, true, true, true, true, true, false, false]) [] (n := 2) (by kernel_rfl) (by kernel_rfl) (by kernel_rfl) trivial ?_
    refine wpa_one (n := 1) true 9 [3, 3] [(5, Value.int IntKind.i64 0), (4, Value.pointer (some { block := g2, off := 0 }))] ([row 3 1 a2 (l ++ [x]).length c2 (ints (l ++ [x])), ro a (ints l), Ch.blk g1 24 [Value.int IntKind.i64 H, Value.slice a l.length c], Ch.blk g2 24 [Value.int IntKind.i64 H, Value.slice a2 (l ++ [x]).length c2], ro (some { block := g3, off := 0 }) (ints [x])]) [] (by kernel_rfl) (by kernel_rfl) (by kernel_rfl) trivial (sub_of [1, 2] (by kernel_rfl)) ?_
    refine wpa_take true [(10, [])] [(5, Value.int IntKind.i64 0), (4, Value.pointer (some { block := g2, off := 0 }))] (#[true, true, true, true, true, true, true, true, true, true, true]) [] (n := 0) (by kernel_rfl) (by kernel_rfl) (by kernel_rfl) trivial ?_
    refine wpa_done 0 (by kernel_rfl) ?_
    refine nx_then ?_
    refine wpc_ret ?_
    refine nx_end (hp' := ([row 3 1 a2 (l ++ [x]).length c2 (ints (l ++ [x]))])) (rest := ([ro a (ints l), Ch.blk g1 24 [Value.int IntKind.i64 H, Value.slice a l.length c], Ch.blk g2 24 [Value.int IntKind.i64 H, Value.slice a2 (l ++ [x]).length c2], ro (some { block := g3, off := 0 }) (ints [x])])) [3, 3] ((Value.tuple #[Value.agg #[Value.int IntKind.i64 H, Value.slice a2 (l ++ [x]).length c2], Value.int IntKind.i64 0])) (by kernel_rfl) (by kernel_rfl) (give [0] (by kernel_rfl)) (by first | ((repeat (first | exact trivial | refine ⟨trivial, ?_⟩)); done) | assumption) ?_ (.inr rfl)
    exact ⟨a2, c2, rfl, rfl⟩
  · refine wpi_new (n := 5) true 6 [] (fun g3 => [(37, Value.slice (some { block := g3, off := 0 }) 1 1), (34, Value.slice a l.length c), (32, Value.int IntKind.i64 H), (5, Value.int IntKind.i64 0), (4, Value.pointer (some { block := g2, off := 0 }))]) (fun g3 => [ro a (ints l), Ch.blk g1 24 [Value.int IntKind.i64 H, Value.slice a l.length c], Ch.blk g2 24 [Value.int IntKind.i64 0, Value.slice none 0 0], Ch.blk g3 3 [Value.int IntKind.i64 x]]) (fun g3 => []) (fun g3 => by kernel_rfl) (fun g3 => by kernel_rfl) (fun g3 => trivial) (fun g3 => sub_of [0, 1] (by kernel_rfl)) fun g3 => ?_
    refine wpa_call (i := 4) (n := 4) (dst := some 35) (rest := [ro a (ints l), Ch.blk g1 24 [Value.int IntKind.i64 H, Value.slice a l.length c], Ch.blk g2 24 [Value.int IntKind.i64 0, Value.slice none 0 0], Ch.blk g3 3 [Value.int IntKind.i64 x]]) (by kernel_rfl) (by kernel_rfl) (without_spec a c l 0 ha hl) (Give.view (c := (ro a (ints l))) (give (pre := []) (rest := [ro a (ints l), Ch.blk g1 24 [Value.int IntKind.i64 H, Value.slice a l.length c], Ch.blk g2 24 [Value.int IntKind.i64 0, Value.slice none 0 0], Ch.blk g3 3 [Value.int IntKind.i64 x]]) [] (by kernel_rfl)) 0 (by kernel_rfl) view_ro) (sub_of [0, 1] (by kernel_rfl)) ?_
    rintro v hp' ⟨a1, c1, rfl, rfl⟩
    rw [filter0 hok]
    refine wpa_ent (ent_turn 4 (ro (some ⟨g3, 0, none⟩) (ints [x])) rfl (turn_rints [x] rfl) rfl) ?_
    refine wpa_app (i := 7) (nf := 3) (by kernel_rfl) (a := a1) (n := l.length) (cap := c1) (x := (Value.slice (some { block := g3, off := 0 }) 1 1)) (t := 22) (xt := 22) (dst := some 38) (by kernel_rfl) (e := 3) (sz := 1) (bytes := 8) (by kernel_rfl) 0 (xs := (ints l)) (by kernel_rfl) (m := 1) (news := (ints [x])) (fun w h => src_ro h 4 rfl rfl (fun e => by cases e)) (by unfold maxLen; omega) (by omega) [0, 1] (by kernel_rfl) ?_
    intro a2 c2 hn
    rw [ints_append, show l.length + 1 = (l ++ [x]).length from by simp]
    refine wpa_take true [(8, [])] ([(39, Value.agg #[Value.int IntKind.i64 H, Value.slice a2 (l ++ [x]).length c2]), (5, Value.int IntKind.i64 0), (4, Value.pointer (some { block := g2, off := 0 }))]) (#[true, true, true, true, true, true, true, true, true, false, false]) [] (n := 2) (by kernel_rfl) (by kernel_rfl) (by kernel_rfl) trivial ?_
    refine wpa_one (n := 1) true 9 [3, 3] [(5, Value.int IntKind.i64 0), (4, Value.pointer (some { block := g2, off := 0 }))] ([row 3 1 a2 (l ++ [x]).length c2 (ints (l ++ [x])), ro a (ints l), Ch.blk g1 24 [Value.int IntKind.i64 H, Value.slice a l.length c], Ch.blk g2 24 [Value.int IntKind.i64 H, Value.slice a2 (l ++ [x]).length c2], ro (some { block := g3, off := 0 }) (ints [x])]) [] (by kernel_rfl) (by kernel_rfl) (by kernel_rfl) trivial (sub_of [1, 2] (by kernel_rfl)) ?_
    refine wpa_take true [(10, [])] [(5, Value.int IntKind.i64 0), (4, Value.pointer (some { block := g2, off := 0 }))] (#[true, true, true, true, true, true, true, true, true, true, true]) [] (n := 0) (by kernel_rfl) (by kernel_rfl) (by kernel_rfl) trivial ?_
    refine wpa_done 0 (by kernel_rfl) ?_
    refine nx_then ?_
    refine wpc_ret ?_
    refine nx_end (hp' := ([row 3 1 a2 (l ++ [x]).length c2 (ints (l ++ [x]))])) (rest := ([ro a (ints l), Ch.blk g1 24 [Value.int IntKind.i64 H, Value.slice a l.length c], Ch.blk g2 24 [Value.int IntKind.i64 H, Value.slice a2 (l ++ [x]).length c2], ro (some { block := g3, off := 0 }) (ints [x])])) [3, 3] ((Value.tuple #[Value.agg #[Value.int IntKind.i64 H, Value.slice a2 (l ++ [x]).length c2], Value.int IntKind.i64 0])) (by kernel_rfl) (by kernel_rfl) (give [0] (by kernel_rfl)) (by first | ((repeat (first | exact trivial | refine ⟨trivial, ?_⟩)); done) | assumption) ?_ (.inr rfl)
    exact ⟨a2, c2, rfl, rfl⟩

structure SX (n : Nat) where
  i : Nat
  hi : i ≤ n
/-- Floors that are the same. -/
theorem Same_spec (H : Int) (a a' : Option Addr) (c c' : Nat) (l : List Int) (ha : a = none → l = []) (ha' : a' = none → l = []) (hl : l.length ≤ 1099511627776) :
    Does Try.prog 15 [fl H a l.length c, fl H a' l.length c'] [ro a (ints l), ro a' (ints l)] (fun r hp' => r = .bool true ∧ hp' = []) := by
  unfold fl
  refine fn_enter Try.func15 rfl 38 rfl fun w0 h0 => ?_
  refine wpc_seq ?_
  refine wpc_region [0, 1, 2] (by kernel_rfl) ?_
  refine wpr_new (l₂ := [1, 2]) true [0] [] (fun g1 => [(2, Value.pointer (some { block := g1, off := 0 })), (1, Value.agg #[Value.int IntKind.i64 H, Value.slice a' l.length c'])]) (fun g1 => [ro a (ints l), ro a' (ints l), Ch.blk g1 24 [Value.int IntKind.i64 H, Value.slice a l.length c]]) (fun g1 => []) (fun g1 => by kernel_rfl) (fun g1 => by kernel_rfl) (fun g1 => trivial) fun g1 => ?_
  refine wpr_new (l₂ := [2]) true [1] [] (fun g2 => [(3, Value.pointer (some { block := g2, off := 0 })), (2, Value.pointer (some { block := g1, off := 0 }))]) (fun g2 => [ro a (ints l), ro a' (ints l), Ch.blk g1 24 [Value.int IntKind.i64 H, Value.slice a l.length c], Ch.blk g2 24 [Value.int IntKind.i64 H, Value.slice a' l.length c']]) (fun g2 => []) (fun g2 => by kernel_rfl) (fun g2 => by kernel_rfl) (fun g2 => trivial) fun g2 => ?_
  refine wpr_run (l₂ := []) true [2] [] [(4, Value.bool false), (3, Value.pointer (some { block := g2, off := 0 })), (2, Value.pointer (some { block := g1, off := 0 }))] [ro a (ints l), ro a' (ints l), Ch.blk g1 24 [Value.int IntKind.i64 H, Value.slice a l.length c], Ch.blk g2 24 [Value.int IntKind.i64 H, Value.slice a' l.length c']] [] (by kernel_rfl) (by kernel_rfl) trivial ?_
  refine wpr_nil ?_
  refine nx_then ?_
  refine wpc_seq ?_
  refine wpc_seq ?_
  refine wpc_region [0, 1, 2, 3, 4, 5, 6, 7, 8, 9, 10, 11, 12, 13] (by kernel_rfl) ?_
  refine wpr_run (l₂ := [6, 7, 8, 9, 10, 11, 12, 13]) true [0, 1, 2, 3, 4, 5] [2, 3] [(11, Value.bool (H != H)), (4, Value.bool false), (3, Value.pointer (some { block := g2, off := 0 })), (2, Value.pointer (some { block := g1, off := 0 }))] [ro a (ints l), ro a' (ints l), Ch.blk g1 24 [Value.int IntKind.i64 H, Value.slice a l.length c], Ch.blk g2 24 [Value.int IntKind.i64 H, Value.slice a' l.length c']] [] (by kernel_rfl) (by kernel_rfl) trivial ?_
  refine wpr_ent (ent_set 11 (Value.bool (H != H)) (Value.bool false) (by kernel_rfl) (congrArg _ (by simp))) ?_
  refine wpr_run (l₂ := []) true [6, 7, 8, 9, 10, 11, 12, 13] [2, 3] [(19, Value.bool ((↑l.length : Int) != (↑l.length : Int))), (4, Value.bool false), (3, Value.pointer (some { block := g2, off := 0 })), (2, Value.pointer (some { block := g1, off := 0 }))] [ro a (ints l), ro a' (ints l), Ch.blk g1 24 [Value.int IntKind.i64 H, Value.slice a l.length c], Ch.blk g2 24 [Value.int IntKind.i64 H, Value.slice a' l.length c']] [] (by kernel_rfl) (by kernel_rfl) trivial ?_
  refine wpr_nil ?_
  refine nx_then ?_
  refine wpc_ent (ent_set 19 (Value.bool ((↑l.length : Int) != (↑l.length : Int))) (Value.bool false) (by kernel_rfl) (congrArg _ (by simp))) ?_
  refine wpc_false (by kernel_rfl) ?_
  refine wpc_skip ?_
  refine nx_then ?_
  refine wpc_seq ?_
  refine wpc_seq ?_
  refine wpc_region [0] (by kernel_rfl) ?_
  refine wpr_run (l₂ := []) true [0] [] [(5, Value.int IntKind.i64 0), (4, Value.bool false), (3, Value.pointer (some { block := g2, off := 0 })), (2, Value.pointer (some { block := g1, off := 0 }))] [ro a (ints l), ro a' (ints l), Ch.blk g1 24 [Value.int IntKind.i64 H, Value.slice a l.length c], Ch.blk g2 24 [Value.int IntKind.i64 H, Value.slice a' l.length c']] [] (by kernel_rfl) (by kernel_rfl) trivial ?_
  refine wpr_nil ?_
  refine nx_then ?_
  refine wpc_block ?_
  refine wpc_loop (X := SX l.length) (fun x => St.mk [(5, .int .i64 (x.i : Int)), (4, .bool false), (3, .pointer (some ⟨g2, 0, none⟩)), (2, .pointer (some ⟨g1, 0, none⟩))]
    [ro a (ints l), ro a' (ints l), .blk g1 24 [.int .i64 H, .slice a l.length c], .blk g2 24 [.int .i64 H, .slice a' l.length c']]) (fun x => l.length - x.i) ⟨0, Nat.zero_le _⟩ (ent_fr (by kernel_rfl)) ?_
  rintro ⟨i, hi⟩
  dsimp only
  refine wpc_seq ?_
  refine wpc_seq ?_
  refine wpc_region [0, 1, 2, 3, 4] (by kernel_rfl) ?_
  refine wpr_run (l₂ := []) true [0, 1, 2, 3, 4] [2] [(24, Value.bool (decide ((↑i : Int) < (↑l.length : Int)))), (5, Value.int IntKind.i64 (↑i : Int)), (4, Value.bool false), (3, Value.pointer (some { block := g2, off := 0 })), (2, Value.pointer (some { block := g1, off := 0 }))] [ro a (ints l), ro a' (ints l), Ch.blk g1 24 [Value.int IntKind.i64 H, Value.slice a l.length c], Ch.blk g2 24 [Value.int IntKind.i64 H, Value.slice a' l.length c']] [] (by kernel_rfl) (by kernel_rfl) trivial ?_
  refine wpr_nil ?_
  refine nx_then ?_
  refine wpc_if (((↑i : Int) < (↑l.length : Int))) (by kernel_rfl) (fun hlt => ?_) (fun hlt => ?_)
  · have hil : i < l.length := by omega
    refine wpc_fact (fun w h => ro_addr h 0 rfl (by rw [ints_len]; omega)) ?_
    rintro ⟨w1, o1, rfl⟩
    refine wpc_fact (fun w h => ro_addr h 1 rfl (by rw [ints_len]; omega)) ?_
    rintro ⟨w2, o2, rfl⟩
    refine wpc_skip ?_
    refine nx_then ?_
    refine wpc_seq ?_
    refine wpc_block ?_
    refine wpc_seq ?_
    refine wpc_draw (by kernel_rfl) [ro (some { block := w1, off := o1 }) (ints l), ro (some { block := w2, off := o2 }) (ints l), Ch.blk g1 24 [Value.int IntKind.i64 H, Value.slice (some { block := w1, off := o1 }) l.length c], Ch.blk g2 24 [Value.int IntKind.i64 H, Value.slice (some { block := w2, off := o2 }) l.length c']] (sub_of [0, 1, 2, 3] (by kernel_rfl)) 11 (by kernel_rfl) ?_
    refine wpa_take true [(0, []), (1, [2]), (2, []), (3, []), (5, []), (6, [3]), (7, []), (8, [])] ([(35, Value.pointer (some { block := w2, off := o2 + i * 1 })), (30, Value.pointer (some { block := w1, off := o1 + i * 1 })), (5, Value.int IntKind.i64 (↑i : Int)), (4, Value.bool false), (3, Value.pointer (some { block := g2, off := 0 })), (2, Value.pointer (some { block := g1, off := 0 }))]) (#[true, true, true, true, false, true, true, true, true, false, false]) [(0 : Int) ≤ (↑i : Int) ∧ (↑i : Int) < (↑l.length : Int), (0 : Int) ≤ (↑i : Int) ∧ (↑i : Int) < (↑l.length : Int)] (n := 3) (by kernel_rfl) (by kernel_rfl) (by kernel_rfl) ⟨by omega, by omega, trivial⟩ ?_
    refine wpa_qld (i := 4) (n := 2) (by kernel_rfl) (by kernel_rfl) (by kernel_rfl) (t := 3) (a := ({ block := w1, off := o1 + i * 1 })) (dst := some 31) (by kernel_rfl) false 1 (by kernel_rfl) (by simp) [.int .i64 l[i]] rfl (fun w h => ld_roL h 0 rfl (i * 1) (ints_at hil)) ?_
    refine wpa_qld (i := 9) (n := 1) (by kernel_rfl) (by kernel_rfl) (by kernel_rfl) (t := 3) (a := ({ block := w2, off := o2 + i * 1 })) (dst := some 36) (by kernel_rfl) false 1 (by kernel_rfl) (by simp) [.int .i64 l[i]] rfl (fun w h => ld_roL h 1 rfl (i * 1) (ints_at hil)) ?_
    refine wpa_take true [(10, [])] [(37, Value.bool (l[i] != l[i])), (5, Value.int IntKind.i64 (↑i : Int)), (4, Value.bool false), (3, Value.pointer (some { block := g2, off := 0 })), (2, Value.pointer (some { block := g1, off := 0 }))] (#[true, true, true, true, true, true, true, true, true, true, true]) [] (n := 0) (by kernel_rfl) (by kernel_rfl) (by kernel_rfl) trivial ?_
    refine wpa_done 0 (by kernel_rfl) ?_
    refine nx_then ?_
    refine wpc_ent (ent_set 37 (Value.bool (l[i] != l[i])) (Value.bool false) (by kernel_rfl) (congrArg _ (by simp))) ?_
    refine wpc_false (by kernel_rfl) ?_
    refine wpc_skip ?_
    refine nx_block ?_
    refine nx_then ?_
    refine wpc_region [0, 1, 2] (by kernel_rfl) ?_
    refine wpr_run (l₂ := []) true [0, 1, 2] [] ([(5, Value.int IntKind.i64 ((↑i : Int) + 1)), (4, Value.bool false), (3, Value.pointer (some { block := g2, off := 0 })), (2, Value.pointer (some { block := g1, off := 0 }))]) [ro (some { block := w1, off := o1 }) (ints l), ro (some { block := w2, off := o2 }) (ints l), Ch.blk g1 24 [Value.int IntKind.i64 H, Value.slice (some { block := w1, off := o1 }) l.length c], Ch.blk g2 24 [Value.int IntKind.i64 H, Value.slice (some { block := w2, off := o2 }) l.length c']] ([inI64 ((↑i : Int) + (1 : Int))]) (by kernel_rfl) (by kernel_rfl) ⟨by unfold inI64; omega, trivial⟩ ?_
    refine wpr_nil ?_
    exact fun a' w' hS' => ⟨⟨i + 1, by omega⟩, by dsimp only; omega, ent_fr (by kernel_rfl) _ _ (ent_hp [0, 0, 0, 0] rfl _ _ hS')⟩
  · refine wpc_exit ?_
    refine nx_then_exit ?_
    refine nx_then_exit ?_
    refine nx_block_here ?_
    refine nx_then ?_
    refine wpc_seq ?_
    refine wpc_region [0] (by kernel_rfl) ?_
    refine wpr_run (l₂ := []) true [0] [] [(4, Value.bool true)] [ro a (ints l), ro a' (ints l), Ch.blk g1 24 [Value.int IntKind.i64 H, Value.slice a l.length c], Ch.blk g2 24 [Value.int IntKind.i64 H, Value.slice a' l.length c']] [] (by kernel_rfl) (by kernel_rfl) trivial ?_
    refine wpr_nil ?_
    refine nx_then ?_
    refine wpc_ret ?_
    refine nx_end (hp' := []) (rest := [ro a (ints l), ro a' (ints l), Ch.blk g1 24 [Value.int IntKind.i64 H, Value.slice a l.length c], Ch.blk g2 24 [Value.int IntKind.i64 H, Value.slice a' l.length c']]) [] ((Value.bool true)) (by kernel_rfl) (by kernel_rfl) (give [] (by kernel_rfl)) (by first | ((repeat (first | exact trivial | refine ⟨trivial, ?_⟩)); done) | assumption) ?_ (.inr rfl)
    exact ⟨rfl, rfl⟩

/-- A floor in memory of its own, 77 behind those who wait. -/
theorem own_spec (H : Int) (a : Option Addr) (c : Nat) (l : List Int) (ha : a = none → l = []) (hl : l.length ≤ 1048576) :
    Does Try.prog 8 [fl H a l.length c] [ro a (ints l)] (fun r hp' => ∃ a' c', l.length + 1 ≤ c' ∧ (a' = none → False) ∧ r = fl H a' l.length c' ∧ hp' = [row 3 1 a' (l.length + 1) c' (ints (l ++ [77]))]) := by
  unfold fl
  refine fn_enter Try.func8 rfl 18 rfl fun w0 h0 => ?_
  refine wpc_seq ?_
  refine wpc_region [0, 1] (by kernel_rfl) ?_
  refine wpr_new (l₂ := [1]) true [0] [] (fun g1 => [(1, Value.pointer (some { block := g1, off := 0 }))]) (fun g1 => [ro a (ints l), Ch.blk g1 24 [Value.int IntKind.i64 H, Value.slice a l.length c]]) (fun g1 => []) (fun g1 => by kernel_rfl) (fun g1 => by kernel_rfl) (fun g1 => trivial) fun g1 => ?_
  refine wpr_new (l₂ := []) true [1] [] (fun g2 => [(2, Value.pointer (some { block := g2, off := 0 })), (1, Value.pointer (some { block := g1, off := 0 }))]) (fun g2 => [ro a (ints l), Ch.blk g1 24 [Value.int IntKind.i64 H, Value.slice a l.length c], Ch.blk g2 24 [Value.int IntKind.i64 0, Value.slice none 0 0]]) (fun g2 => []) (fun g2 => by kernel_rfl) (fun g2 => by kernel_rfl) (fun g2 => trivial) fun g2 => ?_
  refine wpr_nil ?_
  refine nx_then ?_
  refine wpc_seq ?_
  refine wpc_region [0, 1, 2, 3, 4, 5, 6] (by kernel_rfl) ?_
  refine wpr_new (l₂ := [1, 2, 3, 4, 5, 6]) true [0] [] (fun g3 => [(4, Value.slice (some { block := g3, off := 0 }) 0 0), (2, Value.pointer (some { block := g2, off := 0 })), (1, Value.pointer (some { block := g1, off := 0 }))]) (fun g3 => [ro a (ints l), Ch.blk g1 24 [Value.int IntKind.i64 H, Value.slice a l.length c], Ch.blk g2 24 [Value.int IntKind.i64 0, Value.slice none 0 0], Ch.blk g3 3 []]) (fun g3 => []) (fun g3 => by kernel_rfl) (fun g3 => by kernel_rfl) (fun g3 => trivial) fun g3 => ?_
  refine wpr_run (l₂ := [3, 4, 5, 6]) true [1, 2] [1] [(6, Value.slice a l.length c), (4, Value.slice (some { block := g3, off := 0 }) 0 0), (2, Value.pointer (some { block := g2, off := 0 })), (1, Value.pointer (some { block := g1, off := 0 }))] [ro a (ints l), Ch.blk g1 24 [Value.int IntKind.i64 H, Value.slice a l.length c], Ch.blk g2 24 [Value.int IntKind.i64 0, Value.slice none 0 0], Ch.blk g3 3 []] [] (by kernel_rfl) (by kernel_rfl) trivial ?_
  refine wpr_ent (ent_turn 3 (row 3 1 (some ⟨g3, 0, none⟩) 0 0 []) rfl (turn_blk rfl (by intro u hu; cases hu) (by simp)) rfl) ?_
  refine wpr_app (a := (some { block := g3, off := 0 })) (n := 0) (cap := 0) (x := (Value.slice a l.length c)) (t := 22) (xt := 22) (dst := some 7) (by kernel_rfl) (e := 3) (sz := 1) (bytes := 8) (by kernel_rfl) 3 (xs := []) (by kernel_rfl) (m := (l.length)) (news := (ints l)) (fun w h => src_ro h 0 rfl (by simp [ints_len]) (fun e => by rw [ha e]; rfl)) (by unfold maxLen; omega) (by omega) ?_
  intro a1 c1 hn1
  simp only [List.nil_append, Nat.zero_add]
  refine wpr_new (l₂ := [5, 6]) true [4] [] (fun g4 => [(8, Value.slice (some { block := g4, off := 0 }) 1 1), (7, Value.slice a1 l.length c1), (2, Value.pointer (some { block := g2, off := 0 })), (1, Value.pointer (some { block := g1, off := 0 }))]) (fun g4 => [ro a (ints l), Ch.blk g1 24 [Value.int IntKind.i64 H, Value.slice a l.length c], Ch.blk g2 24 [Value.int IntKind.i64 0, Value.slice none 0 0], row 3 1 a1 l.length c1 (ints l), Ch.blk g4 3 [Value.int IntKind.i64 77]]) (fun g4 => []) (fun g4 => by kernel_rfl) (fun g4 => by kernel_rfl) (fun g4 => trivial) fun g4 => ?_
  refine wpr_ent (ent_turn 4 (ro (some ⟨g4, 0, none⟩) (ints [77])) rfl (turn_rints [77] rfl) rfl) ?_
  refine wpr_app (a := a1) (n := l.length) (cap := c1) (x := (Value.slice (some { block := g4, off := 0 }) 1 1)) (t := 22) (xt := 22) (dst := some 9) (by kernel_rfl) (e := 3) (sz := 1) (bytes := 8) (by kernel_rfl) 3 (xs := (ints l)) (by kernel_rfl) (m := 1) (news := (ints [77])) (fun w h => src_ro h 4 rfl rfl (fun e => by cases e)) (by unfold maxLen; omega) (by omega) ?_
  intro a2 c2 hn2
  rw [ints_append]
  refine wpr_fact (fun w h => row_cap h 3 rfl) fun hcap => ?_
  have hcap2 := hcap.2.1
  refine wpr_run (l₂ := []) true [6] [] ([(3, Value.slice a2 (l.length + 1) c2), (2, Value.pointer (some { block := g2, off := 0 })), (1, Value.pointer (some { block := g1, off := 0 }))]) ([ro a (ints l), Ch.blk g1 24 [Value.int IntKind.i64 H, Value.slice a l.length c], Ch.blk g2 24 [Value.int IntKind.i64 0, Value.slice none 0 0], row 3 1 a2 (l.length + 1) c2 (ints (l ++ [77])), ro (some { block := g4, off := 0 }) (ints [77])]) [] (by kernel_rfl) (by kernel_rfl) trivial ?_
  refine wpr_nil ?_
  refine nx_then ?_
  refine wpc_seq ?_
  refine wpc_draw (by kernel_rfl) ([ro a (ints l), Ch.blk g1 24 [Value.int IntKind.i64 H, Value.slice a l.length c], row 3 1 a2 (l.length + 1) c2 (ints (l ++ [77])), ro (some { block := g4, off := 0 }) (ints [77])]) (sub_of [0, 1, 3, 4] (by kernel_rfl)) 9 (by kernel_rfl) ?_
  refine wpa_take true [(0, []), (1, [1]), (2, []), (3, []), (4, [1]), (5, []), (6, []), (7, [])] [(17, Value.agg #[Value.int IntKind.i64 H, Value.slice a2 l.length c2]), (2, Value.pointer (some { block := g2, off := 0 }))] (#[true, true, true, true, true, true, true, true, false]) [(0 : Int) ≤ (↑l.length : Int) ∧ (↑l.length : Int) ≤ (↑c2 : Int)] (n := 1) (by kernel_rfl) (by kernel_rfl) (by kernel_rfl) ⟨by omega, trivial⟩ ?_
  refine wpa_one (n := 0) true 8 [2, 2] [(2, Value.pointer (some { block := g2, off := 0 }))] ([ro a (ints l), Ch.blk g1 24 [Value.int IntKind.i64 H, Value.slice a l.length c], Ch.blk g2 24 [Value.int IntKind.i64 H, Value.slice a2 l.length c2], row 3 1 a2 (l.length + 1) c2 (ints (l ++ [77])), ro (some { block := g4, off := 0 }) (ints [77])]) [] (by kernel_rfl) (by kernel_rfl) (by kernel_rfl) trivial (sub_of [0, 1, 3, 4] (by kernel_rfl)) ?_
  refine wpa_done 0 (by kernel_rfl) ?_
  refine nx_then ?_
  refine wpc_ret ?_
  refine nx_end (hp' := ([row 3 1 a2 (l.length + 1) c2 (ints (l ++ [77]))])) (rest := [ro a (ints l), Ch.blk g1 24 [Value.int IntKind.i64 H, Value.slice a l.length c], Ch.blk g2 24 [Value.int IntKind.i64 H, Value.slice a2 l.length c2], ro (some { block := g4, off := 0 }) (ints [77])]) [2, 2] ((Value.agg #[Value.int IntKind.i64 H, Value.slice a2 l.length c2])) (by kernel_rfl) (by kernel_rfl) (give [3] (by kernel_rfl)) (by first | ((repeat (first | exact trivial | refine ⟨trivial, ?_⟩)); done) | assumption) ?_ (.inr rfl)
  exact ⟨a2, c2, hcap2, (fun e => by have := (hn2.1 e).2; omega), rfl, rfl⟩
end Go.Proofs.Ytoagfnobfbfdfaa
